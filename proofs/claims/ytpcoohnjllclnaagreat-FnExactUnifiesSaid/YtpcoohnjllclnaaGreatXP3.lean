/- Contracts of the program's functions on the evaluator without names, and plain lemmas: part 3. -/
import Derived.Test.YtpcoohnjllclnaaGreatXP2
set_option linter.unusedSimpArgs false
set_option linter.unusedVariables false
namespace Go.Proofs.YtpcoohnjllclnaaGreat.VS
def bs(P:Nat->Bool):Nat->Nat->Nat->Nat
 |0,i,_=>i
 |k+1,i,j=>if i<j then(if P ((i+j)/2)=true then bs P k ((i+j)/2+1) j else bs P k i ((i+j)/2))else i
theorem wn(P:Nat->Bool):∀(k i j:Nat),i<=j->j-i<=k->i<=bs P k i j/\bs P k i j<=j/\(bs P k i j=i\/P (bs P k i j-1)=true)/\(bs P k i j=j\/P (bs P k i j)=false)
 |0,i,j,h,m=>by have e:bs P 0 i j=i:=rfl;rw[e];exact⟨bN _,h,.inl rfl,.inl (by omega)⟩
 |k+1,i,j,h,m=>by
  simp only[bs]
  by_cases c:i<j
  ·rw[ay c]
   by_cases d:P ((i+j)/2)=true
   ·rw[ay d]
    obtain⟨g,l,a,b⟩:=wn P k ((i+j)/2+1) j (by omega) (by omega);refine⟨by omega,l,?_,b⟩;rcases a with a|a
    ·right;rw[a];simpa using d
    ·exact .inr a
   ·rw[aD d]
    obtain⟨g,l,a,b⟩:=wn P k i ((i+j)/2) (by omega) (by omega);refine⟨g,by omega,a,?_⟩;rcases b with b|b
    ·right;rw[b];simpa using d
    ·exact .inr b
  ·rw[aD c]
   exact⟨bN _,h,.inl rfl,.inl (by omega)⟩
theorem wrap_u64{n:Int}(b:0<=n)(a:n<=18446744073709551615):IntKind.u64.wrap n=n:=by simp[IntKind.wrap,IntKind.bits,IntKind.signed];omega
theorem o_(x:Int):d6 .shr .u64 x 1=some (.int .u64 (x.fdiv 2)):=rfl
theorem qOg(n:Nat):(n:Int).fdiv 2=((n/2:Nat):Int):=by rw[J7 _ (by omega)];omega
theorem Dm(i j:Nat)(h:i+j<=4398046511104):IntKind.i64.wrap ((i:Int)+j)=((i+j:Nat):Int)/\IntKind.u64.wrap ((i+j:Nat):Int)=((i+j:Nat):Int)/\((i+j:Nat):Int).fdiv 2=(((i+j)/2:Nat):Int)/\IntKind.i64.wrap (((i+j)/2:Nat):Int)=(((i+j)/2:Nat):Int):=⟨by rw[wrap_i64 (by omega) (by omega)];omega,wrap_u64 (by omega) (by omega),qOg _,wrap_i64 (by omega) (by omega)⟩
theorem Qr(l:ah)(a:Nat)(s:l.length<=1099511627776)(r:a<l.length)(u:∀t,t∈l->t.inner<=1099511627776):∀(k i j:Nat),i<=j->j-i<=k->j<=l.length->
 bo XV [70,74,122,126] 1 [0,1,4,10,11] td ⟨[(0,.tsl true 0 3 l.length),(1,aa a),(4,.fn 6 []),(10,aa i),(11,aa j)],[some (kc l)]⟩=
  some (.exit 0,⟨[(0,.tsl true 0 3 l.length),(1,aa a),(4,.fn 6 []),(10,aa (bs (fun h=>decide (T.cmp (ai l h) (ai l a)<0)) k i j:Nat)),(11,aa (bs (fun h=>decide (T.cmp (ai l h) (ai l a)<0)) k i j:Nat)),(33,au false)],[some (kc l)]⟩):=by
 have head:∀(i j:Nat),aA 1 [0,1,4,10,11] ⟨[(0,.tsl true 0 3 l.length),(1,aa a),(4,.fn 6 []),(10,aa i),(11,aa j)],[some (kc l)]⟩=some ⟨[(0,.tsl true 0 3 l.length),(1,aa a),(4,.fn 6 []),(10,aa i),(11,aa j)],[some (kc l)]⟩:=fun i j=>by simp[aA,aB,fl,ic,eL]
 have stop:∀i:Nat,bo XV [70,74,122,126] 1 [0,1,4,10,11] td ⟨[(0,.tsl true 0 3 l.length),(1,aa a),(4,.fn 6 []),(10,aa i),(11,aa i)],[some (kc l)]⟩=
  some (.exit 0,⟨[(0,.tsl true 0 3 l.length),(1,aa a),(4,.fn 6 []),(10,aa i),(11,aa i),(33,au false)],[some (kc l)]⟩):=fun i=>by
  refine dN (head _ _) ?_ (by simp);simp[td]
 intro k
 induction k with
 |zero=>
  intro i j h x q;have:i=j:=by omega
  subst this;exact stop i
 |succ k e=>
  intro i j h x q;simp only[bs]
  by_cases c:i<j
  ·rw[ay c]
   obtain⟨m,o,g,p⟩:=Dm i j (by omega);have hc:=qOx l a ((i+j)/2) s r (by omega) u i j;have w:=aV (n:=(i+j)/2) (by omega);have b:(i:Int)<j:=by omega
   by_cases d:T.cmp (ai l ((i+j)/2)) (ai l a)<0
   ·rw[ay (by simpa using d)]
    rw[<-e ((i+j)/2+1) j (by omega) (by omega) q];refine eb (head _ _) ?_;simp only[d,decide_true]at hc;generalize kc l=c0 at hc⊢
    generalize (((i+j)/2+1:Nat):Int)=gv1 at*
    generalize (((i+j)/2:Nat):Int)=gv2 at*
    generalize ((i+j:Nat):Int)=gv3 at*
    generalize (i:Int)=gv4 at*
    generalize (j:Int)=gv5 at*
    simp[td,b,m,o,g,p,o_];rw[hc];simp[w]
   ·rw[aD (by simpa using d)]
    rw[<-e i ((i+j)/2) (by omega) (by omega) (by omega)];refine eb (head _ _) ?_;simp only[d,decide_false]at hc;generalize kc l=c0 at hc⊢
    generalize (((i+j)/2+1:Nat):Int)=gv1 at*
    generalize (((i+j)/2:Nat):Int)=gv2 at*
    generalize ((i+j:Nat):Int)=gv3 at*
    generalize (i:Int)=gv4 at*
    generalize (j:Int)=gv5 at*
    simp[td,b,m,o,g,p,o_];rw[hc];simp
  ·rw[aD c]
   have:i=j:=by omega
   subst this;exact stop i
theorem WV(l:ah)(a:Nat)(s:l.length<=1099511627776)(r:a<l.length)(u:∀t,t∈l->t.inner<=1099511627776):∀(k i j:Nat),i<=j->j-i<=k->j<=l.length->
 bo XV [70,74,122,126] 1 [0,2,4,14,15] uo ⟨[(0,.tsl true 0 3 l.length),(2,aa a),(4,.fn 6 []),(14,aa i),(15,aa j)],[some (kc l)]⟩=
  some (.exit 4,⟨[(0,.tsl true 0 3 l.length),(2,aa a),(4,.fn 6 []),(14,aa (bs (fun h=> !decide (T.cmp (ai l a) (ai l h)<0)) k i j:Nat)),(15,aa (bs (fun h=> !decide (T.cmp (ai l a) (ai l h)<0)) k i j:Nat)),(85,au false)],[some (kc l)]⟩):=by
 have head:∀(i j:Nat),aA 1 [0,2,4,14,15] ⟨[(0,.tsl true 0 3 l.length),(2,aa a),(4,.fn 6 []),(14,aa i),(15,aa j)],[some (kc l)]⟩=some ⟨[(0,.tsl true 0 3 l.length),(2,aa a),(4,.fn 6 []),(14,aa i),(15,aa j)],[some (kc l)]⟩:=fun i j=>by simp[aA,aB,fl,ic,eL]
 have stop:∀i:Nat,bo XV [70,74,122,126] 1 [0,2,4,14,15] uo ⟨[(0,.tsl true 0 3 l.length),(2,aa a),(4,.fn 6 []),(14,aa i),(15,aa i)],[some (kc l)]⟩=
  some (.exit 4,⟨[(0,.tsl true 0 3 l.length),(2,aa a),(4,.fn 6 []),(14,aa i),(15,aa i),(85,au false)],[some (kc l)]⟩):=fun i=>by
  refine dN (head _ _) ?_ (by simp);simp[uo]
 intro k
 induction k with
 |zero=>
  intro i j h x q;have:i=j:=by omega
  subst this;exact stop i
 |succ k e=>
  intro i j h x q;simp only[bs]
  by_cases c:i<j
  ·rw[ay c]
   obtain⟨m,o,g,p⟩:=Dm i j (by omega);have hc:=Wc l a ((i+j)/2) s r (by omega) u i j;have w:=aV (n:=(i+j)/2) (by omega);have b:(i:Int)<j:=by omega
   by_cases d:¬T.cmp (ai l a) (ai l ((i+j)/2))<0
   ·rw[ay (by simpa using d)]
    rw[<-e ((i+j)/2+1) j (by omega) (by omega) q];refine eb (head _ _) ?_;simp only[d,decide_false,kF]at hc;generalize kc l=c0 at hc⊢
    generalize (((i+j)/2+1:Nat):Int)=gv1 at*
    generalize (((i+j)/2:Nat):Int)=gv2 at*
    generalize ((i+j:Nat):Int)=gv3 at*
    generalize (i:Int)=gv4 at*
    generalize (j:Int)=gv5 at*
    simp[uo,b,m,o,g,p,o_];rw[hc];simp[w]
   ·rw[aD (by simpa using d)]
    rw[<-e i ((i+j)/2) (by omega) (by omega) (by omega)];refine eb (head _ _) ?_;simp only[Classical.not_not.1 d,decide_true,lB]at hc;generalize kc l=c0 at hc⊢
    generalize (((i+j)/2+1:Nat):Int)=gv1 at*
    generalize (((i+j)/2:Nat):Int)=gv2 at*
    generalize ((i+j:Nat):Int)=gv3 at*
    generalize (i:Int)=gv4 at*
    generalize (j:Int)=gv5 at*
    simp[uo,b,m,o,g,p,o_];rw[hc];simp
  ·rw[aD c]
   have:i=j:=by omega
   subst this;exact stop i
theorem qOI(l:ah)(p:Nat)(g m e a b:Int)(G:l.length<=1099511627776)(s:p<=4398046511104)(H:∀t,t∈l->t.inner<=1099511627776):∀(k i j:Nat),i<=j->j-i<=k->j<=l.length->(∀c,i<=c->c<j->c<=p/\p-c<l.length)->
 bo XV [70,74,122,126] 1 [0,1,2,3,4,18,19,20,21,22] nR ⟨[(0,.tsl true 0 3 l.length),(1,aa g),(2,aa m),(3,aa e),(4,.fn 6 []),(18,aa a),(19,aa b),(20,aa i),(21,aa j),(22,aa p)],[some (kc l)]⟩=
  some (.exit 8,⟨[(0,.tsl true 0 3 l.length),(1,aa g),(2,aa m),(3,aa e),(4,.fn 6 []),(18,aa a),(19,aa b),(20,aa (bs (fun c=> !decide (T.cmp (ai l (p-c)) (ai l c)<0)) k i j:Nat)),(21,aa (bs (fun c=> !decide (T.cmp (ai l (p-c)) (ai l c)<0)) k i j:Nat)),(22,aa p),(151,au false)],[some (kc l)]⟩):=by
 have head:∀(i j:Nat),aA 1 [0,1,2,3,4,18,19,20,21,22] ⟨[(0,.tsl true 0 3 l.length),(1,aa g),(2,aa m),(3,aa e),(4,.fn 6 []),(18,aa a),(19,aa b),(20,aa i),(21,aa j),(22,aa p)],[some (kc l)]⟩=some ⟨[(0,.tsl true 0 3 l.length),(1,aa g),(2,aa m),(3,aa e),(4,.fn 6 []),(18,aa a),(19,aa b),(20,aa i),(21,aa j),(22,aa p)],[some (kc l)]⟩:=fun i j=>by simp[aA,aB,fl,ic,eL]
 have stop:∀i:Nat,bo XV [70,74,122,126] 1 [0,1,2,3,4,18,19,20,21,22] nR ⟨[(0,.tsl true 0 3 l.length),(1,aa g),(2,aa m),(3,aa e),(4,.fn 6 []),(18,aa a),(19,aa b),(20,aa i),(21,aa i),(22,aa p)],[some (kc l)]⟩=
  some (.exit 8,⟨[(0,.tsl true 0 3 l.length),(1,aa g),(2,aa m),(3,aa e),(4,.fn 6 []),(18,aa a),(19,aa b),(20,aa i),(21,aa i),(22,aa p),(151,au false)],[some (kc l)]⟩):=fun i=>by
  refine dN (head _ _) ?_ (by simp);simp[nR]
 intro k
 induction k with
 |zero=>
  intro i j h J F o;have:i=j:=by omega
  subst this;exact stop i
 |succ k x=>
  intro i j h J F o;simp only[bs]
  by_cases q:i<j
  ·rw[ay q]
   obtain⟨z,C,y,D⟩:=Dm i j (by omega);have hc:=U8 l p ((i+j)/2) G (o _ (by omega) (by omega)).1 (o _ (by omega) (by omega)).2 (by omega) s H g m e a b i j;have I:=aV (n:=(i+j)/2) (by omega);have d:(i:Int)<j:=by omega
   by_cases r:¬T.cmp (ai l (p-(i+j)/2)) (ai l ((i+j)/2))<0
   ·rw[ay (by simpa using r)]
    rw[<-x ((i+j)/2+1) j (by omega) (by omega) F (fun c u w=>o c (by omega) w)];refine eb (head _ _) ?_;simp only[r,decide_false,kF]at hc;generalize kc l=c0 at hc⊢
    generalize (((i+j)/2+1:Nat):Int)=gv1 at*
    generalize (((i+j)/2:Nat):Int)=gv2 at*
    generalize ((i+j:Nat):Int)=gv3 at*
    generalize (i:Int)=gv4 at*
    generalize (j:Int)=gv5 at*
    simp[nR,d,z,C,y,D,o_];rw[hc];simp[I]
   ·rw[aD (by simpa using r)]
    rw[<-x i ((i+j)/2) (by omega) (by omega) (by omega) (fun c u w=>o c u (by omega))];refine eb (head _ _) ?_;simp only[Classical.not_not.1 r,decide_true,lB]at hc;generalize kc l=c0 at hc⊢
    generalize (((i+j)/2+1:Nat):Int)=gv1 at*
    generalize (((i+j)/2:Nat):Int)=gv2 at*
    generalize ((i+j:Nat):Int)=gv3 at*
    generalize (i:Int)=gv4 at*
    generalize (j:Int)=gv5 at*
    simp[nR,d,z,C,y,D,o_];rw[hc];simp
  ·rw[aD q]
   have:i=j:=by omega
   subst this;exact stop i
theorem right_step(A Y Z:ah)(x:T)(s:Nat)(a:s<Y.length):swp (A++Y.take s++x::(Y.drop s++Z)) (A.length+s+1) (A.length+s)=A++Y.take (s+1)++x::(Y.drop (s+1)++Z):=by
 have b:(A++Y.take s).length=A.length+s:=by simp;omega
 rw[<-List.take_append_getElem a,dV a,J8 _ _ _ (by omega),<-b];have:=AY (A++Y.take s) [] (Y.drop (s+1)++Z) x Y[s] ((A++Y.take s).length+1) rfl;simp only[cp]at this;rw[show Y[s]::Y.drop (s+1)++Z=Y[s]::(Y.drop (s+1)++Z)from rfl,this];simp only[bW,c_,cp]
theorem qBl(A Y Z:ah)(x:T)(N a:Nat)(j:A.length=a)(k:(A++x::(Y++Z)).length=N)(l:N<=1099511627776):
 bo XV [70,74,122,126] 1 [0,10,13] xI ⟨[(0,.tsl true 0 3 N),(10,aa (a+1+Y.length:Nat)),(13,aa a)],[some (kc (A++x::(Y++Z)))]⟩=
  some (.exit 2,⟨[(0,.tsl true 0 3 N),(10,aa (a+1+Y.length:Nat)),(13,aa (a+Y.length:Nat)),(58,au false)],[some (kc (A++Y++x::Z))]⟩):=by
 have o:A.length+1+Y.length+Z.length=N:=by rw[<-k];simp;omega
 have c:∀s,(A++Y.take s++x::(Y.drop s++Z)).length=N:=fun s=>by simp;omega
 have e:IntKind.i64.wrap (((a+1+Y.length:Nat):Int)-1)=((a+Y.length:Nat):Int):=by rw[wrap_i64 (by omega) (by omega)];omega
 have h:=bE (X:=XV) (T:=[70,74,122,126]) (L:=1) (live:=[0,10,13]) (b:=xI) (n:=Y.length) (γ:=Unit) (st:=fun(_:Unit) s=>⟨[(0,.tsl true 0 3 N),(10,aa (a+1+Y.length:Nat)),(13,aa (a+s:Nat))],[some (kc (A++Y.take s++x::(Y.drop s++Z)))]⟩) (step:=fun _ _=> .inl ())
  (F:=fun _=>(.exit 2,⟨[(0,.tsl true 0 3 N),(10,aa (a+1+Y.length:Nat)),(13,aa (a+Y.length:Nat)),(58,au false)],[some (kc (A++Y.take Y.length++x::(Y.drop Y.length++Z)))]⟩)) (R:=fun _=>(.ret,⟨[],[]⟩))
  (fun _=>⟨by simp,by
   generalize ((a+1+Y.length:Nat):Int)=gv1 at*
   generalize ((a+Y.length:Nat):Int)=gv2 at*
   simp[xI,e]⟩)
  (fun _ s p=>by
   have d:=qMs (A++Y.take s++x::(Y.drop s++Z)) (a+s) (by rw[c];exact l) (by rw[c];omega) (a+1+Y.length:Nat);rw[<-j,right_step A Y Z x s p,j,c]at d;have m:=aV (n:=a+s) (by omega);have g:((a+s:Nat):Int)<((a+Y.length:Nat):Int):=by omega
   generalize i:kc (A++Y.take (s+1)++x::(Y.drop (s+1)++Z))=c2 at d;generalize kc (A++Y.take s++x::(Y.drop s++Z))=c1 at d⊢
   exact⟨⟨[(0,.tsl true 0 3 N),(10,aa (a+1+Y.length:Nat)),(13,aa (a+s+1:Nat))],[some c2]⟩,by
    generalize ((a+s+1:Nat):Int)=gv3 at*
    generalize ((a+s:Nat):Int)=gv4 at*
    generalize ((a+1+Y.length:Nat):Int)=gv1 at*
    generalize ((a+Y.length:Nat):Int)=gv2 at*
    simp[xI,e,g];rw[d];simp[m],by rw[<-i];simp[aA,aB,fl];omega⟩)
  Y.length () 0 ⟨[(0,.tsl true 0 3 N),(10,aa (a+1+Y.length:Nat)),(13,aa a)],[some (kc (A++x::(Y++Z)))]⟩ (by omega) (by simp[aA,aB,fl])
 rw[dv,lg,List.drop_length,cp]at h;exact h
theorem left_step(A X Z:ah)(y:T)(n:Nat)(a:n<X.length):swp (A++X.take (n+1)++y::(X.drop (n+1)++Z)) (A.length+n) (A.length+n+1)=A++X.take n++y::(X.drop n++Z):=by
 have b:(A++X.take n).length=A.length+n:=by simp;omega
 rw[<-List.take_append_getElem a,dV a,<-b];have:=AY (A++X.take n) [] (X.drop (n+1)++Z) X[n] y ((A++X.take n).length+1) rfl;simp only[cp]at this;rw[show A++(X.take n++[X[n]])++y::(X.drop (n+1)++Z)=A++X.take n++X[n]::y::(X.drop (n+1)++Z)by simp only[bW,c_,cp],this];simp only[bW,c_]
theorem Tq(A X Z:ah)(y:T)(N a:Nat)(k:A.length=a)(l:(A++X++y::Z).length=N)(m:N<=1099511627776):
 bo XV [70,74,122,126] 1 [0,14,17] xJ ⟨[(0,.tsl true 0 3 N),(14,aa a),(17,aa (a+X.length:Nat))],[some (kc (A++X++y::Z))]⟩=
  some (.exit 6,⟨[(0,.tsl true 0 3 N),(14,aa a),(17,aa a),(110,au false)],[some (kc (A++y::(X++Z)))]⟩):=by
 have p:A.length+X.length+(Z.length+1)=N:=by rw[<-l];simp;omega
 have c:∀s,(A++X.take s++y::(X.drop s++Z)).length=N:=fun s=>by simp;omega
 have h:=bE (X:=XV) (T:=[70,74,122,126]) (L:=1) (live:=[0,14,17]) (b:=xJ) (n:=X.length) (γ:=Unit) (st:=fun(_:Unit) s=>⟨[(0,.tsl true 0 3 N),(14,aa a),(17,aa (a+(X.length-s):Nat))],[some (kc (A++X.take (X.length-s)++y::(X.drop (X.length-s)++Z)))]⟩) (step:=fun _ _=> .inl ())
  (F:=fun _=>(.exit 6,⟨[(0,.tsl true 0 3 N),(14,aa a),(17,aa a),(110,au false)],[some (kc (A++X.take 0++y::(X.drop 0++Z)))]⟩)) (R:=fun _=>(.ret,⟨[],[]⟩))
  (fun _=>⟨by simp,by
   rw[m_,Hr];simp[xJ]⟩)
  (fun _ s q=>by
   obtain⟨n,e⟩:∃n,X.length-s=n+1:=⟨X.length-s-1,by omega⟩;have j:X.length-(s+1)=n:=by omega
   have d:=X_ (A++X.take (n+1)++y::(X.drop (n+1)++Z)) (a+n) (by rw[c];exact m) (by rw[c];omega) a;rw[<-k,left_step A X Z y n (by omega),k,c]at d;have o:IntKind.i64.wrap (((a+n+1:Nat):Int)-1)=((a+n:Nat):Int):=by rw[wrap_i64 (by omega) (by omega)];omega
   have g:(a:Int)<((a+n+1:Nat):Int):=by omega
   rw[e,show a+(n+1)=a+n+1 by omega];generalize i:kc (A++X.take n++y::(X.drop n++Z))=c2 at d;generalize kc (A++X.take (n+1)++y::(X.drop (n+1)++Z))=c1 at d⊢
   exact⟨⟨[(0,.tsl true 0 3 N),(14,aa a),(17,aa (a+n:Nat))],[some c2]⟩,by
    generalize ((a+n+1:Nat):Int)=gv3 at*
    generalize ((a+n:Nat):Int)=gv4 at*
    simp[xJ,g];rw[d];simp[o],by rw[<-i];simp[aA,aB,fl,j]⟩)
  X.length () 0 ⟨[(0,.tsl true 0 3 N),(14,aa a),(17,aa (a+X.length:Nat))],[some (kc (A++X++y::Z))]⟩ (by omega) (by simp[aA,aB,fl])
 rw[dv]at h;simpa using h
variable{S:ah}
theorem TB(h:b4 S){p:T}(c:p∈S):∃s,S.getLast?=some s/\cZ p s:=by
 have a:S≠[]:=fun b=>by rw[b]at c;simp at c
 refine⟨S.getLast a,IK a,?_⟩
 by_cases b:p=S.getLast a
 ·rw[b];exact NY _
 ·have e:p∈S.dropLast:=by
   have:=xo a;rw[<-this]at c;rcases bu.1 c with h|h
   ·exact h
   ·simp at h;exact absurd h b
  have d:(S.dropLast++[S.getLast a]).Pairwise cZ:=by rw[xo];exact h
  exact(nX.1 d).2.2 p e _ (by simp)
theorem Xw(h:b4 S){p:T}(a:p∈S):∃s,S.head?=some s/\cZ s p:=by
 cases S with
 |nil=>simp at a
 |cons x r=>
  refine⟨x,rfl,?_⟩;rcases cC.1 a with rfl|a
  ·exact NY _
  ·exact(ni.1 h).1 p a
theorem De{R:ah}(i:b4 S)(d:b4 R)(h:∀s r,S.getLast?=some s->R.head?=some r->cZ s r):∀p,p∈S->∀q,q∈R->cZ p q:=by intro p c q e;obtain⟨s,b,j⟩:=TB i c;obtain⟨r,a,g⟩:=Xw d e;exact vu (vu j (h s r b a)) g
theorem Of{c e:ah}{x:T}(h:b4 (c++e))(l:∀s,c.getLast?=some s->cZ s x)(o:∀s,e.head?=some s->cZ x s):b4 (c++x::e):=by
 obtain⟨g,i,m⟩:=nX.1 h;have n:=De (S:=c) (R:=[x]) g (sC _ _) (fun s r b d=>by simp at d;subst d;exact l s b);have k:=De (S:=[x]) (R:=e) (sC _ _) i (fun s r b d=>by simp at b;subst b;exact o r d);refine nX.2 ⟨g,ni.2 ⟨fun q a=>k x (by simp) q a,i⟩,fun p j q a=> ?_⟩;rcases cC.1 a with rfl|a
 ·exact n p j _ (by simp)
 ·exact m p j q a
theorem Dz(A X R:ah)(q:Nat)(a:q<X.length):ai (A++X++R) (A.length+q)=ai X q:=by unfold ai;rw[bW,dB (by omega),Nat.add_sub_cancel_left,ed a]
variable{t:Nat}{X:ah}
theorem CQ{s:T}(b:t<=X.length)(h:(X.take t).getLast?=some s):0<t/\s=ai X (t-1):=by
 rw[List.getLast?_eq_getElem?,wm,Hg b]at h;have a:=(cW.1 h).1;simp at a;rw[qx]at h;split at h
 ·exact⟨by omega,by simp[ai,h]⟩
 ·simp at h
theorem yt{s:T}(h:(X.drop t).head?=some s):t<X.length/\s=ai X t:=by rw[List.head?_drop]at h;exact⟨(cW.1 h).1,by simp[ai,h]⟩
theorem Zl(A Y Z:ah)(x:T)(a m b N:Nat)(o:a=A.length)(H:m=a+1)(O:b=m+Y.length)(k:N=(A++x::(Y++Z)).length)(F:N<=1099511627776)(p:∀t,t∈A++x::(Y++Z)->t.inner<=1099511627776)(M:b4 Y):
 ∃W:ah,W.Perm (x::Y)/\b4 W/\ak XV 173 [.tsl true 0 3 N,aa a,aa m,aa b,.fn 6 []] [some (kc (A++x::(Y++Z)))]=some (.d (.tup []),[some (kc (A++W++Z))]):=by
 have G:A.length+1+Y.length+Z.length=N:=by rw[k];simp;omega
 have g:=Qr (A++x::(Y++Z)) a (by rw[<-k];exact F) (by rw[<-k];omega) p Y.length m b (by omega) (by omega) (by rw[<-k];omega);have w:ai (A++x::(Y++Z)) a=x:=Dv _ _ _ _ o;have l:∀q,q<Y.length->ai (A++x::(Y++Z)) (m+q)=ai Y q:=fun q K=>by have:=Dz (A++[x]) Y Z q K;simp only[cD,cY,kq,bW,c_,cp]at this;rw[H,o];exact this
 obtain⟨s1,I,j,i⟩:=wn (fun h=>decide (T.cmp (ai (A++x::(Y++Z)) h) (ai (A++x::(Y++Z)) a)<0)) Y.length m b (by omega) (by omega);generalize bs (fun h=>decide (T.cmp (ai (A++x::(Y++Z)) h) (ai (A++x::(Y++Z)) a)<0)) Y.length m b=r at g s1 I j i;rw[w]at j i;obtain⟨t,rfl⟩:∃t,r=m+t:=⟨r-m,by omega⟩;have y:t<=Y.length:=by omega
 have c:Y.take t++Y.drop t=Y:=dK _ _;have C:(Y.take t).length=t:=by simp;omega
 have e:=qBl A (Y.take t) (Y.drop t++Z) x N a o.symm (by rw[k,<-bW (Y.take t),c]) F;rw[<-bW (Y.take t),c,C,show a+1+t=m+t by omega]at e;refine⟨Y.take t++x::Y.drop t,?_,Of (by rw[c];exact M) (fun s z=> ?_) (fun s z=> ?_),?_⟩
 ·refine yz.trans ?_
  rw[c]
 ·obtain⟨D,u⟩:=CQ y z
  rcases j with j|j
  ·omega
  ·rw[show m+t-1=m+(t-1)by omega,l _ (by omega)]at j
   rw[u];exact rV (by simpa using j)
 ·obtain⟨D,u⟩:=yt z
  rcases i with i|i
  ·omega
  ·rw[l _ D]at i
   rw[u];exact sO (by simpa using i)
 ·have n:A++(Y.take t++x::Y.drop t)++Z=A++Y.take t++x::(Y.drop t++Z):=by simp only[bW,c_]
  rw[n];rw[aL 173 pm rfl];rw[<-k]at g;have J:IntKind.i64.wrap ((m:Int)-a)=1:=by rw[wrap_i64 (by omega) (by omega)];omega
  generalize kc (A++Y.take t++x::(Y.drop t++Z))=c2 at e⊢
  generalize kc (A++x::(Y++Z))=c1 at g e⊢
  generalize ((m+t:Nat):Int)=gv1 at*
  generalize ((a+t:Nat):Int)=gv2 at*
  simp[pm,wd,J];rw[g];simp[Mh];rw[e];simp
theorem Vy(A X Z:ah)(y:T)(a m b N:Nat)(H:a=A.length)(V:m=a+X.length)(R:b=m+1)(M:2<=X.length)(l:N=(A++X++y::Z).length)(F:N<=1099511627776)(p:∀t,t∈A++X++y::Z->t.inner<=1099511627776)(G:b4 X):
 ∃W:ah,W.Perm (X++[y])/\b4 W/\ak XV 173 [.tsl true 0 3 N,aa a,aa m,aa b,.fn 6 []] [some (kc (A++X++y::Z))]=some (.d (.tup []),[some (kc (A++W++Z))]):=by
 have K:A.length+X.length+(Z.length+1)=N:=by rw[l];simp;omega
 have i:=WV (A++X++y::Z) m (by rw[<-l];exact F) (by rw[<-l];omega) p X.length a m (by omega) (by omega) (by rw[<-l];omega);have z:ai (A++X++y::Z) m=y:=Dv _ _ _ _ (by simp;omega);have n:∀q,q<X.length->ai (A++X++y::Z) (a+q)=ai X q:=fun q Q=>by rw[H];exact Dz A X (y::Z) q Q
 obtain⟨s1,O,k,j⟩:=wn (fun h=> !decide (T.cmp (ai (A++X++y::Z) m) (ai (A++X++y::Z) h)<0)) X.length a m (by omega) (by omega);generalize bs (fun h=> !decide (T.cmp (ai (A++X++y::Z) m) (ai (A++X++y::Z) h)<0)) X.length a m=r at i s1 O k j;rw[z]at k j;obtain⟨t,rfl⟩:∃t,r=a+t:=⟨r-a,by omega⟩;have w:t<=X.length:=by omega
 have e:X.take t++X.drop t=X:=dK _ _;have C:(X.drop t).length=X.length-t:=by simp
 have c:A++X.take t++X.drop t++y::Z=A++X++y::Z:=by rw[bW A,e]
 have g:=Tq (A++X.take t) (X.drop t) Z y N (a+t) (by simp;omega) (by rw[c,l]) F;rw[c,C,show a+t+(X.length-t)=m by omega]at g;refine⟨X.take t++y::X.drop t,?_,Of (by rw[e];exact G) (fun s x=> ?_) (fun s x=> ?_),?_⟩
 ·refine yz.trans ?_
  rw[e];exact xz (l₁:=[y]) (l₂:=X)
 ·obtain⟨D,u⟩:=CQ w x
  rcases k with k|k
  ·omega
  ·rw[show a+t-1=a+(t-1)by omega,n _ (by omega)]at k
   rw[u];exact sO (by simpa using k)
 ·obtain⟨D,u⟩:=yt x
  rcases j with j|j
  ·omega
  ·rw[n _ D]at j
   rw[u];exact rV (by simpa using j)
 ·have o:A++(X.take t++y::X.drop t)++Z=A++X.take t++y::(X.drop t++Z):=by simp only[bW,c_]
  rw[o];rw[aL 173 pm rfl];rw[<-l]at i;have P:IntKind.i64.wrap ((m:Int)-a)=(X.length:Int):=by rw[wrap_i64 (by omega) (by omega)];omega
  have I:((X.length:Int)==1)=false:=by simp;omega
  have J:IntKind.i64.wrap ((b:Int)-m)=1:=by rw[wrap_i64 (by omega) (by omega)];omega
  generalize kc (A++X.take t++y::(X.drop t++Z))=c2 at g⊢
  generalize kc (A++X++y::Z)=c1 at i g⊢
  generalize ((a+t:Nat):Int)=gv2 at*
  generalize (X.length:Int)=vx at*
  simp[pm,wd,DK,P,J,I];rw[i];simp[Oc];rw[g];simp
theorem qBB(N:Nat)(j e l a b r c:Int)(m h g k:aH)(C:IntKind.i64.wrap (r-b)=c)
 (w:(b<e/\e<c/\ak XV 174 [.tsl true 0 3 N,aa b,aa e,aa c,.fn 6 []] [some m]=some (.d (.tup []),[some h]))\/(b<e/\¬e<c/\m=h)\/(¬b<e/\m=h))
 (z:(j<b/\b<a/\ak XV 173 [.tsl true 0 3 N,aa j,aa b,aa a,.fn 6 []] [some h]=some (.d (.tup []),[some g]))\/(j<b/\¬b<a/\h=g)\/(¬j<b/\h=g))
 (s:(a<c/\c<l/\ak XV 173 [.tsl true 0 3 N,aa a,aa c,aa l,.fn 6 []] [some g]=some (.d (.tup []),[some k]))\/(a<c/\¬c<l/\g=k)\/(¬a<c/\g=k)) (o n i:AV):
 ∃x,aS XV [70,74,122,126] (.seq (.region false 0 [0,1,2,3,4,18,20,24] vF) (.seq (.seq (.region false 0 [0,1,2,3,4,18,20,24,185] uZ) (.cond (.t 185) (.region false 0 [0,1,3,4,18,20,24] vk) .skip)) (.seq (.seq (.region false 0 [0,1,3,4,18,20,24,199] w9) (.cond (.t 199) (.region false 0 [0,3,4,18,24] vn) .skip)) (.seq (.region false 0 [0,3,4,18,24,213] v_) (.cond (.t 213) (.region false 0 [] xZ) .skip)))))
  ⟨[(0,.tsl true 0 3 N),(1,aa j),(2,aa e),(3,aa l),(4,.fn 6 []),(18,aa a),(19,aa r),(20,aa b),(21,o),(22,n),(151,i)],[some m]⟩=some (.normal,⟨x,[some k]⟩):=by
 rcases w with⟨q,y,F⟩|⟨q,y,rfl⟩|⟨q,rfl⟩<;>rcases z with⟨p,u,D⟩|⟨p,u,rfl⟩|⟨p,rfl⟩<;>rcases s with⟨d1,d2,d3⟩|⟨d1,d2,rfl⟩|⟨d1,rfl⟩<;>
  exact⟨_,by simp[vF,uZ,vk,w9,vn,v_,xZ, *];rfl⟩
theorem qwR(N:Nat)(k b j a g l i vb vx C h:Int)(m o:aH)(w:IntKind.i64.wrap (b-k)=vx)(q:(vx==1)=false)(s:IntKind.i64.wrap (j-b)=C)(F:(C==1)=false)
 (p:IntKind.i64.wrap (k+j)=h) (r:IntKind.u64.wrap h=h) (y:h.fdiv 2=a) (x:IntKind.i64.wrap a=a) (D:IntKind.i64.wrap (a+b)=l) (u:IntKind.i64.wrap (l-1)=i) (G:a<b->IntKind.i64.wrap (l-j)=vb)
 (e:bo XV [70,74,122,126] 1 [0,1,2,3,4,18,19,20,21,22] nR ⟨[(0,.tsl true 0 3 N),(1,aa k),(2,aa b),(3,aa j),(4,.fn 6 []),(18,aa a),(19,aa l),(20,aa (if a<b then vb else k)),(21,aa (if a<b then a else b)),(22,aa i)],[some m]⟩=
  some (.exit 8,⟨[(0,.tsl true 0 3 N),(1,aa k),(2,aa b),(3,aa j),(4,.fn 6 []),(18,aa a),(19,aa l),(20,aa g),(21,aa g),(22,aa i),(151,au false)],[some m]⟩))
 (tail:∃z,aS XV [70,74,122,126] (.seq (.region false 0 [0,1,2,3,4,18,20,24] vF) (.seq (.seq (.region false 0 [0,1,2,3,4,18,20,24,185] uZ) (.cond (.t 185) (.region false 0 [0,1,3,4,18,20,24] vk) .skip)) (.seq (.seq (.region false 0 [0,1,3,4,18,20,24,199] w9) (.cond (.t 199) (.region false 0 [0,3,4,18,24] vn) .skip)) (.seq (.region false 0 [0,3,4,18,24,213] v_) (.cond (.t 213) (.region false 0 [] xZ) .skip)))))
  ⟨[(0,.tsl true 0 3 N),(1,aa k),(2,aa b),(3,aa j),(4,.fn 6 []),(18,aa a),(19,aa l),(20,aa g),(21,aa g),(22,aa i),(151,au false)],[some m]⟩=some (.normal,⟨z,[some o]⟩)):
 ak XV 173 [.tsl true 0 3 N,aa k,aa b,aa j,.fn 6 []] [some m]=some (.d (.tup []),[some o]):=by
 obtain⟨z,t1⟩:=tail;generalize H:(.seq (.region false 0 [0,1,2,3,4,18,20,24] vF) (.seq (.seq (.region false 0 [0,1,2,3,4,18,20,24,185] uZ) (.cond (.t 185) (.region false 0 [0,1,3,4,18,20,24] vk) .skip)) (.seq (.seq (.region false 0 [0,1,3,4,18,20,24,199] w9) (.cond (.t 199) (.region false 0 [0,3,4,18,24] vn) .skip)) (.seq (.region false 0 [0,3,4,18,24,213] v_) (.cond (.t 213) (.region false 0 [] xZ) .skip)))):VCode)=code at t1;rw[aL 173 pm rfl];unfold pm;rw[H]
 by_cases c:a<b
 ·have n:=G c
  simp only[ay c]at e;simp[wd,DK,FX,He,Fq,En,Oh,OA,FZ,w,q,s,F,p,r,y,x,D,u,n,c,o_];rw[e];simp[t1]
 ·simp only[aD c]at e
  simp[wd,DK,FX,He,Fq,En,NN,Oq,FZ,w,q,s,F,p,r,y,x,D,u,c,o_];rw[e];simp[t1]
theorem qIG(A n g e k Z W1 W2:ah)(a m b c st N:Nat)(ha:a=A.length)(hm:m=a+n.length+g.length)(hb:b=m+e.length+k.length)(hX:2<=n.length+g.length)(hY:2<=e.length+k.length)
 (r:c=(a+b)/2) (h4:st=a+n.length) (u:c=st+e.length) (M:N=(A++(n++g)++(e++k)++Z).length) (hn:N<=1099511627776)
 (s:∀(i j:Nat),(if c<m then i=c+m-b/\j=c else i=a/\j=m)->bo XV [70,74,122,126] 1 [0,1,2,3,4,18,19,20,21,22] nR ⟨[(0,.tsl true 0 3 N),(1,aa a),(2,aa m),(3,aa b),(4,.fn 6 []),(18,aa c),(19,aa (c+m:Nat)),(20,aa i),(21,aa j),(22,aa (c+m-1:Nat))],[some (kc (A++(n++g)++(e++k)++Z))]⟩=
  some (.exit 8,⟨[(0,.tsl true 0 3 N),(1,aa a),(2,aa m),(3,aa b),(4,.fn 6 []),(18,aa c),(19,aa (c+m:Nat)),(20,aa st),(21,aa st),(22,aa (c+m-1:Nat)),(151,au false)],[some (kc (A++(n++g)++(e++k)++Z))]⟩))
 (hr:g≠[]->e≠[]->ak XV 174 [.tsl true 0 3 N,aa st,aa m,aa (m+e.length:Nat),.fn 6 []] [some (kc (A++(n++g)++(e++k)++Z))]=some (.d (.tup []),[some (kc (A++(n++e)++(g++k)++Z))]))
 (h2:(n≠[]/\e≠[])->ak XV 173 [.tsl true 0 3 N,aa a,aa st,aa c,.fn 6 []] [some (kc (A++(n++e)++(g++k)++Z))]=some (.d (.tup []),[some (kc (A++W1++(g++k)++Z))]))
 (z:¬(n≠[]/\e≠[])->W1=n++e)
 (h3:(g≠[]/\k≠[])->ak XV 173 [.tsl true 0 3 N,aa c,aa (m+e.length:Nat),aa b,.fn 6 []] [some (kc (A++W1++(g++k)++Z))]=some (.d (.tup []),[some (kc (A++W1++W2++Z))]))
 (D:¬(g≠[]/\k≠[])->W2=g++k):
 ak XV 173 [.tsl true 0 3 N,aa a,aa m,aa b,.fn 6 []] [some (kc (A++(n++g)++(e++k)++Z))]=some (.d (.tup []),[some (kc (A++W1++W2++Z))]):=by
 have O:A.length+n.length+g.length+e.length+k.length+Z.length=N:=by rw[M];simp;omega
 have ne:∀l:ah,l≠[]↔0<l.length:=fun l=>by cases l<;>simp
 have w1:IntKind.i64.wrap ((m:Int)-a)=((n.length+g.length:Nat):Int):=by rw[wrap_i64 (by omega) (by omega)];omega
 have n1:(((n.length+g.length:Nat):Int)==1)=false:=by simp;omega
 have w2:IntKind.i64.wrap ((b:Int)-m)=((e.length+k.length:Nat):Int):=by rw[wrap_i64 (by omega) (by omega)];omega
 have P:(((e.length+k.length:Nat):Int)==1)=false:=by simp;omega
 obtain⟨R,Y,G,J⟩:=Dm a b (by omega);rw[<-r]at G J;have w3:IntKind.i64.wrap ((c:Int)+m)=((c+m:Nat):Int):=by rw[wrap_i64 (by omega) (by omega)];omega
 have w4:IntKind.i64.wrap (((c+m:Nat):Int)-1)=((c+m-1:Nat):Int):=by rw[wrap_i64 (by omega) (by omega)];omega
 have V:IntKind.i64.wrap (((c+m:Nat):Int)-st)=((m+e.length:Nat):Int):=by rw[wrap_i64 (by omega) (by omega)];omega
 have w6:c<m->IntKind.i64.wrap (((c+m:Nat):Int)-b)=((c+m-b:Nat):Int):=fun h=>by rw[wrap_i64 (by omega) (by omega)];omega
 have w:(g≠[]/\e≠[])\/A++(n++g)++(e++k)++Z=A++(n++e)++(g++k)++Z:=by
  by_cases o:g=[]
  ·right;subst o;simp
  ·by_cases p:e=[]
   ·right;subst p;simp
   ·exact .inl ⟨o,p⟩
 have x:((st:Int)<m)↔g≠[]:=by rw[ne];omega
 have H:((m:Int)<((m+e.length:Nat):Int))↔e≠[]:=by rw[ne];omega
 have y:((a:Int)<st)↔n≠[]:=by rw[ne];omega
 have I:((st:Int)<c)↔e≠[]:=by rw[ne];omega
 have C:((c:Int)<((m+e.length:Nat):Int))↔g≠[]:=by rw[ne];omega
 have F:(((m+e.length:Nat):Int)<b)↔k≠[]:=by rw[ne];omega
 have step2:(¬(n≠[]/\e≠[]))->kc (A++(n++e)++(g++k)++Z)=kc (A++W1++(g++k)++Z):=fun h=>by rw[z h]
 have q:(¬(g≠[]/\k≠[]))->kc (A++W1++(g++k)++Z)=kc (A++W1++W2++Z):=fun h=>by rw[D h]
 have step1:(¬(g≠[]/\e≠[]))->kc (A++(n++g)++(e++k)++Z)=kc (A++(n++e)++(g++k)++Z):=fun h=>by
  rcases w with u|u
  ·exact absurd u h
  ·rw[u]
 have hA:((st:Int)<m/\(m:Int)<((m+e.length:Nat):Int)/\ak XV 174 [.tsl true 0 3 N,aa st,aa m,aa (m+e.length:Nat),.fn 6 []] [some (kc (A++(n++g)++(e++k)++Z))]=some (.d (.tup []),[some (kc (A++(n++e)++(g++k)++Z))]))\/((st:Int)<m/\¬(m:Int)<((m+e.length:Nat):Int)/\kc (A++(n++g)++(e++k)++Z)=kc (A++(n++e)++(g++k)++Z))\/(¬(st:Int)<m/\kc (A++(n++g)++(e++k)++Z)=kc (A++(n++e)++(g++k)++Z)):=by
  by_cases o:g=[]
  ·exact .inr (.inr ⟨fun h=>(x.1 h) o,step1 fun h=>h.1 o⟩)
  ·by_cases p:e=[]
   ·exact .inr (.inl ⟨x.2 o,fun h=>(H.1 h) p,step1 fun h=>h.2 p⟩)
   ·exact .inl ⟨x.2 o,H.2 p,hr o p⟩
 have Q:((a:Int)<st/\(st:Int)<c/\ak XV 173 [.tsl true 0 3 N,aa a,aa st,aa c,.fn 6 []] [some (kc (A++(n++e)++(g++k)++Z))]=some (.d (.tup []),[some (kc (A++W1++(g++k)++Z))]))\/((a:Int)<st/\¬(st:Int)<c/\kc (A++(n++e)++(g++k)++Z)=kc (A++W1++(g++k)++Z))\/(¬(a:Int)<st/\kc (A++(n++e)++(g++k)++Z)=kc (A++W1++(g++k)++Z)):=by
  by_cases o:n=[]
  ·exact .inr (.inr ⟨fun h=>(y.1 h) o,step2 fun h=>h.1 o⟩)
  ·by_cases p:e=[]
   ·exact .inr (.inl ⟨y.2 o,fun h=>(I.1 h) p,step2 fun h=>h.2 p⟩)
   ·exact .inl ⟨y.2 o,I.2 p,h2 ⟨o,p⟩⟩
 have K:((c:Int)<((m+e.length:Nat):Int)/\((m+e.length:Nat):Int)<b/\ak XV 173 [.tsl true 0 3 N,aa c,aa (m+e.length:Nat),aa b,.fn 6 []] [some (kc (A++W1++(g++k)++Z))]=some (.d (.tup []),[some (kc (A++W1++W2++Z))]))\/((c:Int)<((m+e.length:Nat):Int)/\¬((m+e.length:Nat):Int)<b/\kc (A++W1++(g++k)++Z)=kc (A++W1++W2++Z))\/(¬(c:Int)<((m+e.length:Nat):Int)/\kc (A++W1++(g++k)++Z)=kc (A++W1++W2++Z)):=by
  by_cases o:g=[]
  ·exact .inr (.inr ⟨fun h=>(C.1 h) o,q fun h=>h.1 o⟩)
  ·by_cases p:k=[]
   ·exact .inr (.inl ⟨C.2 o,fun h=>(F.1 h) p,q fun h=>h.2 p⟩)
   ·exact .inl ⟨C.2 o,F.2 p,h3 ⟨o,p⟩⟩
 refine qwR N a m b c st (c+m:Nat) (c+m-1:Nat) (c+m-b:Nat) (n.length+g.length:Nat) (e.length+k.length:Nat) (a+b:Nat) _ _ w1 n1 w2 P R Y G J w3 w4 (fun h=>w6 (by omega)) ?_ (qBB N a m b c st (c+m:Nat) (m+e.length:Nat) _ _ _ _ V hA Q K _ _ _)
 by_cases h:c<m
 ·have h':(c:Int)<m:=by omega
  rw[ay h',ay h'];exact s (c+m-b) c (by rw[ay h];exact⟨rfl,rfl⟩)
 ·have h':¬(c:Int)<m:=by omega
  rw[aD h',aD h'];exact s a m (by rw[aD h];exact⟨rfl,rfl⟩)
theorem ON:∀(k:Nat) (A X Y Z:ah) (a m b N:Nat),X.length+Y.length<=k->0<X.length->0<Y.length->a=A.length->m=a+X.length->b=m+Y.length->N=(A++X++Y++Z).length->N<=1099511627776->(∀t,t∈A++X++Y++Z->t.inner<=1099511627776)->b4 X->b4 Y->
 ∃W:ah,W.Perm (X++Y)/\b4 W/\ak XV 173 [.tsl true 0 3 N,aa a,aa m,aa b,.fn 6 []] [some (kc (A++X++Y++Z))]=some (.d (.tup []),[some (kc (A++W++Z))]):=by
 intro k
 induction k with
 |zero=>intro A X Y Z a m b N hk hx hy;omega
 |succ k ih=>
  intro A X Y Z a m b N hk hx hy ha C J I hn w hX hY;have R:A.length+X.length+Y.length+Z.length=N:=by rw[I];simp;omega
  by_cases a1:X.length=1
  ·obtain⟨x,rfl⟩:∃x,X=[x]:=KC.1 a1
   have e:A++[x]++Y++Z=A++x::(Y++Z):=by simp
   rw[e]at I w⊢
   obtain⟨W,w1,w2,w3⟩:=Zl A Y Z x a m b N ha (by simpa using C) J I hn w hY;exact⟨W,by simpa using w1,w2,w3⟩
  by_cases x1:Y.length=1
  ·obtain⟨y,rfl⟩:∃y,Y=[y]:=KC.1 x1
   have e:A++X++[y]++Z=A++X++y::Z:=by simp
   rw[e]at I w⊢
   exact Vy A X Z y a m b N ha C (by simpa using J) (by omega) I hn w hX
  obtain⟨g,a3⟩:∃g,g=(a+b)/2:=⟨_,rfl⟩;have G:∀q,q<X.length->ai (A++X++Y++Z) (a+q)=ai X q:=fun q hq=>by rw[ha,bW (A++X)];exact Dz A X (Y++Z) q hq
  have H:∀q,q<Y.length->ai (A++X++Y++Z) (m+q)=ai Y q:=fun q hq=>by have:=Dz (A++X) Y Z q hq;rw[cD,<-ha,<-C]at this;exact this
  have key:∀i j:Nat,(if g<m then i=g+m-b/\j=g else i=a/\j=m)->∃st,i<=st/\st<=j/\(st=i\/cZ (ai (A++X++Y++Z) (st-1)) (ai (A++X++Y++Z) (g+m-1-(st-1))))/\(st=j\/cZ (ai (A++X++Y++Z) (g+m-1-st)) (ai (A++X++Y++Z) st))/\
   bo XV [70,74,122,126] 1 [0,1,2,3,4,18,19,20,21,22] nR ⟨[(0,.tsl true 0 3 N),(1,aa a),(2,aa m),(3,aa b),(4,.fn 6 []),(18,aa g),(19,aa (g+m:Nat)),(20,aa i),(21,aa j),(22,aa (g+m-1:Nat))],[some (kc (A++X++Y++Z))]⟩=
    some (.exit 8,⟨[(0,.tsl true 0 3 N),(1,aa a),(2,aa m),(3,aa b),(4,.fn 6 []),(18,aa g),(19,aa (g+m:Nat)),(20,aa st),(21,aa st),(22,aa (g+m-1:Nat)),(151,au false)],[some (kc (A++X++Y++Z))]⟩):=by
   intro i j V;have z:i<=j/\j<=N/\∀c,i<=c->c<j->c<=g+m-1/\g+m-1-c<N:=by
    split at V
    ·obtain⟨rfl,rfl⟩:=V
     exact⟨by omega,by omega,fun c D o=>by omega⟩
    ·obtain⟨rfl,rfl⟩:=V
     exact⟨by omega,by omega,fun c D o=>by omega⟩
   have hl:=qOI (A++X++Y++Z) (g+m-1) a m b g (g+m:Nat) (by rw[<-I];exact hn) (by omega) w (j-i) i j z.1 (bN _) (by rw[<-I];exact z.2.1) (by rw[<-I];exact z.2.2);obtain⟨s1,s2,s3,s4⟩:=wn (fun c=> !decide (T.cmp (ai (A++X++Y++Z) (g+m-1-c)) (ai (A++X++Y++Z) c)<0)) (j-i) i j z.1 (bN _);rw[<-I]at hl;refine⟨_,s1,s2,s3.imp_right fun h=>sO (by simpa using h),s4.imp_right fun h=>rV (by simpa using h),hl⟩
  obtain⟨i0,j0,n⟩:∃i j:Nat,(if g<m then i=g+m-b/\j=g else i=a/\j=m):=by
   by_cases h:g<m
   ·exact⟨g+m-b,g,by rw[ay h];exact⟨rfl,rfl⟩⟩
   ·exact⟨a,m,by rw[aD h];exact⟨rfl,rfl⟩⟩
  obtain⟨st,q1,q2,q3,q4,hlo⟩:=key i0 j0 n;clear key;have hb1:a<=st/\st<=m/\st<=g/\m<=g+m-st/\g+m-st<=b:=by
   split at n
   ·obtain⟨rfl,rfl⟩:=n;omega
   ·obtain⟨rfl,rfl⟩:=n;omega
  obtain⟨t,ht⟩:∃t,st=a+t:=⟨st-a,by omega⟩;obtain⟨u,hu⟩:∃u,g+m-st=m+u:=⟨g-st,by omega⟩;have htl:t<=X.length:=by omega
  have hul:u<=Y.length:=by omega
  have M:X.take t++X.drop t=X:=dK _ _;have O:Y.take u++Y.drop u=Y:=dK _ _;have lx1:(X.take t).length=t:=by simp;omega
  have lx2:(X.drop t).length=X.length-t:=by simp
  have ly1:(Y.take u).length=u:=by simp;omega
  have ne:∀l:ah,l≠[]->0<l.length:=fun l h=>xU.2 h
  obtain⟨sx1,P,a2⟩:=nX.1 (show b4 (X.take t++X.drop t)by rw[M];exact hX);obtain⟨Q,h5,x2⟩:=nX.1 (show b4 (Y.take u++Y.drop u)by rw[O];exact hY);have F1:∀p,p∈X.take t->∀q,q∈Y.drop u->cZ p q:=De sx1 h5 fun s r hs hr=>by
   obtain⟨D,o⟩:=CQ htl hs;obtain⟨h3,h4⟩:=yt hr;rcases q3 with q3|q3
   ·exfalso
    split at n
    ·obtain⟨rfl,rfl⟩:=n;omega
    ·obtain⟨rfl,rfl⟩:=n;omega
   ·rw[show st-1=a+(t-1)by omega,G _ (by omega),show g+m-1-(a+(t-1))=m+u by omega,H _ h3]at q3
    rw[o,h4];exact q3
  have F2:∀p,p∈Y.take u->∀q,q∈X.drop t->cZ p q:=De Q P fun s r hs hr=>by
   obtain⟨D,o⟩:=CQ hul hs;obtain⟨h3,h4⟩:=yt hr;rcases q4 with q4|q4
   ·exfalso
    split at n
    ·obtain⟨rfl,rfl⟩:=n;omega
    ·obtain⟨rfl,rfl⟩:=n;omega
   ·rw[show g+m-1-st=m+(u-1)by omega,H _ (by omega),show st=a+t from ht,G _ h3]at q4
    rw[o,h4];exact q4
  generalize hX1:X.take t=X1 at*
  generalize hX2:X.drop t=X2 at*
  generalize hY1:Y.take u=Y1 at*
  generalize hY2:Y.drop u=Y2 at*
  clear G H q3 q4;subst M;subst O;have L:∃W1:ah,W1.Perm (X1++Y1)/\b4 W1/\((X1≠[]/\Y1≠[])->ak XV 173 [.tsl true 0 3 N,aa a,aa st,aa g,.fn 6 []] [some (kc (A++(X1++Y1)++(X2++Y2)++Z))]=some (.d (.tup []),[some (kc (A++W1++(X2++Y2)++Z))]))/\(¬(X1≠[]/\Y1≠[])->W1=X1++Y1):=by
   by_cases h:X1≠[]/\Y1≠[]
   ·obtain⟨W,w1,w2,w3⟩:=ih A X1 Y1 (X2++Y2++Z) a st g N (by simp at hk C J;omega) (ne _ h.1) (ne _ h.2) ha (by omega) (by simp at C J;omega) (by simp at R⊢;omega) hn (fun x hx=>w x (by
     simp only[bu]at hx⊢
     rcases hx with((h|h)|h)|((h|h)|h)<;>simp[h])) sx1 Q
    refine⟨W,w1,w2,fun _=> ?_,fun h'=>absurd h h'⟩;have F:A++(X1++Y1)++(X2++Y2)++Z=A++X1++Y1++(X2++Y2++Z):=by simp
    have K:A++W++(X2++Y2)++Z=A++W++(X2++Y2++Z):=by simp
    rw[F,K];exact w3
   ·refine⟨X1++Y1,j5 _,?_,fun h'=>absurd h' h,fun _=>rfl⟩
    by_cases F:X1=[]
    ·subst F;rw[cp];exact Q
    ·by_cases K:Y1=[]
     ·subst K;rw[cR];exact sx1
     ·exact absurd ⟨F,K⟩ h
  obtain⟨W1,p1,s1,c1,b2⟩:=L;have lw1:W1.length=X1.length+Y1.length:=by rw[p1.length_eq];simp
  have Rr:∃W2:ah,W2.Perm (X2++Y2)/\b4 W2/\((X2≠[]/\Y2≠[])->ak XV 173 [.tsl true 0 3 N,aa g,aa (m+Y1.length:Nat),aa b,.fn 6 []] [some (kc (A++W1++(X2++Y2)++Z))]=some (.d (.tup []),[some (kc (A++W1++W2++Z))]))/\(¬(X2≠[]/\Y2≠[])->W2=X2++Y2):=by
   by_cases h:X2≠[]/\Y2≠[]
   ·obtain⟨W,w1,w2,w3⟩:=ih (A++W1) X2 Y2 Z g (m+Y1.length) b N (by simp at hk C J;omega) (ne _ h.1) (ne _ h.2) (by simp at C J⊢;omega) (by simp at C J⊢;omega) (by simp at C J⊢;omega) (by simp at R⊢;omega) hn (fun x hx=>w x (by
     simp only[bu]at hx⊢
     rcases hx with(((h|h)|h)|h)|h
     ·simp[h]
     ·have:=p1.mem_iff.1 h
      simp only[bu]at this;rcases this with h|h<;>simp[h]
     ·simp[h]
     ·simp[h]
     ·simp[h])) P h5
    refine⟨W,w1,w2,fun _=> ?_,fun h'=>absurd h h'⟩;have F:A++W1++(X2++Y2)++Z=A++W1++X2++Y2++Z:=by simp
    rw[F];exact w3
   ·refine⟨X2++Y2,j5 _,?_,fun h'=>absurd h' h,fun _=>rfl⟩
    by_cases F:X2=[]
    ·subst F;rw[cp];exact h5
    ·by_cases K:Y2=[]
     ·subst K;rw[cR];exact P
     ·exact absurd ⟨F,K⟩ h
  obtain⟨W2,p2,s2,c2,c2'⟩:=Rr;refine⟨W1++W2,?_,nX.2 ⟨s1,s2,fun p hp q hq=> ?_⟩,?_⟩
  ·refine(p1.append p2).trans ?_
   have:=xz (l₁:=Y1) (l₂:=X2);have h3:=((j5 X1).append (this.append (j5 Y2)));simpa using h3
  ·have D:=p1.mem_iff.1 hp
   have o:=p2.mem_iff.1 hq;rcases bu.1 D with D|D<;>rcases bu.1 o with o|o
   ·exact a2 p D q o
   ·exact F1 p D q o
   ·exact F2 p D q o
   ·exact x2 p D q o
  ·have b1:X2≠[]->Y1≠[]->ak XV 174 [.tsl true 0 3 N,aa st,aa m,aa (m+Y1.length:Nat),.fn 6 []] [some (kc (A++(X1++X2)++(Y1++Y2)++Z))]=some (.d (.tup []),[some (kc (A++(X1++Y1)++(X2++Y2)++Z))]):=fun D o=>by
    have hro:=Y7 (A++X1) X2 Y1 (Y2++Z) st m (m+Y1.length) N (by simp;omega) (by simp at C⊢;omega) (by simp at C⊢;omega) (by simp at R⊢;omega) hn (ne _ D) (ne _ o) (.fn 6 []) (by simp[AV.clr,AV.clrs]) (by simp[ic,eL]);have F:A++(X1++X2)++(Y1++Y2)++Z=A++X1++X2++Y1++(Y2++Z):=by simp
    have K:A++(X1++Y1)++(X2++Y2)++Z=A++X1++Y1++X2++(Y2++Z):=by simp
    rw[F,K];exact hro
   have x3:A++(W1++W2)++Z=A++W1++W2++Z:=by simp
   rw[x3];exact qIG A X1 X2 Y1 Y2 Z W1 W2 a m b g st N ha (by simp at C;omega) (by simp at J;omega) (by simp at a1 hx;omega) (by simp at x1 hy;omega) a3 (by omega) (by simp at C J;omega) I hn (fun i j h=>by
    have:i=i0/\j=j0:=by split at h<;>split at n<;>first|omega|skip
    rw[this.1,this.2];exact hlo) b1 c1 b2 c2 c2'
inductive Blk(s:Nat):ah->Prop where
 |last (l:ah):l.length<s->b4 l->Blk s l
 |cons (c r:ah):c.length=s->b4 c->Blk s r->Blk s (c++r)
theorem Blk.srt{s:Nat}{l:ah}(h:Blk s l)(b:l.length<=s)(g:0<s):b4 l:=by
 cases h with
 |last _ _ a=>exact a
 |cons c r e a d=>have:r=[]:=ib.1 (by simp at b;omega);subst this;rw[cR];exact a
theorem UK(N:Nat)(V:N<=1099511627776):∀(k:Nat) (P R:ah),R.length<=k->(P++R).length=N->(∀t,t∈P++R->t.inner<=1099511627776)->
 ∃(d b:ah) (a:Nat),b.length<20/\a=P.length+d.length/\a+b.length=N/\(d++b).Perm R/\(∀Q,Blk 20 Q->Blk 20 (d++Q))/\
  bo XV [] 1 [0,1,2,6,7,8] p_ ⟨[(0,.tsl true 0 3 N),(1,aa N),(2,.fn 6 []),(6,aa 20),(7,aa P.length),(8,aa (P.length+20:Nat))],[some (kc (P++R))]⟩=
   some (.exit 0,⟨[(0,.tsl true 0 3 N),(1,aa N),(2,.fn 6 []),(6,aa 20),(7,aa a),(8,aa (a+20:Nat)),(13,au false)],[some (kc (P++d++b))]⟩):=by
 have head:∀(x y:Int) (c:aH),aA 1 [0,1,2,6,7,8] ⟨[(0,.tsl true 0 3 N),(1,aa N),(2,.fn 6 []),(6,aa 20),(7,aa x),(8,aa y)],[some c]⟩=some ⟨[(0,.tsl true 0 3 N),(1,aa N),(2,.fn 6 []),(6,aa 20),(7,aa x),(8,aa y)],[some c]⟩:=fun x y c=>by simp[aA,aB,fl,ic,eL]
 have stop:∀(P R:ah),(P++R).length=N->R.length<20->bo XV [] 1 [0,1,2,6,7,8] p_ ⟨[(0,.tsl true 0 3 N),(1,aa N),(2,.fn 6 []),(6,aa 20),(7,aa P.length),(8,aa (P.length+20:Nat))],[some (kc (P++R))]⟩=
  some (.exit 0,⟨[(0,.tsl true 0 3 N),(1,aa N),(2,.fn 6 []),(6,aa 20),(7,aa P.length),(8,aa (P.length+20:Nat)),(13,au false)],[some (kc (P++R))]⟩):=fun P R K h2=>by
  refine dN (head _ _ _) ?_ (by simp);have l:¬(((P.length+20:Nat):Int)<=(N:Int)):=by simp at K;omega
  generalize ((P.length+20:Nat):Int)=v at*
  generalize (N:Int)=w at*
  simp[p_,l]
 intro k
 induction k with
 |zero=>intro P R z i e;exact⟨[],R,P.length,by omega,by simp,by simpa using i,by simp,fun Q h=>by simpa using h,by simpa using stop P R i (by omega)⟩
 |succ k Z=>
  intro P R z i e
  by_cases s:R.length<20
  ·exact⟨[],R,P.length,s,by simp,by simpa using i,by simp,fun Q h=>by simpa using h,by simpa using stop P R i s⟩
  ·have r:(R.take 20).length=20:=by simp;omega
   have g:R.take 20++R.drop 20=R:=dK _ _;have hD:(R.drop 20).length=R.length-20:=by simp
   generalize R.take 20=C at r g;generalize R.drop 20=D at hD g;subst g;have H:P.length+C.length+D.length=N:=by simp at i;omega
   have F:P++(C++D)=P++C++D:=by simp
   obtain⟨W,p,M,q⟩:=Lz P C D P.length (P.length+20) N rfl (by omega) (by simp;omega) V (fun t j=>e t (by rw[F];exact j));have n:W.length=20:=by rw[p.length_eq,r]
   have o:(P++W).length=P.length+20:=by simp;omega
   obtain⟨d,b,a,G,O,r3,r4,Y,r6⟩:=Z (P++W) D (by simp at z;omega) (by simp;omega) (fun t j=>e t (by
    simp only[bu]at j⊢
    rcases j with(h|h)|h
    ·simp[h]
    ·simp[p.mem_iff.1 h]
    ·simp[h]))
   refine⟨W++d,b,a,G,by simp at O⊢;omega,r3,?_,fun Q I=>by rw[bW];exact .cons W _ n M (Y Q I),?_⟩
   ·rw[bW];exact p.append r4
   ·have e1:P++(W++d)++b=P++W++d++b:=by simp
    rw[e1,<-r6,o,F];refine eb (head _ _ _) ?_;have m:(((P.length+20:Nat):Int)<=(N:Int)):=by omega
    have hw:IntKind.i64.wrap (((P.length+20:Nat):Int)+20)=((P.length+20+20:Nat):Int):=by rw[wrap_i64 (by omega) (by omega)];omega
    generalize kc (P++C++D)=c1 at q⊢
    generalize kc (P++W++D)=c2 at q⊢
    generalize ((P.length+20+20:Nat):Int)=gv2 at*
    generalize ((P.length+20:Nat):Int)=v at*
    generalize (P.length:Int)=u at*
    generalize J:(N:Int)=w at*
    simp[p_,m,hw,q]
theorem Xc(N s:Nat)(hn:N<=1099511627776)(hs:0<s)(x3:s<=1099511627776):∀(k:Nat) (P R:ah),R.length<=k->(P++R).length=N->(∀t,t∈P++R->t.inner<=1099511627776)->Blk s R->
 ∃(g e:ah) (a:Nat),e.length<2*s/\a=P.length+g.length/\a+e.length=N/\(g++e).Perm R/\Blk s e/\(∀Q,Blk (2*s) Q->Blk (2*s) (g++Q))/\
  bo XV [] 1 [0,1,2,6,7,8] xP ⟨[(0,.tsl true 0 3 N),(1,aa N),(2,.fn 6 []),(6,aa s),(7,aa P.length),(8,aa (P.length+2*s:Nat))],[some (kc (P++R))]⟩=
   some (.exit 4,⟨[(0,.tsl true 0 3 N),(1,aa N),(2,.fn 6 []),(6,aa s),(7,aa a),(8,aa (a+2*s:Nat)),(35,au false)],[some (kc (P++g++e))]⟩):=by
 have head:∀(x y:Int) (c:aH),aA 1 [0,1,2,6,7,8] ⟨[(0,.tsl true 0 3 N),(1,aa N),(2,.fn 6 []),(6,aa s),(7,aa x),(8,aa y)],[some c]⟩=some ⟨[(0,.tsl true 0 3 N),(1,aa N),(2,.fn 6 []),(6,aa s),(7,aa x),(8,aa y)],[some c]⟩:=fun x y c=>by simp[aA,aB,fl,ic,eL]
 have stop:∀(P R:ah),(P++R).length=N->R.length<2*s->bo XV [] 1 [0,1,2,6,7,8] xP ⟨[(0,.tsl true 0 3 N),(1,aa N),(2,.fn 6 []),(6,aa s),(7,aa P.length),(8,aa (P.length+2*s:Nat))],[some (kc (P++R))]⟩=
  some (.exit 4,⟨[(0,.tsl true 0 3 N),(1,aa N),(2,.fn 6 []),(6,aa s),(7,aa P.length),(8,aa (P.length+2*s:Nat)),(35,au false)],[some (kc (P++R))]⟩):=fun P R n O=>by
  refine dN (head _ _ _) ?_ (by simp);have o:¬(((P.length+2*s:Nat):Int)<=(N:Int)):=by simp at n;omega
  generalize ((P.length+2*s:Nat):Int)=v at*
  generalize (N:Int)=w at*
  simp[xP,o]
 intro k
 induction k with
 |zero=>intro P R K j i l;exact⟨[],R,P.length,by omega,by simp,by simpa using j,by simp,l,fun Q h=>by simpa using h,by simpa using stop P R j (by omega)⟩
 |succ k ih=>
  intro P R K j i l
  by_cases p:R.length<2*s
  ·exact⟨[],R,P.length,p,by simp,by simpa using j,by simp,l,fun Q h=>by simpa using h,by simpa using stop P R j p⟩
  ·obtain⟨b,d,D,rfl,l1,l2,b1,b2,b3⟩:∃b d D,R=b++(d++D)/\b.length=s/\d.length=s/\b4 b/\b4 d/\Blk s D:=by
    cases l with
    |last _ n _=>omega
    |cons c r n O h3=>
     cases h3 with
     |last _ J _=>simp at p;omega
     |cons c' Z J h5 h6=>exact⟨c,c',Z,rfl,n,J,O,h5,h6⟩
   have x1:P.length+b.length+d.length+D.length=N:=by simp at j;omega
   have M:P++(b++(d++D))=P++b++d++D:=by simp
   obtain⟨W,H,w2,I⟩:=ON (b.length+d.length) P b d D P.length (P.length+s) (P.length+2*s) N (bN _) (by omega) (by omega) rfl (by omega) (by omega) (by simp;omega) hn (fun t m=>i t (by rw[M];exact m)) b1 b2;have F:W.length=2*s:=by rw[H.length_eq];simp;omega
   have G:(P++W).length=P.length+2*s:=by simp;omega
   obtain⟨g,e,a,Y,r2,r3,r4,r5,r6,V⟩:=ih (P++W) D (by simp at K;omega) (by simp;omega) (fun t m=>i t (by
    simp only[bu]at m⊢
    rcases m with(h|h)|h
    ·simp[h]
    ·have:=H.mem_iff.1 h
     simp only[bu]at this;rcases this with h|h<;>simp[h]
    ·simp[h])) b3
   refine⟨W++g,e,a,Y,by simp at r2⊢;omega,r3,?_,r5,fun Q hQ=>by rw[bW];exact .cons W _ F w2 (r6 Q hQ),?_⟩
   ·rw[bW]
    refine(H.append r4).trans ?_;simp
   ·have e1:P++(W++g)++e=P++W++g++e:=by simp
    rw[e1,<-V,G,M];refine eb (head _ _ _) ?_;have q:(((P.length+2*s:Nat):Int)<=(N:Int)):=by omega
    have hw:IntKind.i64.wrap (((P.length+2*s:Nat):Int)+((2*s:Nat):Int))=((P.length+2*s+2*s:Nat):Int):=by rw[wrap_i64 (by omega) (by omega)];omega
    have z:IntKind.i64.wrap (2*(s:Int))=((2*s:Nat):Int):=by rw[wrap_i64 (by omega) (by omega)];omega
    have C:IntKind.i64.wrap ((P.length:Int)+s)=((P.length+s:Nat):Int):=by rw[wrap_i64 (by omega) (by omega)];omega
    generalize kc (P++b++d++D)=c1 at I⊢
    generalize kc (P++W++D)=c2 at I⊢
    generalize ((P.length+2*s+2*s:Nat):Int)=gv2 at*
    generalize ((P.length+2*s:Nat):Int)=v at*
    generalize ((P.length+s:Nat):Int)=gv3 at*
    generalize ((2*s:Nat):Int)=gv4 at*
    generalize (P.length:Int)=u at*
    generalize (s:Int)=gs at*
    generalize x2:(N:Int)=w at*
    simp[xP,q,hw,z,C,I]
theorem ZM(N:Nat)(Y:N<=1099511627776):∀(k s:Nat) (l:ah),N-s<=k->0<s->s<=2199023255552->l.length=N->(∀t,t∈l->t.inner<=1099511627776)->Blk s l->
 ∃(l':ah) (s':Nat),l'.Perm l/\b4 l'/\
  bo XV [] 1 [0,1,2,6] oY ⟨[(0,.tsl true 0 3 N),(1,aa N),(2,.fn 6 []),(6,aa s)],[some (kc l)]⟩=
   some (.exit 2,⟨[(0,.tsl true 0 3 N),(1,aa N),(2,.fn 6 []),(6,aa s'),(30,au false)],[some (kc l')]⟩):=by
 have head:∀(x:Int) (c:aH),aA 1 [0,1,2,6] ⟨[(0,.tsl true 0 3 N),(1,aa N),(2,.fn 6 []),(6,aa x)],[some c]⟩=some ⟨[(0,.tsl true 0 3 N),(1,aa N),(2,.fn 6 []),(6,aa x)],[some c]⟩:=fun x c=>by simp[aA,aB,fl,ic,eL]
 have stop:∀(s:Nat) (l:ah),0<s->N<=s->l.length=N->Blk s l->∃(l':ah) (s':Nat),l'.Perm l/\b4 l'/\
  bo XV [] 1 [0,1,2,6] oY ⟨[(0,.tsl true 0 3 N),(1,aa N),(2,.fn 6 []),(6,aa s)],[some (kc l)]⟩=
   some (.exit 2,⟨[(0,.tsl true 0 3 N),(1,aa N),(2,.fn 6 []),(6,aa s'),(30,au false)],[some (kc l')]⟩):=fun s l j H V M=>by
  refine⟨l,s,j5 _,M.srt (by omega) j,?_⟩;refine dN (head _ _) ?_ (by simp);have e:¬((s:Int)<(N:Int)):=by omega
  generalize (s:Int)=v at*
  generalize (N:Int)=w at*
  simp[oY,e]
 intro k
 induction k with
 |zero=>intro s l hk j P F n z;exact stop s l j (by omega) F z
 |succ k ih=>
  intro s l hk j P F n z
  by_cases I:N<=s
  ·exact stop s l j I F z
  obtain⟨b,g,a,r1,R,r3,r4,Z,r6,y⟩:=Xc N s Y j (by omega) l.length [] l (bN _) (by simpa using F) (by simpa using n) z;simp only[cp,kq,dM]at R y;have m:∀t,t∈b++g->t.inner<=1099511627776:=fun t q=>n t (r4.mem_iff.1 q)
  obtain⟨W,u,J,Q⟩:∃W:ah,W.Perm g/\b4 W/\((((a+s:Nat):Int)<(N:Int)/\ak XV 173 [.tsl true 0 3 N,aa a,aa (a+s:Nat),aa N,.fn 6 []] [some (kc (b++g))]=some (.d (.tup []),[some (kc (b++W))]))\/(¬((a+s:Nat):Int)<(N:Int)/\W=g)):=by
   by_cases h:a+s<N
   ·obtain⟨C,D,rfl,l1,b1,b2⟩:∃C D,g=C++D/\C.length=s/\b4 C/\Blk s D:=by
     cases Z with
     |last _ H _=>omega
     |cons c r H V M=>exact⟨c,r,rfl,H,V,M⟩
    have h4:a+(s+D.length)=N:=by simp at r3;omega
    obtain⟨W,u,J,Q⟩:=ON (C.length+D.length) b C D [] a (a+s) N N (bN _) (by omega) (by omega) R (by omega) (by omega) (by simp;omega) Y (fun t q=>m t (by simpa using q)) b1 (b2.srt (by omega) j);refine⟨W,u,J,.inl ⟨by omega,?_⟩⟩;have e1:b++(C++D)=b++C++D++[]:=by simp
    have e2:b++W=b++W++[]:=by simp
    rw[e1,e2];exact Q
   ·exact⟨g,j5 _,Z.srt (by omega) j,.inr ⟨by omega,rfl⟩⟩
  have h5:W.length=g.length:=u.length_eq;have G:Blk (2*s) (b++W):=r6 W (.last W (by omega) J);obtain⟨l',s',p1,p2,p3⟩:=ih (2*s) (b++W) (by omega) (by omega) (by omega) (by simp;omega) (fun t q=>m t (by
   rcases bu.1 q with h|h
   ·simp[h]
   ·simp[u.mem_iff.1 h])) G
  refine⟨l',s',p1.trans ((j5 b).append u|>.trans r4),p2,?_⟩;rw[<-p3];refine eb (head _ _) ?_;have e:((s:Int)<(N:Int)):=by omega
  have o:IntKind.i64.wrap (2*(s:Int))=((2*s:Nat):Int):=by rw[wrap_i64 (by omega) (by omega)];omega
  have i:IntKind.i64.wrap ((s:Int)*2)=((2*s:Nat):Int):=by rw[wrap_i64 (by omega) (by omega)];omega
  have p:IntKind.i64.wrap ((a:Int)+s)=((a+s:Nat):Int):=by rw[wrap_i64 (by omega) (by omega)];omega
  simp only[m8]at y;rcases Q with⟨K,g2⟩|⟨K,rfl⟩
  ·generalize kc (b++W)=c3 at*
   generalize kc (b++g)=c2 at*
   generalize kc l=c1 at*
   generalize ((a+2*s:Nat):Int)=gv1 at*
   generalize ((a+s:Nat):Int)=gv3 at*
   generalize ((2*s:Nat):Int)=gv4 at*
   generalize (a:Int)=ga at*
   generalize (s:Int)=gs at*
   generalize O:(N:Int)=w at*
   simp[oY,e,o];rw[y];simp[i,p,K,g2]
  ·generalize kc (b++W)=c2 at*
   generalize kc l=c1 at*
   generalize ((a+2*s:Nat):Int)=gv1 at*
   generalize ((a+s:Nat):Int)=gv3 at*
   generalize ((2*s:Nat):Int)=gv4 at*
   generalize (a:Int)=ga at*
   generalize (s:Int)=gs at*
   generalize O:(N:Int)=w at*
   simp[oY,e,o];rw[y];simp[i,p,K]
theorem XT(l:ah)(j:l.length<=1099511627776)(e:∀t,t∈l->t.inner<=1099511627776):
 ∃l':ah,l'.Perm l/\b4 l'/\ak XV 171 [.tsl true 0 3 l.length,aa l.length,.fn 6 []] [some (kc l)]=some (.d (.tup []),[some (kc l')]):=by
 obtain⟨c,i,a,D,o,F,p,u,k⟩:=UK l.length j l.length [] l (bN _) (by simp) (by simpa using e);simp only[cp,kq,dM]at o k;have b:∀t,t∈c++i->t.inner<=1099511627776:=fun t g=>e t (p.mem_iff.1 g)
 obtain⟨W,m,r,q⟩:=Lz c i [] a l.length l.length o (by omega) (by simp;omega) j (fun t g=>b t (by simpa using g));simp only[cR]at q;have z:W.length=i.length:=m.length_eq;have x:Blk 20 (c++W):=u W (.last W (by omega) r);obtain⟨l',s',y,s,n⟩:=ZM l.length j l.length 20 (c++W) (by omega) (by omega) (by omega) (by simp;omega) (fun t g=>b t (by
  rcases bu.1 g with h|h
  ·simp[h]
  ·simp[m.mem_iff.1 h])) x
 refine⟨l',y.trans ((j5 c).append m|>.trans p),s,?_⟩;rw[aL 171 se rfl];simp only[m8,show((20:Nat):Int)=20 from rfl]at k n;generalize kc (c++W)=c3 at*
 generalize kc (c++i)=c2 at*
 generalize kc l=c1 at*
 generalize kc l'=c4 at*
 generalize ((a+20:Nat):Int)=gv1 at*
 generalize (a:Int)=ga at*
 generalize C:(l.length:Int)=w at*
 simp[se];rw[k];simp[GF,q];rw[n];simp
theorem R6(l:ah)(b:l.length<=1099511627776)(a:∀t,t∈l->t.inner<=1099511627776):
 ∃l':ah,l'.Perm l/\b4 l'/\ak XV 170 [.tsl true 0 3 l.length,.fn 6 []] [some (kc l)]=some (.d (.tup []),[some (kc l')]):=by
 obtain⟨l',e,g,c⟩:=XT l b a;refine⟨l',e,g,?_⟩;rw[aL 170 tI rfl];generalize kc l'=c2 at*
 generalize kc l=c1 at*
 simp[tI,c]
mutual
theorem S7:∀t:T,(t.enc U).allU=true
 | .node f v ks=>by
  have:=IC ks;unfold T.enc;cases ks with
  |nil=>simp[T.encs,DV.allU,DV.allUs]
  |cons a r=>simp only[T.encs]at this⊢;simp[DV.allU,DV.allUs]at this⊢;exact this
theorem IC:∀l:ah,DV.allUs (T.encs U l)=true
 | []=>by simp[T.encs,DV.allUs]
 |t::r=>by simp[T.encs,DV.allUs,S7 t,IC r]
end
theorem U4:∀l:ah,DV.allUs (l.map (T.enc U))=true:=fun l=>by rw[<-T.qeH];exact IC l
def nB(f v:Int)(ks:ah):az:=[some [aa f,aa v,.d (ao .sub ks)],some [aa 0,aa 0,.d (.sl U [])]]
theorem Pu(s:aC)(q:s.length<=1099511627776)(f v:Int)(ks acc:ah)(u:ks.length<=1099511627776)(i:Nat)(hi:i<ks.length)(p:acc.length<=1099511627776)(w:((ai ks i).norm s).kids.length<=1099511627776)
 (hc:ak XV 169 [.d (sg s),.d ((ai ks i).enc .sub)] []=some (.d (((ai ks i).norm s).enc U),[])):
 ∃e:az,aS XV (XV.lin 169) mA ⟨[(0,.d (sg s)),(3,.ptr 0 0),(4,.ptr 1 0),(5,.d (.sl U (acc.map (T.enc U)))),(10,.d (ao .sub ks)),(11,aa ks.length),(12,aa i)],nB f v ks⟩=
  some (.normal,⟨[(0,.d (sg s)),(3,.ptr 0 0),(4,.ptr 1 0),(5,.d (.sl U ((acc++dw s f ((ai ks i).norm s)).map (T.enc U)))),(10,.d (ao .sub ks)),(11,aa ks.length),(12,aa (i+1:Nat))],nB f v ks++e⟩):=by
 have j:=aV (n:=i) (by omega);have h:=vY s q f;have l:=a5 hi;generalize ai ks i=k at*
 generalize r:k.norm s=n at*
 unfold dw nB
 by_cases g:bn s f=true
 ·by_cases o:(n.f==f)=true
  ·have a:=rF acc n.kids U (by omega)
   generalize b:(acc++n.kids).map (T.enc U)=l2 at a;generalize acc.map (T.enc U)=l1 at a⊢
   refine⟨[some [aa n.f,aa n.v,.d (ao .sub n.kids)]],?_⟩;simp[mA,hi,j,cut,l,hc,h,g,o,a,b,splice,aY,a6,bb,ba,aW,AV.qay]
  ·have a:=rF acc [n] U (by simp;omega)
   have c:(n.f==f)=false:=by simpa using o
   simp only[bF,bS]at a;generalize b:(acc++[n]).map (T.enc U)=l2 at a;generalize acc.map (T.enc U)=l1 at a⊢
   refine⟨[some [aa n.f,aa n.v,.d (ao .sub n.kids)]],?_⟩;simp[mA,hi,j,cut,l,hc,h,g,c,a,b,splice,aY,a6,bb,ba,aW,AV.qay]
 ·have m:bn s f=false:=by simpa using g
  have a:=rF acc [n] U (by simp;omega);simp only[bF,bS]at a;generalize b:(acc++[n]).map (T.enc U)=l2 at a;generalize acc.map (T.enc U)=l1 at a⊢
  refine⟨[some [aa n.f,aa n.v,.d (ao .sub n.kids)]],?_⟩;simp[mA,hi,j,cut,l,hc,h,m,a,b,splice,aY,a6,bb,ba,aW,AV.qay]
theorem UI(B:az):ak XV 172 [.d (.sl .sub []),aa 0,aa 0,.fn 6 []] B=some (.d (.tup []),B):=by
 rw[aL 172 pQ rfl];have a:bo XV [46,50] B.length [0,1,2,3,8] py ⟨[(0,.d (.sl .sub [])),(1,aa 0),(2,aa 0),(3,.fn 6 []),(8,aa 1)],B⟩=some (.exit 0,⟨[(0,.d (.sl .sub [])),(1,aa 0),(2,aa 0),(3,.fn 6 []),(8,aa 1),(14,au false)],B⟩):=by refine dN (s0:=⟨[(0,.d (.sl .sub [])),(1,aa 0),(2,aa 0),(3,.fn 6 []),(8,aa 1)],B⟩) (by simp[aA,aB,ic,eL]) ?_ (by simp);simp[py]
 simp[pQ,wrap_i64];rw[a];simp
theorem UM(B:az):ak XV 170 [.d (.sl .sub []),.fn 6 []] B=some (.d (.tup []),B):=by
 have hi:=UI B;have b:bo XV [] B.length [0,1,2,6,7,8] p_ ⟨[(0,.d (.sl .sub [])),(1,aa 0),(2,.fn 6 []),(6,aa 20),(7,aa 0),(8,aa 20)],B⟩=some (.exit 0,⟨[(0,.d (.sl .sub [])),(1,aa 0),(2,.fn 6 []),(6,aa 20),(7,aa 0),(8,aa 20),(13,au false)],B⟩):=by refine dN (s0:=⟨[(0,.d (.sl .sub [])),(1,aa 0),(2,.fn 6 []),(6,aa 20),(7,aa 0),(8,aa 20)],B⟩) (by simp[aA,aB,ic,eL]) ?_ (by simp);simp[p_]
 have c:bo XV [] B.length [0,1,2,6] oY ⟨[(0,.d (.sl .sub [])),(1,aa 0),(2,.fn 6 []),(6,aa 20)],B⟩=some (.exit 2,⟨[(0,.d (.sl .sub [])),(1,aa 0),(2,.fn 6 []),(6,aa 20),(30,au false)],B⟩):=by refine dN (s0:=⟨[(0,.d (.sl .sub [])),(1,aa 0),(2,.fn 6 []),(6,aa 20)],B⟩) (by simp[aA,aB,ic,eL]) ?_ (by simp);simp[oY]
 have a:ak XV 171 [.d (.sl .sub []),aa 0,.fn 6 []] B=some (.d (.tup []),B):=by rw[aL 171 se rfl];simp[se];rw[b];simp[GF,hi];rw[c];simp
 rw[aL 170 tI rfl];simp[tI,a]
theorem qUc(s:aC)(l:s.length<=1099511627776)(f v:Int)(ks:ah)(p:bK ks<=1099511627776)
 (hc:∀t,t∈ks->ak XV 169 [.d (sg s),.d (t.enc .sub)] []=some (.d ((t.norm s).enc U),[])):∀(k i:Nat),i+k=ks.length->∀e:az,
 bo XV (XV.lin 169) 2 [0,3,4,5,10,11,12] mA ⟨[(0,.d (sg s)),(3,.ptr 0 0),(4,.ptr 1 0),(5,.d (.sl U ((iE s f ks i).map (T.enc U)))),(10,.d (ao .sub ks)),(11,aa ks.length),(12,aa i)],nB f v ks++e⟩=
  some (.exit 0,⟨[(0,.d (sg s)),(3,.ptr 0 0),(4,.ptr 1 0),(5,.d (.sl U ((flatK s f (T.norms s ks)).map (T.enc U)))),(10,.d (ao .sub ks)),(11,aa ks.length),(12,aa ks.length),(13,au false)],nB f v ks⟩):=by
 have head:∀(x y:AV) (e:az),y.clr=y->x.safe 2=true->y.safe 2=true->aA 2 [0,3,4,5,10,11,12] ⟨[(0,.d (sg s)),(3,.ptr 0 0),(4,.ptr 1 0),(5,x),(10,.d (ao .sub ks)),(11,aa ks.length),(12,y)],nB f v ks++e⟩=some ⟨[(0,.d (sg s)),(3,.ptr 0 0),(4,.ptr 1 0),(5,x),(10,.d (ao .sub ks)),(11,aa ks.length),(12,y)],nB f v ks⟩:=fun x y e hy hx b=>iS (by simp) (by simp[aB,hx,b]) (by simp[nB]) rfl
 intro k
 induction k with
 |zero=>
  intro i hi e;have:i=ks.length:=by omega
  subst this;refine dN (head _ _ e (by simp) (by simp) (by simp)) ?_ (by simp);rw[Nj];simp[mA]
 |succ k h=>
  intro i hi e;have a:i<ks.length:=by omega
  have c:=bL a;have n:=eH c;have o:=qc s (ai ks i);have r:=ML s f ks i;have q:=gA (iE s f ks i);have j:((ai ks i).norm s).kids.length<=1099511627776:=by have:=gA ((ai ks i).norm s).kids;rw[F_]at this;omega
  obtain⟨m,g⟩:=Pu s l f v ks (iE s f ks i) (by have:=gA ks;omega) i a (by omega) j (hc _ c);rw[<-h (i+1) (by omega) m,Pb s f ks i a];exact eb (head _ _ e (by simp) (by simp) (by simp)) g
theorem Qw(s:aC)(b:s.length<=1099511627776)(f v:Int)(ks:ah)(c:bK ks<=1099511627776)
 (hc:∀t,t∈ks->ak XV 169 [.d (sg s),.d (t.enc .sub)] []=some (.d ((t.norm s).enc U),[])):
 aS XV (XV.lin 169) eN.pre ⟨bA 0 [.d (sg s),.d ((T.node f v ks).enc .sub)],[]⟩=
  some (.normal,⟨[(3,.ptr 0 0),(4,.ptr 1 0),(5,.d (.sl U ((flatK s f (T.norms s ks)).map (T.enc U)))),(42,au (bn s f))],nB f v ks⟩):=by
 have a:=qUc s b f v ks c hc ks.length 0 (by omega) [];have e:=vY s b f;simp only[OX,bS,cR,qUI,nB,m8]at a;simp[eN,qJ,Dr,Bo,Bq,AF,aY,a6,bb,ba,aW,nB];rw[a];simp[e,aW]
theorem Zh:∀l:ah,((l.map (T.enc U)).flatMap DV.cells).map AV.d=kc l:=fun l=>by rw[Ef];rfl
theorem qMA(t:T)(r:ah)(q:bK (t::r)<=1099511627776):jh (ak XV) eN (t.enc U) (r.map (T.enc U))=some ((dE (t::r)).map (T.enc U)):=by
 have e:=gA (t::r);obtain⟨l',i,m,l⟩:=R6 (t::r) (by omega) (fun x hx=>by have:=eH hx;omega);have k:=Ix i m;have g:=U4 (t::r);have j:=Zh (t::r);simp only[bF]at g j;unfold jh;rw[ay g,j];have p:(T.enc U t).cells.length=3:=by simp
 have o:(r.map (T.enc U)).length+1=(t::r).length:=by simp
 rw[p,o];have e3:ak XV eN.srt [.tsl true 0 3 (t::r).length,.fn eN.cmp []] [some (kc (t::r))]=some (.d (.tup []),[some (kc l')]):=l;rw[e3];have a:l'.length=(t::r).length:=i.length_eq;have b:bd (kc l')=some (flat (l'.map (T.enc U))):=by rw[Ef];exact Ds _
 have h:=xM (l'.map (T.enc U)) (Hi U l');have n:(flat (l'.map (T.enc U))).length=(t::r).length*3:=by have:=qy b;have c:=nW l';rw[this,cV]at c;rw[c,a]
 simp only[b,bO];rw[ay n,<-a];rw[cV]at h;rw[h,k]
theorem Sx{X:XEnv}{T:ae}{sf:SFn}{ds:aw}{S:XS}{x:DV}{xr:aw}{y:DV×DV}{q:aw}(a:ds.length=sf.np)(e:aS X T sf.pre ⟨bA 0 (ds.map .d),[]⟩=some (.normal,S))
 (c:lk S.r sf.cond=some (au true)) (h:lk S.r sf.row=some (.d (.sl U (x::xr)))) (b:ta S=some y) (g:jh (ak X) sf x xr=some q):nV X T sf ds=some (.agg [y.1,y.2,.sl U q]):=by
 unfold nV;rw[aD (by simpa using a),e];simp only[bO];rw[c,h];simp only[U];rw[b];simp only[bO,g,b7]
theorem YV(s:aC)(k:s.length<=1099511627776)(f v:Int)(ks:ah)(i:bK ks<=1099511627776)
 (hc:∀t,t∈ks->ak XV 169 [.d (sg s),.d (t.enc .sub)] []=some (.d ((t.norm s).enc U),[])):
 ak XV 169 [.d (sg s),.d ((T.node f v ks).enc .sub)] []=some (.d (((T.node f v ks).norm s).enc U),[]):=by
 have h:=Qw s k f v ks i hc;have b:bK (flatK s f (T.norms s ks))<=1099511627776:=by have:=CI s f (T.norms s ks);have:=yH s ks;omega
 rw[Ub XV 169 _ _ eN rfl qC3 qCV];simp only[bd,bO,b7];have a:nV XV (XV.lin 169) eN [sg s,(T.node f v ks).enc .sub]=nV XV (XV.lin 169) eN [sg s,(T.node f v ks).enc .sub]:=rfl
 conv at a=>rhs;unfold nV
 rw[aD (by simp[eN,qJ])]at a;simp only[bF,bS]at a;rw[h]at a;simp only[T.norm]
 by_cases e:bn s f=true
 ·rw[ay e]
  cases hq:flatK s f (T.norms s ks)with
  |nil=>rw[a];have j:dE ([]:ah)=[]:=rfl;have c:=UM (nB f v ks);simp only[nB]at c;simp[eN,qJ,e,hq,lk,nB,j,c,splice,aY,a6,bb,ba,aW];rw[T.qb5];rfl
  |cons x r=>rw[hq]at b;have l:=qMA x r b;have:=Sx (X:=XV) (T:=XV.lin 169) (sf:=eN) (ds:=[sg s,(T.node f v ks).enc .sub]) (x:=x.enc U) (xr:=r.map (T.enc U)) (y:=(.int .i64 f,.int .i64 v)) rfl h (by simp[eN,qJ,lk,e]) (by simp[eN,qJ,lk,hq]) (by simp[ta,lk,nB,DV.flat,aY]) l;rw[this];simp only[b7];rw[T.qb5];rfl
 ·rw[aD e,a]
  have g:bn s f=false:=by simpa using e
  simp[eN,qJ,g,lk,nB,splice,aY,a6,bb,ba,aW]
theorem AX(s:aC)(b:s.length<=1099511627776)(t:T)(a:t.inner<=1099511627776):ak XV 169 [.d (sg s),.d (t.enc .sub)] []=some (.d ((t.norm s).enc U),[]):=by
 match t,a with
 | .node f v ks,a=>rw[T.qa0]at a;exact YV s b f v ks a fun x hx=>AX s b x (by have:=eH hx;omega)
termination_by t
decreasing_by
 simp_wf
 have:=d9 hx;omega
theorem GW(a c:ah)(g:Tag)(h:(a.length+c.length)*40<=140737488355328):bU 3 40 (.sl U (a.map (T.enc U))) (.sl g (c.map (T.enc U)))=some (.sl U ((a++c).map (T.enc U))):=by
 have b:(c.map (T.enc U)).all (fun e=>decide (e.cells.length=3/\e.cells.all DV.isCell=true))=true:=by simp[aY,a6]
 have d:(a.map (T.enc U)).all (fun e=>decide (e.cells.length=3))=true:=by simp
 unfold bU;simp only;rw[ay b];cases c with
 |nil=>simp
 |cons x r=>simp only[bF,gN,bh,if_false];rw[ay ⟨by simpa using h,trivial,d⟩];simp
theorem YM(xs:aw)(m:Nat):fX xs 0 m=(xs.take m).map DV.clr++xs.drop m:=by unfold fX;simp[DV.qay]
def putAt(t:T)(l:ah):Nat:=match aR (fun i=>decide (T.cmp t (ai l i)<0)) l.length 0 with
 |some j=>j
 |none=>l.length
theorem yI(q:Nat->Bool):∀(k i:Nat),(∀j,aR q k i=some j->∀m,i<=m->m<j->q m=false)/\(aR q k i=none->∀m,i<=m->m<i+k->q m=false)
 |0,i=>⟨fun j h=>by simp[aR]at h,fun _ m b a=>by omega⟩
 |k+1,i=>by
  have d:=yI q k (i+1);simp only[aR]
  by_cases h:q i=true
  ·simp only[h,if_true]
   exact⟨fun j c m b a=>by simp at c;omega,fun h=>by simp at h⟩
  ·simp only[h,bh,if_false]
   refine⟨fun j c m b a=> ?_,fun g m b a=> ?_⟩
   ·by_cases e:m=i
    ·subst e;simpa using h
    ·exact d.1 j c m (by omega) a
   ·by_cases e:m=i
    ·subst e;simpa using h
    ·exact d.2 g m (by omega) (by omega)
theorem LV(t:T)(l:ah):putAt t l<=l.length:=by
 unfold putAt;split
 ·rename_i j h;have:=(dA _ _ _ _ h).2.1;omega
 ·omega
theorem VT(t:T)(l:ah):iw t l=l.take (putAt t l)++t::l.drop (putAt t l):=by
 have h:=yI (fun i=>decide (T.cmp t (ai l i)<0)) l.length 0;refine MO t l _ (LV t l) (fun i hi=> ?_) (fun a=> ?_)
 ·unfold putAt at hi
  split at hi
  ·rename_i j c
   simpa using h.1 j c i (by omega) hi
  ·rename_i b
   simpa using h.2 b i (by omega) (by omega)
 ·unfold putAt at a⊢
  split
  ·rename_i j c
   simpa using (dA _ _ _ _ c).2.2
  ·rename_i b;rw[b]at a;simp at a
theorem Lp(l:ah)(t:T)(Z:bK l<=1099511627776)(O:t.inner<=1099511627776)(r o p k:Option aH):ak XV 154 [.d (ao U l),.d (t.enc U)] [r,o,p,k]=some (.d (.sl U ((iw t l).map (T.enc U))),[r,o,p,k]):=by
 have G:=gA l;have y:=LV t l;have M:∀i,i<l.length->ak XV 84 [.d (t.enc .sub),.d ((ai l i).enc .sub)] []=some (au (decide (T.cmp t (ai l i)<0)),[]):=fun i hi=>F3 t (ai l i) O (by have:=eH (bL hi);omega)
 rw[aL 154 BP rfl];have h:=bE (X:=XV) (T:=XV.lin 154) (L:=5) (live:=[0,3,5]) (b:=rZ) (n:=l.length) (st:=fun(_:Unit) i=>⟨[(0,.d (ao U l)),(3,.ptr 4 0),(5,aa i)],[r,o,p,k,some [aa t.f,aa t.v,.d (ao U t.kids)]]⟩) (step:=bG fun i=>decide (T.cmp t (ai l i)<0))
  (F:=fun _=>(.exit 0,⟨[(0,.d (ao U l)),(3,.ptr 4 0),(5,aa l.length),(19,au false)],[r,o,p,k,some [aa t.f,aa t.v,.d (ao U t.kids)]]⟩)) (R:=fun(j:Nat)=>(.exit 0,⟨[(0,.d (ao U l)),(3,.ptr 4 0),(5,aa j),(19,au false)],[r,o,p,k,some [aa t.f,aa t.v,.d (ao U t.kids)]]⟩))
  (fun a=>⟨by simp,by simp[rZ,Fh]⟩)
  (fun a i hi=>by
   have N:=aV (n:=i) (by omega);have hc:=M i hi;unfold bG
   by_cases x:decide (T.cmp t (ai l i)<0)=true
   ·rw[ay x]
    rw[x]at hc;exact⟨by simp,by simp[rZ,Fh,hi,cut,a5 hi,hc,aW]⟩
   ·rw[aD x]
    have C:decide (T.cmp t (ai l i)<0)=false:=by simpa using x
    rw[C]at hc;exact⟨⟨[(0,.d (ao U l)),(3,.ptr 4 0),(5,aa (i+1:Nat))],[r,o,p,k,some [aa t.f,aa t.v,.d (ao U t.kids)]]⟩,by simp[rZ,Fh,hi,N,cut,a5 hi,hc,aW],by simp[aA,aB]⟩)
  l.length () 0 ⟨[(0,.d (ao U l)),(3,.ptr 4 0),(5,aa 0)],[r,o,p,k,some [aa t.f,aa t.v,.d (ao U t.kids)]]⟩ (by omega) (by simp[aA,aB])
 have h':bo XV (XV.lin 154) 5 [0,3,5] rZ ⟨[(0,.d (ao U l)),(3,.ptr 4 0),(5,aa 0)],[r,o,p,k,some [aa t.f,aa t.v,.d (ao U t.kids)]]⟩=
  some (.exit 0,⟨[(0,.d (ao U l)),(3,.ptr 4 0),(5,aa (putAt t l)),(19,au false)],[r,o,p,k,some [aa t.f,aa t.v,.d (ao U t.kids)]]⟩):=by
  rw[h,cT];unfold putAt;cases x:aR (fun i=>decide (T.cmp t (ai l i)<0)) l.length 0<;>simp
 clear h;rw[VT];generalize putAt t l=m at*
 have H:=GW [] (l.take m) .sub (by simp;omega);have J:=GW (l.take m) [t] U (by simp;omega);have I:=GW (l.take m++[t]) (l.drop m) .sub (by simp;omega);have w:(l.map (T.enc U)).all (fun e=>decide (e.cells.length=3))=true:=by simp
 have s:fX (l.map (T.enc U)) 0 m=(l.take m).map (T.enc .sub)++(l.drop m).map (T.enc U):=by rw[YM,<-List.map_take,mg,<-List.map_drop]
 have u:((l.take m).map (T.enc .sub)++(l.drop m).map (T.enc U)).all (fun e=>decide (e.cells.length=3))=true:=by
  have q:∀(l:ah) (g:Tag),(l.map (T.enc g)).all (fun e=>decide (e.cells.length=3))=true:=fun l g=>by simp
  rw[Ee,q,q];rfl
 have c:((l.take m).map (T.enc .sub)++(l.drop m).map (T.enc U)).length=l.length:=by simp;omega
 have z:(((l.take m).map (T.enc .sub)++(l.drop m).map (T.enc U)).take l.length).drop m=(l.drop m).map (T.enc U):=by rw[dC (by rw[c];exact bN _),List.drop_append_of_le_length (by simp;omega),vg (by simp;omega)];rfl
 have D:(l.map (T.enc U)).take m=(l.take m).map (T.enc U):=BS.symm;simp only[bS,cp,bF,cM,bW,c_]at H J I⊢
 generalize Y:(l.take m).map (T.enc .sub)++(l.drop m).map (T.enc U)=R at*
 generalize P:(l.take m).map (T.enc U)=L1 at*
 generalize Q:(l.drop m).map (T.enc U)=L2 at*
 generalize K:L1++[T.enc U t]=L3 at*
 generalize V:L1++T.enc U t::L2=L4 at*
 simp only[W7]at h';simp[BP,aY,a6,bb,ba];rw[h'];simp[K8,JC,OO,y,w,u,c,s,z,D,H,J,I,aW,splice,AV.qay]
def nM(s:aC)(t:T):DV:=(t.norm s).enc U
theorem nt(s:aC)(f:Int)(h:¬bn s f=true):∀l:ah,flatK s f l=l
 | []=>rfl
 |k::l=>by
  rw[kN,nt s f h l];have h':bn s f=false:=by simpa using h
  simp[dw,h']
def jj(s:aC)(t:T):aw:=(t.norm s).kids.map (T.enc U)
theorem nA(s:aC)(t:T):nM s t= .agg [.int .i64 t.f,.int .i64 t.v,.sl U (jj s t)]:=by unfold nM jj;rw[T.qb5,It,Em]
theorem JE(s:aC)(t:T):(jj s t).map DV.clr=(t.norm s).kids.map (T.enc .sub):=by unfold jj;exact mg _ _
theorem Jb(s:aC)(t:T):(nM s t).cells=[.int .i64 t.f,.int .i64 t.v,.sl U (jj s t)]:=by rw[nA];rfl
theorem VE(s:aC)(a:ah)(t:T)(h:a.length<=1099511627776):bU 3 40 (.sl U (a.map (nM s))) (.sl U [nM s t])=some (.sl U (a.map (nM s)++[nM s t])):=by unfold bU;simp only;rw[ay (by simp[Jb,aY,a6])];simp only[gN,bh,if_false];rw[ay ⟨by simp;omega,trivial,by simp[Jb]⟩]
def rowAt(s:aC)(f:Int)(ks:ah)(i:Nat):aw:=if bn s f=true then(dE (iE s f ks i)).map (T.enc U)else(ks.take i).map (nM s)
theorem rowAt_zero(s:aC)(f:Int)(ks:ah):rowAt s f ks 0=[]:=by unfold rowAt;rw[OX];split<;>rfl
theorem norms_map(s:aC):∀l:ah,T.norms s l=l.map (T.norm s)
 | []=>by simp[T.norms]
 |t::r=>by simp[T.norms,norms_map s r]
theorem rowAt_all(s:aC)(f v:Int)(ks:ah):DV.agg [.int .i64 f,.int .i64 v,.sl U (rowAt s f ks ks.length)]=nM s (.node f v ks):=by
 rw[nA];unfold rowAt jj;rw[Nj,lg];simp only[T.qaO,T.qbx,T.norm]
 by_cases a:bn s f=true
 ·simp only[a,if_true,T.qav]
 ·simp only[a,bh,if_false,T.qav]
  rw[nt s f a,norms_map,eI];rfl
def di(f v:Int)(ks:ah)(R:aw):az:=[some [aa f,aa v,.d (ao .sub ks)],some [aa 0,aa 0,.d (.sl U [])],some [aa f,aa v,.d (.sl U R)]]
def eE(l:ah)(j:Nat):aw:=(l.take j).map (T.enc .sub)++(l.drop j).map (T.enc U)
theorem qMO(l:ah)(j:Nat)(h:j<=l.length):(eE l j).length=l.length:=by unfold eE;simp;omega
theorem PD(l:ah)(j:Nat):(eE l j).map DV.clr=l.map (T.enc .sub):=by unfold eE;rw[cM,mg,mg,<-List.map_append,dK]
theorem qSZ(l:ah)(j:Nat)(h:j<l.length):(eE l j)[j]?=some ((ai l j).enc U):=by unfold eE;rw[dB (by simp;omega),dV h,a5 h];simp[Hg (Nat.le_of_lt h)]
theorem S5(l:ah)(j:Nat)(h:j<l.length):(eE l j).set j ((ai l j).enc .sub)=eE l (j+1):=by
 unfold eE;have a:((l.take j).map (T.enc .sub)).length=j:=by simp;omega
 rw[vP _ _ (by rw[a];exact bN _),a,m_,dV h,a5 h,bF,wh,tn l j h,cM,bW,bF,bS];rfl
theorem PH(l:ah):eE l l.length=l.map (T.enc .sub):=by unfold eE;simp
theorem Qh(l:ah):eE l 0=l.map (T.enc U):=by unfold eE;simp
theorem qMn(TT:ae)(d4:Nat)(s:XS)(b off:Nat)(cs:aH)(g gt:Tag)(xs:aw)(k:Nat)(t:T):xd TT d4 3 s b off cs g xs k (some (t.enc gt))=some (a9 TT ⟨s.r,s.B.set b (some (cs.set off (.d (.sl g (xs.set k (t.enc .sub))))))⟩ (some d4) (.d (t.enc gt))):=by rw[<-T.qfc gt t,T.qb5];rfl
theorem Z4(s:aC)(F:s.length<=1099511627776)(f v c g:Int)(ks l:ah)(i:Nat)(D:l.length<=1099511627776):∀(k j:Nat),j+k=l.length->∀acc:ah,bK acc+bK (l.drop j)<=1099511627776->∀e:az,
 bo XV (XV.lin 153) 4 [0,3,4,5,6,7,8] D1 ⟨[(0,.d (sg s)),(3,.ptr 0 0),(4,.ptr 1 0),(5,.ptr 2 0),(6,aa i),(7,.ptr 3 0),(8,aa j)],di f v ks (acc.map (T.enc U))++[some [aa c,aa g,.d (.sl U (eE l j))]]++e⟩=
  some (.exit 3,⟨[(0,.d (sg s)),(3,.ptr 0 0),(4,.ptr 1 0),(5,.ptr 2 0),(6,aa i),(7,.ptr 3 0),(8,aa l.length),(32,au false)],di f v ks ((gg acc (l.drop j)).map (T.enc U))++[some [aa c,aa g,.d (.sl U (l.map (T.enc .sub)))]]⟩):=by
 have head:∀(x:Int) (A e:az),A.length=4->aA 4 [0,3,4,5,6,7,8] ⟨[(0,.d (sg s)),(3,.ptr 0 0),(4,.ptr 1 0),(5,.ptr 2 0),(6,aa i),(7,.ptr 3 0),(8,aa x)],A++e⟩=some ⟨[(0,.d (sg s)),(3,.ptr 0 0),(4,.ptr 1 0),(5,.ptr 2 0),(6,aa i),(7,.ptr 3 0),(8,aa x)],A⟩:=fun x A e u=>iS (by simp) (by simp[aB]) u rfl
 intro k
 induction k with
 |zero=>
  intro j C acc b e;have:j=l.length:=by omega
  subst this;refine dN (head _ _ e (by simp[di])) ?_ (by simp);rw[List.drop_length,PH];simp only[gg];simp[D1,di,aW]
 |succ k r=>
  intro j C acc b e;have a:j<l.length:=by omega
  have m:l.drop j=ai l j::l.drop (j+1):=by rw[dV a,a5 a]
  have z:=aV (n:=j) (by omega);have o:=qMO l j (by omega);have p:=PD l j;have y:∀h:j<(eE l j).length,(eE l j)[j]'h=(ai l j).enc U:=fun h=>(cW.1 (qSZ l j a)).2
  have q:=S5 l j a;rw[m,iX]at b;have w:=Lp acc (ai l j) (by omega) (by omega);rw[m];simp only[gg];rw[<-r (j+1) (by omega) (iw (ai l j) acc) (by rw[A3 (BV _ _),iX];omega) []];refine eb (head _ _ e (by simp[di])) ?_;generalize eE l (j+1)=R1 at*
  generalize eE l j=R0 at*
  simp[D1,q2G,di,a,z,a5 a,w,o,p,y,q,qMn,c9,VX.linT,splice,a6,bb,ba,aW]
theorem Uu(s:aC)(I:s.length<=1099511627776)(f v:Int)(ks:ah)(O:bK ks<=1099511627776)(i:Nat)(hi:i<ks.length)
 (hc:ak XV 153 [.d (sg s),.d ((ai ks i).enc .sub)] []=some (.d (nM s (ai ks i)),[])):
 ∃e:az,aS XV (XV.lin 153) qa ⟨[(0,.d (sg s)),(3,.ptr 0 0),(4,.ptr 1 0),(5,.ptr 2 0),(6,aa i)],di f v ks (rowAt s f ks i)⟩=
  some (.normal,⟨[(0,.d (sg s)),(3,.ptr 0 0),(4,.ptr 1 0),(5,.ptr 2 0),(6,aa (i+1:Nat))],di f v ks (rowAt s f ks (i+1))++e⟩):=by
 have H:=gA ks;have y:=aV (n:=i) (by omega);have x:=y4 s I f;have z:=a5 hi;have N:=eH (bL hi);have K:=qc s (ai ks i);have m:=Pb s f ks i hi;have c:=ML s f ks (i+1);have r:=tn ks i hi;have F:=JE s (ai ks i);have h:=It s (ai ks i);have w:=Em s (ai ks i);have b:=VE s (ks.take i) (ai ks i) (by simp;omega);rw[m,BM]at c;unfold rowAt;rw[m,r];rw[nA]at hc b;generalize P:ai ks i=k at*
 generalize Q:iE s f ks i=acc at*
 have o:jj s k=(k.norm s).kids.map (T.enc U):=rfl;generalize J:jj s k=X at*
 by_cases j:bn s f=true
 ·simp only[j,if_true]
  by_cases q:(k.f==f)=true
  ·have C:dw s f (k.norm s)=(k.norm s).kids:=by unfold dw;rw[h,j,q];rfl
   rw[C]at c⊢
   have a:=Z4 s I f v k.f k.v ks (k.norm s).kids i (by have:=gA (k.norm s).kids;rw[F_]at this;omega) (k.norm s).kids.length 0 (by omega) (dE acc) (by rw[A3 (lA acc),eM];omega) [];rw[eM,Qh,show gg (dE acc) (k.norm s).kids=dE (acc++(k.norm s).kids)from by unfold dE;rw[Hh]]at a;refine⟨[some [aa k.f,aa k.v,.d (.sl U ((k.norm s).kids.map (T.enc .sub)))]],?_⟩;have g:(k.f !=f)=false:=by simpa using q
   rw[<-o]at a;generalize (dE (acc++(k.norm s).kids)).map (T.enc U)=R2 at*
   generalize (dE acc).map (T.enc U)=R1 at*
   generalize (k.norm s).kids=l at*
   simp only[di,JJ,m8,c_,cp,cR]at a⊢
   simp[qa,hi,cut,z,hc,x,j,g,F,splice,aY,a6,bb,ba,aW];rw[a];simp[y]
  ·have u:(k.f==f)=false:=by simpa using q
   have g:(k.f !=f)=true:=by simpa using q
   have C:dw s f (k.norm s)=[k.norm s]:=by unfold dw;rw[h,j,u];rfl
   rw[C]at c⊢
   rw[show dE (acc++[k.norm s])=iw (k.norm s) (dE acc)from by unfold dE;rw[Hh];rfl];have G:=Lp (dE acc) (k.norm s) (by rw[A3 (lA acc)];omega) (by omega);have D:(k.norm s).enc U= .agg [.int .i64 k.f,.int .i64 k.v,.sl U X]:=by rw[T.qb5,h,w,o]
   simp only[D]at G;refine⟨[some [aa k.f,aa k.v,.d (ao .sub (k.norm s).kids)]],?_⟩;generalize iw (k.norm s) (dE acc)=R2 at*
   generalize dE acc=R1 at*
   generalize (k.norm s).kids=l at*
   simp[qa,di,hi,y,cut,z,hc,x,j,g,F,G,c9,VX.linT,splice,aY,a6,bb,ba,aW,AV.qay]
 ·have p:bn s f=false:=by simpa using j
  simp only[p,bh,if_false];refine⟨[some [aa k.f,aa k.v,.d (ao .sub (k.norm s).kids)]],?_⟩;rw[cM,bF,bS,nA,J];generalize M:(ks.take i).map (nM s)++[.agg [.int .i64 k.f,.int .i64 k.v,.sl U X]]=R2 at*
  generalize (ks.take i).map (nM s)=R1 at*
  generalize (k.norm s).kids=l at*
  simp[qa,di,hi,y,cut,z,hc,x,p,b,F,splice,aY,a6,bb,ba,aW,AV.qay]
theorem qUd(s:aC)(g:s.length<=1099511627776)(f v:Int)(ks:ah)(b:bK ks<=1099511627776)
 (hc:∀t,t∈ks->ak XV 153 [.d (sg s),.d (t.enc .sub)] []=some (.d (nM s t),[])):∀(k i:Nat),i+k=ks.length->∀e:az,
 bo XV (XV.lin 153) 3 [0,3,4,5,6] qa ⟨[(0,.d (sg s)),(3,.ptr 0 0),(4,.ptr 1 0),(5,.ptr 2 0),(6,aa i)],di f v ks (rowAt s f ks i)++e⟩=
  some (.exit 0,⟨[(0,.d (sg s)),(3,.ptr 0 0),(4,.ptr 1 0),(5,.ptr 2 0),(6,aa ks.length),(18,au false)],di f v ks (rowAt s f ks ks.length)⟩):=by
 have head:∀(x:Int) (A e:az),A.length=3->aA 3 [0,3,4,5,6] ⟨[(0,.d (sg s)),(3,.ptr 0 0),(4,.ptr 1 0),(5,.ptr 2 0),(6,aa x)],A++e⟩=some ⟨[(0,.d (sg s)),(3,.ptr 0 0),(4,.ptr 1 0),(5,.ptr 2 0),(6,aa x)],A⟩:=fun x A e l=>iS (by simp) (by simp[aB]) l rfl
 intro k
 induction k with
 |zero=>
  intro i hi e;have:i=ks.length:=by omega
  subst this;refine dN (head _ _ e (by simp[di])) ?_ (by simp);generalize rowAt s f ks ks.length=R;simp[qa,di,aW]
 |succ k j=>
  intro i hi e;have a:i<ks.length:=by omega
  obtain⟨h,c⟩:=Uu s g f v ks b i a (hc _ (bL a));rw[<-j (i+1) (by omega) h];exact eb (head _ _ e (by simp[di])) c
theorem Vd(s:aC)(c:s.length<=1099511627776)(f v:Int)(ks:ah)(b:bK ks<=1099511627776)
 (hc:∀t,t∈ks->ak XV 153 [.d (sg s),.d (t.enc .sub)] []=some (.d (nM s t),[])):
 ak XV 153 [.d (sg s),.d ((T.node f v ks).enc .sub)] []=some (.d (nM s (.node f v ks)),[]):=by
 rw[aL 153 AZ rfl];have a:=qUd s c f v ks b hc ks.length 0 (by omega) [];rw[<-rowAt_all];simp only[rowAt_zero,cR,JJ,di,m8]at a;generalize rowAt s f ks ks.length=R at*
 simp[AZ,splice,aY,a6,bb,ba,aW];rw[a];simp[Nt,splice,aY,a6,bb,ba,aW,AV.qay]
theorem DL(s:aC)(b:s.length<=1099511627776)(t:T)(a:t.inner<=1099511627776):ak XV 153 [.d (sg s),.d (t.enc .sub)] []=some (.d (nM s t),[]):=by
 match t,a with
 | .node f v ks,a=>rw[T.qa0]at a;exact Vd s b f v ks a fun x hx=>DL s b x (by have:=eH hx;omega)
termination_by t
decreasing_by
 simp_wf
 have:=d9 hx;omega
abbrev ts(l:aF):ah:=l.map Bd.t
def dst(n:Int)(neg:Bool)(s:ByteArray):XS:=⟨[(0,aa n),(3,au neg),(4,.d (.str s))],[]⟩
theorem Xt(a b:Nat):(a+(b+1)<=a)=False:=by simp
theorem q6m(x y z:AV):AV.clrs [x,y,z]=[x.clr,y.clr,z.clr]:=by simp only[AV.clrs]
def IsV(d:DV)(a:T):Prop:=∃(g:Tag) (X:aw),d= .agg [.int .i64 a.f,.int .i64 a.v,.sl g X]/\X.map DV.clr=a.kids.map (T.enc .sub)
theorem yY(s:aC)(t:T):IsV (nM s t) (t.norm s):=⟨U,jj s t,by rw[nA,It,Em],JE s t⟩
theorem N0(g:Tag)(t:T):IsV (t.enc g) t:=⟨g,t.kids.map (T.enc g),by rw[T.qb5],mg g _⟩
theorem XN(ks:ah)(l:bK ks<=1099511627776):ak XV 197 [.d (ao .sub ks)] []=some (.d (ao U ks),[]):=by
 have h:=gA ks;have hc:∀t,t∈ks->ak XV 146 [.d (t.enc .sub)] []=some (.d (t.enc U),[]):=fun t j=>wj t (by have:=eH j;omega)
 rw[aL 197 AL rfl];have a:=bE (X:=XV) (T:=XV.lin 197) (L:=0) (live:=[0,3,4]) (b:=Cb) (n:=ks.length) (γ:=Unit) (st:=fun(_:Unit) i=>⟨[(0,.d (ao .sub ks)),(3,.d (.sl U ((ks.take i).map (T.enc U)))),(4,aa i)],[]⟩) (step:=fun _ _=> .inl ())
  (F:=fun _=>(.exit 0,⟨[(0,.d (ao .sub ks)),(3,.d (.sl U ((ks.take ks.length).map (T.enc U)))),(4,aa ks.length),(9,au false)],[]⟩)) (R:=fun _=>(.ret,⟨[],[]⟩))
  (fun _=>⟨by simp,by simp[Cb]⟩)
  (fun _ i hi=>by
   have k:=aV (n:=i) (by omega);have e:=hc _ (bL hi);have c:=GU ks i hi (by omega);generalize g:(ks.take (i+1)).map (T.enc U)=l2 at c;generalize (ks.take i).map (T.enc U)=l1 at c⊢
   exact⟨⟨[(0,.d (ao .sub ks)),(3,.d (.sl U l2)),(4,aa (i+1:Nat))],[]⟩,by simp[Cb,hi,k,cut,a5 hi,e,c,aY,a6],by simp[aA,aB,<-g]⟩)
  ks.length () 0 ⟨[(0,.d (ao .sub ks)),(3,.d (.sl U [])),(4,aa 0)],[]⟩ (by omega) (by simp[aA,aB])
 rw[dv,lg]at a;simp only[P4]at a;simp[AL];rw[a];simp[JB]
theorem qUW(f:Int)(ks:ah):ak XV 164 [aa f,.d (ao .sub ks)] []=some (.d ((T.node f 0 ks).enc .sub),[]):=by rw[aL 164 Dc rfl];simp[Dc,splice,aY,a6,bb,ba,aW]
def eg(s:aC)(f:Int)(ks:ah):T:=
 if bn s f=true/\ks.length=0 then .node 0 0 []
 else if bn s f=true/\ks.length=1 then(ai ks 0).norm s
 else if dx s f=true then(T.node f 0 ks).norm s else .node f 0 ks
theorem Uf(s:aC)(f:Int)(ks:ah):(eg s f ks).inner<=bK ks:=by
 unfold eg;split
 ·simp[T.inner,T.inners]
 ·split
  ·rename_i h
   have a:=qc s (ai ks 0);have b:=eH (bL (l:=ks) (i:=0) (by omega));omega
  ·split
   ·have:=qc s (T.node f 0 ks);rw[T.qa0]at this;exact this
   ·rw[T.qa0];omega
theorem NH(g:Tag):(T.node 0 0 []).enc g= .agg [.int .i64 0,.int .i64 0,.sl g []]:=by rw[T.qb5];rfl
theorem qxb(s:aC)(o:s.length<=1099511627776)(f:Int)(ks:ah)(w:bK ks<=1099511627776):ak XV 192 [.d (sg s),aa f,.d (ao .sub ks)] []=some (.d ((eg s f ks).enc U),[]):=by
 have b:=F0 s o f;have q:=quk ks w;have x:=AX s o (T.node f 0 ks) (by rw[T.qa0];exact w);rw[aL 192 pi rfl];unfold eg
 by_cases c:dx s f=true
 ·obtain⟨k,i⟩:=pn c
  have e:=bY i;have g:bn s f=(aX s f.toNat).ac:=by unfold bn;rw[c];rfl
  rw[g];cases c2:(aX s f.toNat).ac with
  |false=>
   simp only[bh,false_and,if_false,c,if_true];generalize (T.node f 0 ks).norm s=a at*
   simp[pi,b,c,c2,k,i,e,cut,x,splice,aY,a6,bb,ba,aW]
  |true=>
   simp only[qi]
   by_cases y:ks.length=0
   ·rw[ay y]
    have l:(ks.length:Int)=0:=by omega
    generalize j:(ks.length:Int)=m at*
    rw[NH];simp[pi,b,c,c2,k,i,e,j,l,cut,splice,aY,a6,bb,ba,aW]
   ·rw[aD y]
    by_cases u:ks.length=1
    ·rw[ay u]
     have r:0<ks.length:=by omega
     have n:=AX s o (ai ks 0) (by have:=eH (bL r);omega);have C:ks[0]=ai ks 0:=a5 r;have p:(ks.length:Int)=1:=by omega
     generalize (ai ks 0).norm s=a at*
     generalize j:(ks.length:Int)=m at*
     simp[pi,b,c,c2,k,i,e,j,p,r,cut,n,C,splice,aY,a6,bb,ba,aW]
    ·rw[aD u,ay c]
     have e3:((ks.length:Int)==0)=false:=dR (by omega);have z:((ks.length:Int)==1)=false:=dR (by omega);generalize (T.node f 0 ks).norm s=a at*
     generalize j:(ks.length:Int)=m at*
     simp[pi,b,c,c2,k,i,e,j,e3,z,cut,x,splice,aY,a6,bb,ba,aW]
 ·have g:bn s f=false:=by unfold bn;simp[c]
  have h:dx s f=false:=by simpa using c
  simp only[g,bh,false_and,if_false,h];simp only[ao]at*
  rw[T.qb5];simp[pi,b,h,q,splice,aY,a6,bb,ba,aW]
theorem IsV.clr{d:DV}{a:T}(h:IsV d a):d.clr=a.enc .sub:=by obtain⟨g,X,rfl,b⟩:=h;simp only[DV.clr,DV.clrs];rw[DV.qay,b,T.qb5]
theorem Xv(s:aC)(j:s.length<=1099511627776)(f:Int)(ks:ah)(r:bK ks<=1099511627776):∃d,ak XV 193 [.d (sg s),aa f,.d (ao .sub ks)] []=some (.d d,[])/\IsV d (eg s f ks):=by
 have e:=y4 s j f;have a:=mi f 0 (s.length-1);have o:=XN ks r;have l:=qUW f ks;have h:=DL s j (T.node f 0 ks) (by rw[T.qa0];exact r);have n:IntKind.i64.wrap ((s.length:Int)-1)=s.length-1:=wrap_i64 (by omega) (by omega);rw[aL 193 pt rfl];unfold eg;cases c2:bn s f with
 |false=>
  simp only[bh,false_and,if_false];cases c:dx s f with
  |true=>
   simp only[if_true];refine⟨_,?_,yY s _⟩;rw[nA]at h⊢
   generalize jj s (T.node f 0 ks)=X at*
   rw[show b0 f 0 (s.length-1)=true from c]at a;simp[pt,e,c2,n,a,l,h,splice,aY,a6,bb,ba,aW]
  |false=>simp only[bh,if_false];refine⟨_,?_,N0 .sub _⟩;rw[show b0 f 0 (s.length-1)=false from c]at a;simp[pt,e,c2,n,a,l,o,splice,aY,a6,bb,ba,aW]
 |true=>
  have c:dx s f=true:=by unfold bn at c2;simp only[cb]at c2;exact c2.1
  simp only[qi]
  by_cases u:ks.length=0
  ·rw[ay u]
   have i:(ks.length:Int)=0:=by omega
   generalize g:(ks.length:Int)=m at*
   refine⟨_,?_,N0 U _⟩;rw[NH];simp[pt,e,c2,g,i,splice,aY,a6,bb,ba,aW]
  ·rw[aD u]
   by_cases q:ks.length=1
   ·rw[ay q]
    have p:0<ks.length:=by omega
    have b:=DL s j (ai ks 0) (by have:=eH (bL p);omega);have x:ks[0]=ai ks 0:=a5 p;have k:(ks.length:Int)=1:=by omega
    refine⟨_,?_,yY s _⟩;rw[nA]at b⊢
    generalize jj s (ai ks 0)=X at*
    generalize g:(ks.length:Int)=m at*
    simp[pt,e,c2,g,k,p,cut,b,x,splice,aY,a6,bb,ba,aW]
   ·rw[aD q,ay c]
    have e3:((ks.length:Int)==0)=false:=dR (by omega);have w:((ks.length:Int)==1)=false:=dR (by omega);refine⟨_,?_,yY s _⟩;rw[nA]at h⊢
    generalize jj s (T.node f 0 ks)=X at*
    rw[show b0 f 0 (s.length-1)=true from c]at a;generalize g:(ks.length:Int)=m at*
    simp[pt,e,c2,n,a,l,h,g,e3,w,splice,aY,a6,bb,ba,aW]
mutual
def bM(u:aF):T->T
 | .node f v ks=>if f= -1/\ks.length=0 then cJ u v else .node f v (b9 u ks)
def b9(u:aF):ah->ah
 | []=>[]
 |t::r=>bM u t::b9 u r
end
theorem i7(u:aF):∀l:ah,b9 u l=l.map (bM u)
 | []=>by simp[b9]
 |t::r=>by simp[b9,i7 u r]
end Go.Proofs.YtpcoohnjllclnaaGreat.VS
