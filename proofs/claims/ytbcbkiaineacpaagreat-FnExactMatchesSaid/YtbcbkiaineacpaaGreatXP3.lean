/- Contracts of the program's functions on the evaluator without names, and plain lemmas: part 3. -/
import Derived.Test.YtbcbkiaineacpaaGreatXP2
set_option linter.unusedSimpArgs false
set_option linter.unusedVariables false
namespace Go.Proofs.YtbcbkiaineacpaaGreat.VS
def bs(P:Nat->Bool):Nat->Nat->Nat->Nat
 |0,i,_=>i
 |k+1,i,j=>if i<j then(if P ((i+j)/2)=true then bs P k ((i+j)/2+1) j else bs P k i ((i+j)/2))else i
theorem qlT(P:Nat->Bool):∀(k i j:Nat),i<=j->j-i<=k->i<=bs P k i j/\bs P k i j<=j/\(bs P k i j=i\/P (bs P k i j-1)=true)/\(bs P k i j=j\/P (bs P k i j)=false)
 |0,i,j,h,hk=>by
  have e:bs P 0 i j=i:=rfl;rw[e];exact⟨Nat.le_refl _,h,.inl rfl,.inl (by omega)⟩
 |k+1,i,j,h,hk=>by
  simp only[bs]
  by_cases hij:i<j
  ·rw[if_pos hij]
   by_cases hP:P ((i+j)/2)=true
   ·rw[if_pos hP]
    obtain⟨h1,h2,h3,h4⟩:=qlT P k ((i+j)/2+1) j (by omega) (by omega);refine⟨by omega,h2,?_,h4⟩;rcases h3 with h3|h3
    ·right;rw[h3];simpa using hP
    ·exact .inr h3
   ·rw[if_neg hP]
    obtain⟨h1,h2,h3,h4⟩:=qlT P k i ((i+j)/2) (by omega) (by omega);refine⟨h1,by omega,h3,?_⟩;rcases h4 with h4|h4
    ·right;rw[h4];simpa using hP
    ·exact .inr h4
  ·rw[if_neg hij]
   exact⟨Nat.le_refl _,h,.inl rfl,.inl (by omega)⟩
theorem wrap_u64{n:Int}(h0:0<=n)(h1:n<=18446744073709551615):IntKind.u64.wrap n=n:=by
 simp[IntKind.wrap,IntKind.bits,IntKind.signed];omega
theorem qcF(x:Int):qdN .shr .u64 x 1=some (.int .u64 (x.fdiv 2)):=rfl
theorem qIL(n:Nat):(n:Int).fdiv 2=((n/2:Nat):Int):=by
 rw[Int.fdiv_eq_ediv_of_nonneg _ (by omega)];omega
theorem qhE(i j:Nat)(h:i+j<=4398046511104):IntKind.i64.wrap ((i:Int)+j)=((i+j:Nat):Int)/\IntKind.u64.wrap ((i+j:Nat):Int)=((i+j:Nat):Int)/\((i+j:Nat):Int).fdiv 2=(((i+j)/2:Nat):Int)/\IntKind.i64.wrap (((i+j)/2:Nat):Int)=(((i+j)/2:Nat):Int):=
 ⟨by rw[wrap_i64 (by omega) (by omega)];omega,wrap_u64 (by omega) (by omega),qIL _,wrap_i64 (by omega) (by omega)⟩
theorem qJm(l:List T)(a:Nat)(hn:l.length<=1099511627776)(ha:a<l.length)(hb:∀t,t∈l->t.inner<=1099511627776):∀(k i j:Nat),i<=j->j-i<=k->j<=l.length->
 qbw XV [70,74,122,126] 1 [0,1,4,10,11] qnD ⟨[(0,.tsl true 0 3 l.length),(1,.d (.int .i64 a)),(4,.fn 6 []),(10,.d (.int .i64 i)),(11,.d (.int .i64 j))],[some (kc l)]⟩=
  some (.exit 0,⟨[(0,.tsl true 0 3 l.length),(1,.d (.int .i64 a)),(4,.fn 6 []),(10,.d (.int .i64 (bs (fun h=>decide (T.cmp (tAt l h) (tAt l a)<0)) k i j:Nat))),(11,.d (.int .i64 (bs (fun h=>decide (T.cmp (tAt l h) (tAt l a)<0)) k i j:Nat))),(33,.d (.bool false))],[some (kc l)]⟩):=by
 have head:∀(i j:Nat),qad 1 [0,1,4,10,11] ⟨[(0,.tsl true 0 3 l.length),(1,.d (.int .i64 a)),(4,.fn 6 []),(10,.d (.int .i64 i)),(11,.d (.int .i64 j))],[some (kc l)]⟩=some ⟨[(0,.tsl true 0 3 l.length),(1,.d (.int .i64 a)),(4,.fn 6 []),(10,.d (.int .i64 i)),(11,.d (.int .i64 j))],[some (kc l)]⟩:=fun i j=>by
  simp[qad,qab,qaE,qcN,qbi]
 have stop:∀i:Nat,qbw XV [70,74,122,126] 1 [0,1,4,10,11] qnD ⟨[(0,.tsl true 0 3 l.length),(1,.d (.int .i64 a)),(4,.fn 6 []),(10,.d (.int .i64 i)),(11,.d (.int .i64 i))],[some (kc l)]⟩=
  some (.exit 0,⟨[(0,.tsl true 0 3 l.length),(1,.d (.int .i64 a)),(4,.fn 6 []),(10,.d (.int .i64 i)),(11,.d (.int .i64 i)),(33,.d (.bool false))],[some (kc l)]⟩):=fun i=>by
  refine qa5 (head _ _) ?_ (by simp);simp[qnD,qwv]
 intro k
 induction k with
 |zero=>
  intro i j h hk hj;have:i=j:=by omega
  subst this;exact stop i
 |succ k ih=>
  intro i j h hk hj;simp only[bs]
  by_cases hij:i<j
  ·rw[if_pos hij]
   obtain⟨m1,m2,m3,m4⟩:=qhE i j (by omega);have hc:=qI9 l a ((i+j)/2) hn ha (by omega) hb i j;have hw:=qae (n:=(i+j)/2) (by omega);have hij':(i:Int)<j:=by omega
   by_cases hP:T.cmp (tAt l ((i+j)/2)) (tAt l a)<0
   ·rw[if_pos (by simpa using hP)]
    rw[<-ih ((i+j)/2+1) j (by omega) (by omega) hj];refine qbD (head _ _) ?_;simp only[hP,decide_true]at hc;generalize kc l=c0 at hc⊢
    generalize (((i+j)/2+1:Nat):Int)=gv1 at*
    generalize (((i+j)/2:Nat):Int)=gv2 at*
    generalize ((i+j:Nat):Int)=gv3 at*
    generalize (i:Int)=gv4 at*
    generalize (j:Int)=gv5 at*
    simp[qnD,qwv,qDg,qDf,qDe,hij',m1,m2,m3,m4,qcF];rw[hc];simp[hw]
   ·rw[if_neg (by simpa using hP)]
    rw[<-ih i ((i+j)/2) (by omega) (by omega) (by omega)];refine qbD (head _ _) ?_;simp only[hP,decide_false]at hc;generalize kc l=c0 at hc⊢
    generalize (((i+j)/2+1:Nat):Int)=gv1 at*
    generalize (((i+j)/2:Nat):Int)=gv2 at*
    generalize ((i+j:Nat):Int)=gv3 at*
    generalize (i:Int)=gv4 at*
    generalize (j:Int)=gv5 at*
    simp[qnD,qwv,qDg,qDf,qDe,hij',m1,m2,m3,m4,qcF];rw[hc];simp
  ·rw[if_neg hij]
   have:i=j:=by omega
   subst this;exact stop i
theorem qJl(l:List T)(a:Nat)(hn:l.length<=1099511627776)(ha:a<l.length)(hb:∀t,t∈l->t.inner<=1099511627776):∀(k i j:Nat),i<=j->j-i<=k->j<=l.length->
 qbw XV [70,74,122,126] 1 [0,2,4,14,15] qnC ⟨[(0,.tsl true 0 3 l.length),(2,.d (.int .i64 a)),(4,.fn 6 []),(14,.d (.int .i64 i)),(15,.d (.int .i64 j))],[some (kc l)]⟩=
  some (.exit 4,⟨[(0,.tsl true 0 3 l.length),(2,.d (.int .i64 a)),(4,.fn 6 []),(14,.d (.int .i64 (bs (fun h=> !decide (T.cmp (tAt l a) (tAt l h)<0)) k i j:Nat))),(15,.d (.int .i64 (bs (fun h=> !decide (T.cmp (tAt l a) (tAt l h)<0)) k i j:Nat))),(85,.d (.bool false))],[some (kc l)]⟩):=by
 have head:∀(i j:Nat),qad 1 [0,2,4,14,15] ⟨[(0,.tsl true 0 3 l.length),(2,.d (.int .i64 a)),(4,.fn 6 []),(14,.d (.int .i64 i)),(15,.d (.int .i64 j))],[some (kc l)]⟩=some ⟨[(0,.tsl true 0 3 l.length),(2,.d (.int .i64 a)),(4,.fn 6 []),(14,.d (.int .i64 i)),(15,.d (.int .i64 j))],[some (kc l)]⟩:=fun i j=>by
  simp[qad,qab,qaE,qcN,qbi]
 have stop:∀i:Nat,qbw XV [70,74,122,126] 1 [0,2,4,14,15] qnC ⟨[(0,.tsl true 0 3 l.length),(2,.d (.int .i64 a)),(4,.fn 6 []),(14,.d (.int .i64 i)),(15,.d (.int .i64 i))],[some (kc l)]⟩=
  some (.exit 4,⟨[(0,.tsl true 0 3 l.length),(2,.d (.int .i64 a)),(4,.fn 6 []),(14,.d (.int .i64 i)),(15,.d (.int .i64 i)),(85,.d (.bool false))],[some (kc l)]⟩):=fun i=>by
  refine qa5 (head _ _) ?_ (by simp);simp[qnC,qop]
 intro k
 induction k with
 |zero=>
  intro i j h hk hj;have:i=j:=by omega
  subst this;exact stop i
 |succ k ih=>
  intro i j h hk hj;simp only[bs]
  by_cases hij:i<j
  ·rw[if_pos hij]
   obtain⟨m1,m2,m3,m4⟩:=qhE i j (by omega);have hc:=qFz l a ((i+j)/2) hn ha (by omega) hb i j;have hw:=qae (n:=(i+j)/2) (by omega);have hij':(i:Int)<j:=by omega
   by_cases hP:¬T.cmp (tAt l a) (tAt l ((i+j)/2))<0
   ·rw[if_pos (by simpa using hP)]
    rw[<-ih ((i+j)/2+1) j (by omega) (by omega) hj];refine qbD (head _ _) ?_;simp only[hP,decide_false,Bool.not_false]at hc;generalize kc l=c0 at hc⊢
    generalize (((i+j)/2+1:Nat):Int)=gv1 at*
    generalize (((i+j)/2:Nat):Int)=gv2 at*
    generalize ((i+j:Nat):Int)=gv3 at*
    generalize (i:Int)=gv4 at*
    generalize (j:Int)=gv5 at*
    simp[qnC,qop,qtj,qti,qth,hij',m1,m2,m3,m4,qcF];rw[hc];simp[hw]
   ·rw[if_neg (by simpa using hP)]
    rw[<-ih i ((i+j)/2) (by omega) (by omega) (by omega)];refine qbD (head _ _) ?_;simp only[Classical.not_not.1 hP,decide_true,Bool.not_true]at hc;generalize kc l=c0 at hc⊢
    generalize (((i+j)/2+1:Nat):Int)=gv1 at*
    generalize (((i+j)/2:Nat):Int)=gv2 at*
    generalize ((i+j:Nat):Int)=gv3 at*
    generalize (i:Int)=gv4 at*
    generalize (j:Int)=gv5 at*
    simp[qnC,qop,qtj,qti,qth,hij',m1,m2,m3,m4,qcF];rw[hc];simp
  ·rw[if_neg hij]
   have:i=j:=by omega
   subst this;exact stop i
theorem qJk(l:List T)(p:Nat)(x1 x2 x3 x18 x19:Int)(hn:l.length<=1099511627776)(hpp:p<=4398046511104)(hb:∀t,t∈l->t.inner<=1099511627776):∀(k i j:Nat),i<=j->j-i<=k->j<=l.length->(∀c,i<=c->c<j->c<=p/\p-c<l.length)->
 qbw XV [70,74,122,126] 1 [0,1,2,3,4,18,19,20,21,22] qie ⟨[(0,.tsl true 0 3 l.length),(1,.d (.int .i64 x1)),(2,.d (.int .i64 x2)),(3,.d (.int .i64 x3)),(4,.fn 6 []),(18,.d (.int .i64 x18)),(19,.d (.int .i64 x19)),(20,.d (.int .i64 i)),(21,.d (.int .i64 j)),(22,.d (.int .i64 p))],[some (kc l)]⟩=
  some (.exit 8,⟨[(0,.tsl true 0 3 l.length),(1,.d (.int .i64 x1)),(2,.d (.int .i64 x2)),(3,.d (.int .i64 x3)),(4,.fn 6 []),(18,.d (.int .i64 x18)),(19,.d (.int .i64 x19)),(20,.d (.int .i64 (bs (fun c=> !decide (T.cmp (tAt l (p-c)) (tAt l c)<0)) k i j:Nat))),(21,.d (.int .i64 (bs (fun c=> !decide (T.cmp (tAt l (p-c)) (tAt l c)<0)) k i j:Nat))),(22,.d (.int .i64 p)),(151,.d (.bool false))],[some (kc l)]⟩):=by
 have head:∀(i j:Nat),qad 1 [0,1,2,3,4,18,19,20,21,22] ⟨[(0,.tsl true 0 3 l.length),(1,.d (.int .i64 x1)),(2,.d (.int .i64 x2)),(3,.d (.int .i64 x3)),(4,.fn 6 []),(18,.d (.int .i64 x18)),(19,.d (.int .i64 x19)),(20,.d (.int .i64 i)),(21,.d (.int .i64 j)),(22,.d (.int .i64 p))],[some (kc l)]⟩=some ⟨[(0,.tsl true 0 3 l.length),(1,.d (.int .i64 x1)),(2,.d (.int .i64 x2)),(3,.d (.int .i64 x3)),(4,.fn 6 []),(18,.d (.int .i64 x18)),(19,.d (.int .i64 x19)),(20,.d (.int .i64 i)),(21,.d (.int .i64 j)),(22,.d (.int .i64 p))],[some (kc l)]⟩:=fun i j=>by
  simp[qad,qab,qaE,qcN,qbi]
 have stop:∀i:Nat,qbw XV [70,74,122,126] 1 [0,1,2,3,4,18,19,20,21,22] qie ⟨[(0,.tsl true 0 3 l.length),(1,.d (.int .i64 x1)),(2,.d (.int .i64 x2)),(3,.d (.int .i64 x3)),(4,.fn 6 []),(18,.d (.int .i64 x18)),(19,.d (.int .i64 x19)),(20,.d (.int .i64 i)),(21,.d (.int .i64 i)),(22,.d (.int .i64 p))],[some (kc l)]⟩=
  some (.exit 8,⟨[(0,.tsl true 0 3 l.length),(1,.d (.int .i64 x1)),(2,.d (.int .i64 x2)),(3,.d (.int .i64 x3)),(4,.fn 6 []),(18,.d (.int .i64 x18)),(19,.d (.int .i64 x19)),(20,.d (.int .i64 i)),(21,.d (.int .i64 i)),(22,.d (.int .i64 p)),(151,.d (.bool false))],[some (kc l)]⟩):=fun i=>by
  refine qa5 (head _ _) ?_ (by simp);simp[qie,qom]
 intro k
 induction k with
 |zero=>
  intro i j h hk hj hR;have:i=j:=by omega
  subst this;exact stop i
 |succ k ih=>
  intro i j h hk hj hR;simp only[bs]
  by_cases hij:i<j
  ·rw[if_pos hij]
   obtain⟨m1,m2,m3,m4⟩:=qhE i j (by omega);have hc:=qFy l p ((i+j)/2) hn (hR _ (by omega) (by omega)).1 (hR _ (by omega) (by omega)).2 (by omega) hpp hb x1 x2 x3 x18 x19 i j;have hw:=qae (n:=(i+j)/2) (by omega);have hij':(i:Int)<j:=by omega
   by_cases hP:¬T.cmp (tAt l (p-(i+j)/2)) (tAt l ((i+j)/2))<0
   ·rw[if_pos (by simpa using hP)]
    rw[<-ih ((i+j)/2+1) j (by omega) (by omega) hj (fun c h1 h2=>hR c (by omega) h2)];refine qbD (head _ _) ?_;simp only[hP,decide_false,Bool.not_false]at hc;generalize kc l=c0 at hc⊢
    generalize (((i+j)/2+1:Nat):Int)=gv1 at*
    generalize (((i+j)/2:Nat):Int)=gv2 at*
    generalize ((i+j:Nat):Int)=gv3 at*
    generalize (i:Int)=gv4 at*
    generalize (j:Int)=gv5 at*
    simp[qie,qom,qta,qs9,qs8,hij',m1,m2,m3,m4,qcF];rw[hc];simp[hw]
   ·rw[if_neg (by simpa using hP)]
    rw[<-ih i ((i+j)/2) (by omega) (by omega) (by omega) (fun c h1 h2=>hR c h1 (by omega))];refine qbD (head _ _) ?_;simp only[Classical.not_not.1 hP,decide_true,Bool.not_true]at hc;generalize kc l=c0 at hc⊢
    generalize (((i+j)/2+1:Nat):Int)=gv1 at*
    generalize (((i+j)/2:Nat):Int)=gv2 at*
    generalize ((i+j:Nat):Int)=gv3 at*
    generalize (i:Int)=gv4 at*
    generalize (j:Int)=gv5 at*
    simp[qie,qom,qta,qs9,qs8,hij',m1,m2,m3,m4,qcF];rw[hc];simp
  ·rw[if_neg hij]
   have:i=j:=by omega
   subst this;exact stop i
theorem right_step(A Y Z:List T)(x:T)(s:Nat)(hs:s<Y.length):swp (A++Y.take s++x::(Y.drop s++Z)) (A.length+s+1) (A.length+s)=A++Y.take (s+1)++x::(Y.drop (s+1)++Z):=by
 have hl:(A++Y.take s).length=A.length+s:=by simp;omega
 rw[<-List.take_append_getElem hs,List.drop_eq_getElem_cons hs,quK _ _ _ (by omega),<-hl];have:=qnS (A++Y.take s) [] (Y.drop (s+1)++Z) x Y[s] ((A++Y.take s).length+1) rfl;simp only[List.nil_append]at this;rw[show Y[s]::Y.drop (s+1)++Z=Y[s]::(Y.drop (s+1)++Z)from rfl,this];simp only[yh_,List.cons_append,List.nil_append]
theorem qyo(A Y Z:List T)(x:T)(N a:Nat)(hA:A.length=a)(hN:(A++x::(Y++Z)).length=N)(hn:N<=1099511627776):
 qbw XV [70,74,122,126] 1 [0,10,13] qrO ⟨[(0,.tsl true 0 3 N),(10,.d (.int .i64 (a+1+Y.length:Nat))),(13,.d (.int .i64 a))],[some (kc (A++x::(Y++Z)))]⟩=
  some (.exit 2,⟨[(0,.tsl true 0 3 N),(10,.d (.int .i64 (a+1+Y.length:Nat))),(13,.d (.int .i64 (a+Y.length:Nat))),(58,.d (.bool false))],[some (kc (A++Y++x::Z))]⟩):=by
 have hNl:A.length+1+Y.length+Z.length=N:=by rw[<-hN];simp;omega
 have hlen:∀s,(A++Y.take s++x::(Y.drop s++Z)).length=N:=fun s=>by simp;omega
 have hw1:IntKind.i64.wrap (((a+1+Y.length:Nat):Int)-1)=((a+Y.length:Nat):Int):=by rw[wrap_i64 (by omega) (by omega)];omega
 have h:=qag (X:=XV) (T:=[70,74,122,126]) (L:=1) (live:=[0,10,13]) (b:=qrO) (n:=Y.length) (γ:=Unit) (st:=fun(_:Unit) s=>⟨[(0,.tsl true 0 3 N),(10,.d (.int .i64 (a+1+Y.length:Nat))),(13,.d (.int .i64 (a+s:Nat)))],[some (kc (A++Y.take s++x::(Y.drop s++Z)))]⟩) (step:=fun _ _=> .inl ())
  (F:=fun _=>(.exit 2,⟨[(0,.tsl true 0 3 N),(10,.d (.int .i64 (a+1+Y.length:Nat))),(13,.d (.int .i64 (a+Y.length:Nat))),(58,.d (.bool false))],[some (kc (A++Y.take Y.length++x::(Y.drop Y.length++Z)))]⟩)) (R:=fun _=>(.ret,⟨[],[]⟩))
  (fun _=>⟨by simp,by
   generalize ((a+1+Y.length:Nat):Int)=gv1 at*
   generalize ((a+Y.length:Nat):Int)=gv2 at*
   simp[qrO,qDd,hw1]⟩)
  (fun _ s hs=>by
   have hsw:=qHr (A++Y.take s++x::(Y.drop s++Z)) (a+s) (by rw[hlen];exact hn) (by rw[hlen];omega) (a+1+Y.length:Nat);rw[<-hA,right_step A Y Z x s hs,hA,hlen]at hsw;have hw:=qae (n:=a+s) (by omega);have hlt:((a+s:Nat):Int)<((a+Y.length:Nat):Int):=by omega
   generalize hc2:kc (A++Y.take (s+1)++x::(Y.drop (s+1)++Z))=c2 at hsw;generalize kc (A++Y.take s++x::(Y.drop s++Z))=c1 at hsw⊢
   exact⟨⟨[(0,.tsl true 0 3 N),(10,.d (.int .i64 (a+1+Y.length:Nat))),(13,.d (.int .i64 (a+s+1:Nat)))],[some c2]⟩,by
    generalize ((a+s+1:Nat):Int)=gv3 at*
    generalize ((a+s:Nat):Int)=gv4 at*
    generalize ((a+1+Y.length:Nat):Int)=gv1 at*
    generalize ((a+Y.length:Nat):Int)=gv2 at*
    simp[qrO,qDd,qDp,hw1,hlt];rw[hsw];simp[hw],by rw[<-hc2];simp[qad,qab,qaE];omega⟩)
  Y.length () 0 ⟨[(0,.tsl true 0 3 N),(10,.d (.int .i64 (a+1+Y.length:Nat))),(13,.d (.int .i64 a))],[some (kc (A++x::(Y++Z)))]⟩ (by omega) (by simp[qad,qab,qaE])
 rw[qdp,List.take_length,List.drop_length,List.nil_append]at h;exact h
theorem left_step(A X Z:List T)(y:T)(n:Nat)(hn:n<X.length):swp (A++X.take (n+1)++y::(X.drop (n+1)++Z)) (A.length+n) (A.length+n+1)=A++X.take n++y::(X.drop n++Z):=by
 have hl:(A++X.take n).length=A.length+n:=by simp;omega
 rw[<-List.take_append_getElem hn,List.drop_eq_getElem_cons hn,<-hl];have:=qnS (A++X.take n) [] (X.drop (n+1)++Z) X[n] y ((A++X.take n).length+1) rfl;simp only[List.nil_append]at this;rw[show A++(X.take n++[X[n]])++y::(X.drop (n+1)++Z)=A++X.take n++X[n]::y::(X.drop (n+1)++Z)by simp only[yh_,List.cons_append,List.nil_append],this];simp only[yh_,List.cons_append]
theorem qEi(A X Z:List T)(y:T)(N a:Nat)(hA:A.length=a)(hN:(A++X++y::Z).length=N)(hn:N<=1099511627776):
 qbw XV [70,74,122,126] 1 [0,14,17] qrN ⟨[(0,.tsl true 0 3 N),(14,.d (.int .i64 a)),(17,.d (.int .i64 (a+X.length:Nat)))],[some (kc (A++X++y::Z))]⟩=
  some (.exit 6,⟨[(0,.tsl true 0 3 N),(14,.d (.int .i64 a)),(17,.d (.int .i64 a)),(110,.d (.bool false))],[some (kc (A++y::(X++Z)))]⟩):=by
 have hNl:A.length+X.length+(Z.length+1)=N:=by rw[<-hN];simp;omega
 have hlen:∀s,(A++X.take s++y::(X.drop s++Z)).length=N:=fun s=>by simp;omega
 have h:=qag (X:=XV) (T:=[70,74,122,126]) (L:=1) (live:=[0,14,17]) (b:=qrN) (n:=X.length) (γ:=Unit) (st:=fun(_:Unit) s=>⟨[(0,.tsl true 0 3 N),(14,.d (.int .i64 a)),(17,.d (.int .i64 (a+(X.length-s):Nat)))],[some (kc (A++X.take (X.length-s)++y::(X.drop (X.length-s)++Z)))]⟩) (step:=fun _ _=> .inl ())
  (F:=fun _=>(.exit 6,⟨[(0,.tsl true 0 3 N),(14,.d (.int .i64 a)),(17,.d (.int .i64 a)),(110,.d (.bool false))],[some (kc (A++X.take 0++y::(X.drop 0++Z)))]⟩)) (R:=fun _=>(.ret,⟨[],[]⟩))
  (fun _=>⟨by simp,by
   rw[Nat.sub_self,Nat.add_zero];simp[qrN,qtg]⟩)
  (fun _ s hs=>by
   obtain⟨n,hnn⟩:∃n,X.length-s=n+1:=⟨X.length-s-1,by omega⟩;have hn1:X.length-(s+1)=n:=by omega
   have hsw:=qHq (A++X.take (n+1)++y::(X.drop (n+1)++Z)) (a+n) (by rw[hlen];exact hn) (by rw[hlen];omega) a;rw[<-hA,left_step A X Z y n (by omega),hA,hlen]at hsw;have hw:IntKind.i64.wrap (((a+n+1:Nat):Int)-1)=((a+n:Nat):Int):=by rw[wrap_i64 (by omega) (by omega)];omega
   have hlt:(a:Int)<((a+n+1:Nat):Int):=by omega
   rw[hnn,show a+(n+1)=a+n+1 by omega];generalize hc2:kc (A++X.take n++y::(X.drop n++Z))=c2 at hsw;generalize kc (A++X.take (n+1)++y::(X.drop (n+1)++Z))=c1 at hsw⊢
   exact⟨⟨[(0,.tsl true 0 3 N),(14,.d (.int .i64 a)),(17,.d (.int .i64 (a+n:Nat)))],[some c2]⟩,by
    generalize ((a+n+1:Nat):Int)=gv3 at*
    generalize ((a+n:Nat):Int)=gv4 at*
    simp[qrN,qtg,qDl,hlt];rw[hsw];simp[hw],by rw[<-hc2];simp[qad,qab,qaE,hn1]⟩)
  X.length () 0 ⟨[(0,.tsl true 0 3 N),(14,.d (.int .i64 a)),(17,.d (.int .i64 (a+X.length:Nat)))],[some (kc (A++X++y::Z))]⟩ (by omega) (by simp[qad,qab,qaE])
 rw[qdp]at h;simpa using h
theorem qOD{S:List T}(h:Srt S){p:T}(hp:p∈S):∃s,S.getLast?=some s/\tle p s:=by
 have hne:S≠[]:=fun he=>by rw[he]at hp;simp at hp
 refine⟨S.getLast hne,List.getLast?_eq_some_getLast hne,?_⟩
 by_cases he:p=S.getLast hne
 ·rw[he];exact quH _
 ·have hd:p∈S.dropLast:=by
   have:=List.dropLast_concat_getLast hne;rw[<-this]at hp;rcases List.mem_append.1 hp with h|h
   ·exact h
   ·simp at h;exact absurd h he
  have hp':(S.dropLast++[S.getLast hne]).Pairwise tle:=by rw[List.dropLast_concat_getLast];exact h
  exact(List.pairwise_append.1 hp').2.2 p hd _ (by simp)
theorem qOK{S:List T}(h:Srt S){p:T}(hp:p∈S):∃s,S.head?=some s/\tle s p:=by
 cases S with
 |nil=>simp at hp
 |cons x r=>
  refine⟨x,rfl,?_⟩;rcases List.mem_cons.1 hp with rfl|hp
  ·exact quH _
  ·exact(List.pairwise_cons.1 h).1 p hp
theorem qI6{S R:List T}(hS:Srt S)(hR:Srt R)(h:∀s r,S.getLast?=some s->R.head?=some r->tle s r):∀p,p∈S->∀q,q∈R->tle p q:=by
 intro p hp q hq;obtain⟨s,h1,h2⟩:=qOD hS hp;obtain⟨r,h3,h4⟩:=qOK hR hq;exact qfU (qfU h2 (h s r h1 h3)) h4
theorem qBC{S1 S2:List T}{x:T}(h:Srt (S1++S2))(h1:∀s,S1.getLast?=some s->tle s x)(h2:∀s,S2.head?=some s->tle x s):Srt (S1++x::S2):=by
 obtain⟨p1,p2,p3⟩:=List.pairwise_append.1 h;have c1:=qI6 (S:=S1) (R:=[x]) p1 (List.pairwise_singleton _ _) (fun s r hs hr=>by simp at hr;subst hr;exact h1 s hs);have c2:=qI6 (S:=[x]) (R:=S2) (List.pairwise_singleton _ _) p2 (fun s r hs hr=>by simp at hs;subst hs;exact h2 r hr);refine List.pairwise_append.2 ⟨p1,List.pairwise_cons.2 ⟨fun q hq=>c2 x (by simp) q hq,p2⟩,fun p hp q hq=> ?_⟩;rcases List.mem_cons.1 hq with rfl|hq
 ·exact c1 p hp _ (by simp)
 ·exact p3 p hp q hq
theorem quJ(A X R:List T)(q:Nat)(hq:q<X.length):tAt (A++X++R) (A.length+q)=tAt X q:=by
 unfold tAt;rw[yh_,yd_ (by omega),Nat.add_sub_cancel_left,ye_ hq]
theorem qha{X:List T}{t:Nat}{s:T}(ht:t<=X.length)(h:(X.take t).getLast?=some s):0<t/\s=tAt X (t-1):=by
 rw[List.getLast?_eq_getElem?,List.length_take,Nat.min_eq_left ht]at h;have hlt:=(List.getElem?_eq_some_iff.1 h).1;simp at hlt;rw[List.getElem?_take]at h;split at h
 ·exact⟨by omega,by simp[tAt,h]⟩
 ·simp at h
theorem qh1{X:List T}{t:Nat}{s:T}(h:(X.drop t).head?=some s):t<X.length/\s=tAt X t:=by
 rw[List.head?_drop]at h;exact⟨(List.getElem?_eq_some_iff.1 h).1,by simp[tAt,h]⟩
theorem qD0(A Y Z:List T)(x:T)(a m b N:Nat)(ha:a=A.length)(hm:m=a+1)(hb:b=m+Y.length)(hN:N=(A++x::(Y++Z)).length)(hn:N<=1099511627776)(hin:∀t,t∈A++x::(Y++Z)->t.inner<=1099511627776)(hY:Srt Y):
 ∃W:List T,W.Perm (x::Y)/\Srt W/\qac XV 173 [.tsl true 0 3 N,.d (.int .i64 a),.d (.int .i64 m),.d (.int .i64 b),.fn 6 []] [some (kc (A++x::(Y++Z)))]=some (.d (.tup []),[some (kc (A++W++Z))]):=by
 have hNl:A.length+1+Y.length+Z.length=N:=by rw[hN];simp;omega
 have hlo:=qJm (A++x::(Y++Z)) a (by rw[<-hN];exact hn) (by rw[<-hN];omega) hin Y.length m b (by omega) (by omega) (by rw[<-hN];omega);have hxa:tAt (A++x::(Y++Z)) a=x:=qw2 _ _ _ _ ha;have hat:∀q,q<Y.length->tAt (A++x::(Y++Z)) (m+q)=tAt Y q:=fun q hq=>by
  have:=quJ (A++[x]) Y Z q hq;simp only[yg_,List.length_cons,List.length_nil,yh_,List.cons_append,List.nil_append]at this;rw[hm,ha];exact this
 obtain⟨s1,s2,s3,s4⟩:=qlT (fun h=>decide (T.cmp (tAt (A++x::(Y++Z)) h) (tAt (A++x::(Y++Z)) a)<0)) Y.length m b (by omega) (by omega);generalize bs (fun h=>decide (T.cmp (tAt (A++x::(Y++Z)) h) (tAt (A++x::(Y++Z)) a)<0)) Y.length m b=r at hlo s1 s2 s3 s4;rw[hxa]at s3 s4;obtain⟨t,rfl⟩:∃t,r=m+t:=⟨r-m,by omega⟩;have htl:t<=Y.length:=by omega
 have hY12:Y.take t++Y.drop t=Y:=List.take_append_drop _ _;have hl1:(Y.take t).length=t:=by simp;omega
 have hri:=qyo A (Y.take t) (Y.drop t++Z) x N a ha.symm (by rw[hN,<-yh_ (Y.take t),hY12]) hn;rw[<-yh_ (Y.take t),hY12,hl1,show a+1+t=m+t by omega]at hri;refine⟨Y.take t++x::Y.drop t,?_,qBC (by rw[hY12];exact hY) (fun s hs=> ?_) (fun s hs=> ?_),?_⟩
 ·refine List.perm_middle.trans ?_
  rw[hY12]
 ·obtain⟨h1,h2⟩:=qha htl hs
  rcases s3 with s3|s3
  ·omega
  ·rw[show m+t-1=m+(t-1)by omega,hat _ (by omega)]at s3
   rw[h2];exact qez (by simpa using s3)
 ·obtain⟨h1,h2⟩:=qh1 hs
  rcases s4 with s4|s4
  ·omega
  ·rw[hat _ h1]at s4
   rw[h2];exact qci (by simpa using s4)
 ·have hfin:A++(Y.take t++x::Y.drop t)++Z=A++Y.take t++x::(Y.drop t++Z):=by simp only[yh_,List.cons_append]
  rw[hfin];rw[qah XV _ _ _ qHd rfl qjY rfl];rw[<-hN]at hlo;have w1:IntKind.i64.wrap ((m:Int)-a)=1:=by rw[wrap_i64 (by omega) (by omega)];omega
  generalize kc (A++Y.take t++x::(Y.drop t++Z))=c2 at hri⊢
  generalize kc (A++x::(Y++Z))=c1 at hlo hri⊢
  generalize ((m+t:Nat):Int)=gv1 at*
  generalize ((a+t:Nat):Int)=gv2 at*
  simp[qHd,qqq,qK1,qK0,w1];rw[hlo];simp[qKZ];rw[hri];simp
theorem qyL(A X Z:List T)(y:T)(a m b N:Nat)(ha:a=A.length)(hm:m=a+X.length)(hb:b=m+1)(hX2:2<=X.length)(hN:N=(A++X++y::Z).length)(hn:N<=1099511627776)(hin:∀t,t∈A++X++y::Z->t.inner<=1099511627776)(hX:Srt X):
 ∃W:List T,W.Perm (X++[y])/\Srt W/\qac XV 173 [.tsl true 0 3 N,.d (.int .i64 a),.d (.int .i64 m),.d (.int .i64 b),.fn 6 []] [some (kc (A++X++y::Z))]=some (.d (.tup []),[some (kc (A++W++Z))]):=by
 have hNl:A.length+X.length+(Z.length+1)=N:=by rw[hN];simp;omega
 have hlo:=qJl (A++X++y::Z) m (by rw[<-hN];exact hn) (by rw[<-hN];omega) hin X.length a m (by omega) (by omega) (by rw[<-hN];omega);have hxm:tAt (A++X++y::Z) m=y:=qw2 _ _ _ _ (by simp;omega);have hat:∀q,q<X.length->tAt (A++X++y::Z) (a+q)=tAt X q:=fun q hq=>by rw[ha];exact quJ A X (y::Z) q hq
 obtain⟨s1,s2,s3,s4⟩:=qlT (fun h=> !decide (T.cmp (tAt (A++X++y::Z) m) (tAt (A++X++y::Z) h)<0)) X.length a m (by omega) (by omega);generalize bs (fun h=> !decide (T.cmp (tAt (A++X++y::Z) m) (tAt (A++X++y::Z) h)<0)) X.length a m=r at hlo s1 s2 s3 s4;rw[hxm]at s3 s4;obtain⟨t,rfl⟩:∃t,r=a+t:=⟨r-a,by omega⟩;have htl:t<=X.length:=by omega
 have hX12:X.take t++X.drop t=X:=List.take_append_drop _ _;have hl2:(X.drop t).length=X.length-t:=by simp
 have hassoc:A++X.take t++X.drop t++y::Z=A++X++y::Z:=by rw[yh_ A,hX12]
 have hri:=qEi (A++X.take t) (X.drop t) Z y N (a+t) (by simp;omega) (by rw[hassoc,hN]) hn;rw[hassoc,hl2,show a+t+(X.length-t)=m by omega]at hri;refine⟨X.take t++y::X.drop t,?_,qBC (by rw[hX12];exact hX) (fun s hs=> ?_) (fun s hs=> ?_),?_⟩
 ·refine List.perm_middle.trans ?_
  rw[hX12];exact List.perm_append_comm (l₁:=[y]) (l₂:=X)
 ·obtain⟨h1,h2⟩:=qha htl hs
  rcases s3 with s3|s3
  ·omega
  ·rw[show a+t-1=a+(t-1)by omega,hat _ (by omega)]at s3
   rw[h2];exact qci (by simpa using s3)
 ·obtain⟨h1,h2⟩:=qh1 hs
  rcases s4 with s4|s4
  ·omega
  ·rw[hat _ h1]at s4
   rw[h2];exact qez (by simpa using s4)
 ·have hfin:A++(X.take t++y::X.drop t)++Z=A++X.take t++y::(X.drop t++Z):=by simp only[yh_,List.cons_append]
  rw[hfin];rw[qah XV _ _ _ qHd rfl qjY rfl];rw[<-hN]at hlo;have w1:IntKind.i64.wrap ((m:Int)-a)=(X.length:Int):=by rw[wrap_i64 (by omega) (by omega)];omega
  have n1:((X.length:Int)==1)=false:=by simp;omega
  have w2:IntKind.i64.wrap ((b:Int)-m)=1:=by rw[wrap_i64 (by omega) (by omega)];omega
  generalize kc (A++X.take t++y::(X.drop t++Z))=c2 at hri⊢
  generalize kc (A++X++y::Z)=c1 at hlo hri⊢
  generalize ((a+t:Nat):Int)=gv2 at*
  generalize (X.length:Int)=vx at*
  simp[qHd,qqq,qoq,qDo,qDn,w1,w2,n1];rw[hlo];simp[qDm];rw[hri];simp
theorem qyK(N:Nat)(ga gm gb gmid gst vn ve:Int)(k0 k1 k2 k3:List AV)(w5:IntKind.i64.wrap (vn-gst)=ve)
 (hA:(gst<gm/\gm<ve/\qac XV 174 [.tsl true 0 3 N,.d (.int .i64 gst),.d (.int .i64 gm),.d (.int .i64 ve),.fn 6 []] [some k0]=some (.d (.tup []),[some k1]))\/(gst<gm/\¬gm<ve/\k0=k1)\/(¬gst<gm/\k0=k1))
 (hB:(ga<gst/\gst<gmid/\qac XV 173 [.tsl true 0 3 N,.d (.int .i64 ga),.d (.int .i64 gst),.d (.int .i64 gmid),.fn 6 []] [some k1]=some (.d (.tup []),[some k2]))\/(ga<gst/\¬gst<gmid/\k1=k2)\/(¬ga<gst/\k1=k2))
 (hC:(gmid<ve/\ve<gb/\qac XV 173 [.tsl true 0 3 N,.d (.int .i64 gmid),.d (.int .i64 ve),.d (.int .i64 gb),.fn 6 []] [some k2]=some (.d (.tup []),[some k3]))\/(gmid<ve/\¬ve<gb/\k2=k3)\/(¬gmid<ve/\k2=k3)) (x21 x22 x151:AV):
 ∃r',qau XV [70,74,122,126] (.seq (.region false 0 [0,1,2,3,4,18,20,24] qld) (.seq (.seq (.region false 0 [0,1,2,3,4,18,20,24,185] qlc) (.cond (.t 185) (.region false 0 [0,1,3,4,18,20,24] qlb) .skip)) (.seq (.seq (.region false 0 [0,1,3,4,18,20,24,199] qla) (.cond (.t 199) (.region false 0 [0,3,4,18,24] qk9) .skip)) (.seq (.region false 0 [0,3,4,18,24,213] qk8) (.cond (.t 213) (.region false 0 [] qk7) .skip)))))
  ⟨[(0,.tsl true 0 3 N),(1,.d (.int .i64 ga)),(2,.d (.int .i64 gm)),(3,.d (.int .i64 gb)),(4,.fn 6 []),(18,.d (.int .i64 gmid)),(19,.d (.int .i64 vn)),(20,.d (.int .i64 gst)),(21,x21),(22,x22),(151,x151)],[some k0]⟩=some (.normal,⟨r',[some k3]⟩):=by
 rcases hA with⟨a1,a2,a3⟩|⟨a1,a2,rfl⟩|⟨a1,rfl⟩<;>rcases hB with⟨b1,b2,b3⟩|⟨b1,b2,rfl⟩|⟨b1,rfl⟩<;>rcases hC with⟨d1,d2,d3⟩|⟨d1,d2,rfl⟩|⟨d1,rfl⟩<;>
  exact⟨_,by simp[qld,qlc,qlb,qla,qk9,qk8,qk7, *];rfl⟩
theorem qtw(N:Nat)(ga gm gb gmid gst vn vn1 vb vx vy vab:Int)(k0 k3:List AV)(w1:IntKind.i64.wrap (gm-ga)=vx)(n1:(vx==1)=false)(w2:IntKind.i64.wrap (gb-gm)=vy)(n2:(vy==1)=false)
 (m1:IntKind.i64.wrap (ga+gb)=vab) (m2:IntKind.u64.wrap vab=vab) (m3:vab.fdiv 2=gmid) (m4:IntKind.i64.wrap gmid=gmid) (w3:IntKind.i64.wrap (gmid+gm)=vn) (w4:IntKind.i64.wrap (vn-1)=vn1) (w6:gmid<gm->IntKind.i64.wrap (vn-gb)=vb)
 (hlo:qbw XV [70,74,122,126] 1 [0,1,2,3,4,18,19,20,21,22] qie ⟨[(0,.tsl true 0 3 N),(1,.d (.int .i64 ga)),(2,.d (.int .i64 gm)),(3,.d (.int .i64 gb)),(4,.fn 6 []),(18,.d (.int .i64 gmid)),(19,.d (.int .i64 vn)),(20,.d (.int .i64 (if gmid<gm then vb else ga))),(21,.d (.int .i64 (if gmid<gm then gmid else gm))),(22,.d (.int .i64 vn1))],[some k0]⟩=
  some (.exit 8,⟨[(0,.tsl true 0 3 N),(1,.d (.int .i64 ga)),(2,.d (.int .i64 gm)),(3,.d (.int .i64 gb)),(4,.fn 6 []),(18,.d (.int .i64 gmid)),(19,.d (.int .i64 vn)),(20,.d (.int .i64 gst)),(21,.d (.int .i64 gst)),(22,.d (.int .i64 vn1)),(151,.d (.bool false))],[some k0]⟩))
 (tail:∃r',qau XV [70,74,122,126] (.seq (.region false 0 [0,1,2,3,4,18,20,24] qld) (.seq (.seq (.region false 0 [0,1,2,3,4,18,20,24,185] qlc) (.cond (.t 185) (.region false 0 [0,1,3,4,18,20,24] qlb) .skip)) (.seq (.seq (.region false 0 [0,1,3,4,18,20,24,199] qla) (.cond (.t 199) (.region false 0 [0,3,4,18,24] qk9) .skip)) (.seq (.region false 0 [0,3,4,18,24,213] qk8) (.cond (.t 213) (.region false 0 [] qk7) .skip)))))
  ⟨[(0,.tsl true 0 3 N),(1,.d (.int .i64 ga)),(2,.d (.int .i64 gm)),(3,.d (.int .i64 gb)),(4,.fn 6 []),(18,.d (.int .i64 gmid)),(19,.d (.int .i64 vn)),(20,.d (.int .i64 gst)),(21,.d (.int .i64 gst)),(22,.d (.int .i64 vn1)),(151,.d (.bool false))],[some k0]⟩=some (.normal,⟨r',[some k3]⟩)):
 qac XV 173 [.tsl true 0 3 N,.d (.int .i64 ga),.d (.int .i64 gm),.d (.int .i64 gb),.fn 6 []] [some k0]=some (.d (.tup []),[some k3]):=by
 obtain⟨r',t1⟩:=tail;generalize hT:(.seq (.region false 0 [0,1,2,3,4,18,20,24] qld) (.seq (.seq (.region false 0 [0,1,2,3,4,18,20,24,185] qlc) (.cond (.t 185) (.region false 0 [0,1,3,4,18,20,24] qlb) .skip)) (.seq (.seq (.region false 0 [0,1,3,4,18,20,24,199] qla) (.cond (.t 199) (.region false 0 [0,3,4,18,24] qk9) .skip)) (.seq (.region false 0 [0,3,4,18,24,213] qk8) (.cond (.t 213) (.region false 0 [] qk7) .skip)))):VCode)=code at t1;rw[qah XV _ _ _ qHd rfl qjY rfl];unfold qHd;rw[hT]
 by_cases hmm:gmid<gm
 ·have w6':=w6 hmm
  simp only[if_pos hmm]at hlo;simp[qqq,qoq,qtf,qte,qtd,qtc,qDk,qDj,qtb,w1,n1,w2,n2,m1,m2,m3,m4,w3,w4,w6',hmm,qcF];rw[hlo];simp[t1]
 ·simp only[if_neg hmm]at hlo
  simp[qqq,qoq,qtf,qte,qtd,qtc,qDi,qDh,qtb,w1,n1,w2,n2,m1,m2,m3,m4,w3,w4,hmm,qcF];rw[hlo];simp[t1]
theorem qDZ(A X1 X2 Y1 Y2 Z W1 W2:List T)(a m b mid st N:Nat)(ha:a=A.length)(hm:m=a+X1.length+X2.length)(hb:b=m+Y1.length+Y2.length)(hX:2<=X1.length+X2.length)(hY:2<=Y1.length+Y2.length)
 (hmid:mid=(a+b)/2) (hst:st=a+X1.length) (h1:mid=st+Y1.length) (hN:N=(A++(X1++X2)++(Y1++Y2)++Z).length) (hn:N<=1099511627776)
 (hlo:∀(i j:Nat),(if mid<m then i=mid+m-b/\j=mid else i=a/\j=m)->qbw XV [70,74,122,126] 1 [0,1,2,3,4,18,19,20,21,22] qie ⟨[(0,.tsl true 0 3 N),(1,.d (.int .i64 a)),(2,.d (.int .i64 m)),(3,.d (.int .i64 b)),(4,.fn 6 []),(18,.d (.int .i64 mid)),(19,.d (.int .i64 (mid+m:Nat))),(20,.d (.int .i64 i)),(21,.d (.int .i64 j)),(22,.d (.int .i64 (mid+m-1:Nat)))],[some (kc (A++(X1++X2)++(Y1++Y2)++Z))]⟩=
  some (.exit 8,⟨[(0,.tsl true 0 3 N),(1,.d (.int .i64 a)),(2,.d (.int .i64 m)),(3,.d (.int .i64 b)),(4,.fn 6 []),(18,.d (.int .i64 mid)),(19,.d (.int .i64 (mid+m:Nat))),(20,.d (.int .i64 st)),(21,.d (.int .i64 st)),(22,.d (.int .i64 (mid+m-1:Nat))),(151,.d (.bool false))],[some (kc (A++(X1++X2)++(Y1++Y2)++Z))]⟩))
 (hr:X2≠[]->Y1≠[]->qac XV 174 [.tsl true 0 3 N,.d (.int .i64 st),.d (.int .i64 m),.d (.int .i64 (m+Y1.length:Nat)),.fn 6 []] [some (kc (A++(X1++X2)++(Y1++Y2)++Z))]=some (.d (.tup []),[some (kc (A++(X1++Y1)++(X2++Y2)++Z))]))
 (h2:(X1≠[]/\Y1≠[])->qac XV 173 [.tsl true 0 3 N,.d (.int .i64 a),.d (.int .i64 st),.d (.int .i64 mid),.fn 6 []] [some (kc (A++(X1++Y1)++(X2++Y2)++Z))]=some (.d (.tup []),[some (kc (A++W1++(X2++Y2)++Z))]))
 (h2':¬(X1≠[]/\Y1≠[])->W1=X1++Y1)
 (h3:(X2≠[]/\Y2≠[])->qac XV 173 [.tsl true 0 3 N,.d (.int .i64 mid),.d (.int .i64 (m+Y1.length:Nat)),.d (.int .i64 b),.fn 6 []] [some (kc (A++W1++(X2++Y2)++Z))]=some (.d (.tup []),[some (kc (A++W1++W2++Z))]))
 (h3':¬(X2≠[]/\Y2≠[])->W2=X2++Y2):
 qac XV 173 [.tsl true 0 3 N,.d (.int .i64 a),.d (.int .i64 m),.d (.int .i64 b),.fn 6 []] [some (kc (A++(X1++X2)++(Y1++Y2)++Z))]=some (.d (.tup []),[some (kc (A++W1++W2++Z))]):=by
 have hNl:A.length+X1.length+X2.length+Y1.length+Y2.length+Z.length=N:=by rw[hN];simp;omega
 have ne:∀l:List T,l≠[]↔0<l.length:=fun l=>by cases l<;>simp
 have w1:IntKind.i64.wrap ((m:Int)-a)=((X1.length+X2.length:Nat):Int):=by rw[wrap_i64 (by omega) (by omega)];omega
 have n1:(((X1.length+X2.length:Nat):Int)==1)=false:=by simp;omega
 have w2:IntKind.i64.wrap ((b:Int)-m)=((Y1.length+Y2.length:Nat):Int):=by rw[wrap_i64 (by omega) (by omega)];omega
 have n2:(((Y1.length+Y2.length:Nat):Int)==1)=false:=by simp;omega
 obtain⟨m1,m2,m3,m4⟩:=qhE a b (by omega);rw[<-hmid]at m3 m4;have w3:IntKind.i64.wrap ((mid:Int)+m)=((mid+m:Nat):Int):=by rw[wrap_i64 (by omega) (by omega)];omega
 have w4:IntKind.i64.wrap (((mid+m:Nat):Int)-1)=((mid+m-1:Nat):Int):=by rw[wrap_i64 (by omega) (by omega)];omega
 have w5:IntKind.i64.wrap (((mid+m:Nat):Int)-st)=((m+Y1.length:Nat):Int):=by rw[wrap_i64 (by omega) (by omega)];omega
 have w6:mid<m->IntKind.i64.wrap (((mid+m:Nat):Int)-b)=((mid+m-b:Nat):Int):=fun h=>by rw[wrap_i64 (by omega) (by omega)];omega
 have hr':(X2≠[]/\Y1≠[])\/A++(X1++X2)++(Y1++Y2)++Z=A++(X1++Y1)++(X2++Y2)++Z:=by
  by_cases e1:X2=[]
  ·right;subst e1;simp
  ·by_cases e2:Y1=[]
   ·right;subst e2;simp
   ·exact .inl ⟨e1,e2⟩
 have c1:((st:Int)<m)↔X2≠[]:=by rw[ne];omega
 have c2:((m:Int)<((m+Y1.length:Nat):Int))↔Y1≠[]:=by rw[ne];omega
 have c3:((a:Int)<st)↔X1≠[]:=by rw[ne];omega
 have c4:((st:Int)<mid)↔Y1≠[]:=by rw[ne];omega
 have c5:((mid:Int)<((m+Y1.length:Nat):Int))↔X2≠[]:=by rw[ne];omega
 have c6:(((m+Y1.length:Nat):Int)<b)↔Y2≠[]:=by rw[ne];omega
 have step2:(¬(X1≠[]/\Y1≠[]))->kc (A++(X1++Y1)++(X2++Y2)++Z)=kc (A++W1++(X2++Y2)++Z):=fun h=>by rw[h2' h]
 have step3:(¬(X2≠[]/\Y2≠[]))->kc (A++W1++(X2++Y2)++Z)=kc (A++W1++W2++Z):=fun h=>by rw[h3' h]
 have step1:(¬(X2≠[]/\Y1≠[]))->kc (A++(X1++X2)++(Y1++Y2)++Z)=kc (A++(X1++Y1)++(X2++Y2)++Z):=fun h=>by
  rcases hr' with h1|h1
  ·exact absurd h1 h
  ·rw[h1]
 have hA:((st:Int)<m/\(m:Int)<((m+Y1.length:Nat):Int)/\qac XV 174 [.tsl true 0 3 N,.d (.int .i64 st),.d (.int .i64 m),.d (.int .i64 (m+Y1.length:Nat)),.fn 6 []] [some (kc (A++(X1++X2)++(Y1++Y2)++Z))]=some (.d (.tup []),[some (kc (A++(X1++Y1)++(X2++Y2)++Z))]))\/((st:Int)<m/\¬(m:Int)<((m+Y1.length:Nat):Int)/\kc (A++(X1++X2)++(Y1++Y2)++Z)=kc (A++(X1++Y1)++(X2++Y2)++Z))\/(¬(st:Int)<m/\kc (A++(X1++X2)++(Y1++Y2)++Z)=kc (A++(X1++Y1)++(X2++Y2)++Z)):=by
  by_cases e1:X2=[]
  ·exact .inr (.inr ⟨fun h=>(c1.1 h) e1,step1 fun h=>h.1 e1⟩)
  ·by_cases e2:Y1=[]
   ·exact .inr (.inl ⟨c1.2 e1,fun h=>(c2.1 h) e2,step1 fun h=>h.2 e2⟩)
   ·exact .inl ⟨c1.2 e1,c2.2 e2,hr e1 e2⟩
 have hB:((a:Int)<st/\(st:Int)<mid/\qac XV 173 [.tsl true 0 3 N,.d (.int .i64 a),.d (.int .i64 st),.d (.int .i64 mid),.fn 6 []] [some (kc (A++(X1++Y1)++(X2++Y2)++Z))]=some (.d (.tup []),[some (kc (A++W1++(X2++Y2)++Z))]))\/((a:Int)<st/\¬(st:Int)<mid/\kc (A++(X1++Y1)++(X2++Y2)++Z)=kc (A++W1++(X2++Y2)++Z))\/(¬(a:Int)<st/\kc (A++(X1++Y1)++(X2++Y2)++Z)=kc (A++W1++(X2++Y2)++Z)):=by
  by_cases e1:X1=[]
  ·exact .inr (.inr ⟨fun h=>(c3.1 h) e1,step2 fun h=>h.1 e1⟩)
  ·by_cases e2:Y1=[]
   ·exact .inr (.inl ⟨c3.2 e1,fun h=>(c4.1 h) e2,step2 fun h=>h.2 e2⟩)
   ·exact .inl ⟨c3.2 e1,c4.2 e2,h2 ⟨e1,e2⟩⟩
 have hC:((mid:Int)<((m+Y1.length:Nat):Int)/\((m+Y1.length:Nat):Int)<b/\qac XV 173 [.tsl true 0 3 N,.d (.int .i64 mid),.d (.int .i64 (m+Y1.length:Nat)),.d (.int .i64 b),.fn 6 []] [some (kc (A++W1++(X2++Y2)++Z))]=some (.d (.tup []),[some (kc (A++W1++W2++Z))]))\/((mid:Int)<((m+Y1.length:Nat):Int)/\¬((m+Y1.length:Nat):Int)<b/\kc (A++W1++(X2++Y2)++Z)=kc (A++W1++W2++Z))\/(¬(mid:Int)<((m+Y1.length:Nat):Int)/\kc (A++W1++(X2++Y2)++Z)=kc (A++W1++W2++Z)):=by
  by_cases e1:X2=[]
  ·exact .inr (.inr ⟨fun h=>(c5.1 h) e1,step3 fun h=>h.1 e1⟩)
  ·by_cases e2:Y2=[]
   ·exact .inr (.inl ⟨c5.2 e1,fun h=>(c6.1 h) e2,step3 fun h=>h.2 e2⟩)
   ·exact .inl ⟨c5.2 e1,c6.2 e2,h3 ⟨e1,e2⟩⟩
 refine qtw N a m b mid st (mid+m:Nat) (mid+m-1:Nat) (mid+m-b:Nat) (X1.length+X2.length:Nat) (Y1.length+Y2.length:Nat) (a+b:Nat) _ _ w1 n1 w2 n2 m1 m2 m3 m4 w3 w4 (fun h=>w6 (by omega)) ?_ (qyK N a m b mid st (mid+m:Nat) (m+Y1.length:Nat) _ _ _ _ w5 hA hB hC _ _ _)
 by_cases h:mid<m
 ·have h':(mid:Int)<m:=by omega
  rw[if_pos h',if_pos h'];exact hlo (mid+m-b) mid (by rw[if_pos h];exact⟨rfl,rfl⟩)
 ·have h':¬(mid:Int)<m:=by omega
  rw[if_neg h',if_neg h'];exact hlo a m (by rw[if_neg h];exact⟨rfl,rfl⟩)
theorem qj7:∀(k:Nat) (A X Y Z:List T) (a m b N:Nat),X.length+Y.length<=k->0<X.length->0<Y.length->a=A.length->m=a+X.length->b=m+Y.length->N=(A++X++Y++Z).length->N<=1099511627776->(∀t,t∈A++X++Y++Z->t.inner<=1099511627776)->Srt X->Srt Y->
 ∃W:List T,W.Perm (X++Y)/\Srt W/\qac XV 173 [.tsl true 0 3 N,.d (.int .i64 a),.d (.int .i64 m),.d (.int .i64 b),.fn 6 []] [some (kc (A++X++Y++Z))]=some (.d (.tup []),[some (kc (A++W++Z))]):=by
 intro k
 induction k with
 |zero=>intro A X Y Z a m b N hk hx hy;omega
 |succ k ih=>
  intro A X Y Z a m b N hk hx hy ha hm hb hN hn hin hX hY;have hNl:A.length+X.length+Y.length+Z.length=N:=by rw[hN];simp;omega
  by_cases hx1:X.length=1
  ·obtain⟨x,rfl⟩:∃x,X=[x]:=List.length_eq_one_iff.1 hx1
   have e:A++[x]++Y++Z=A++x::(Y++Z):=by simp
   rw[e]at hN hin⊢
   obtain⟨W,w1,w2,w3⟩:=qD0 A Y Z x a m b N ha (by simpa using hm) hb hN hn hin hY;exact⟨W,by simpa using w1,w2,w3⟩
  by_cases hy1:Y.length=1
  ·obtain⟨y,rfl⟩:∃y,Y=[y]:=List.length_eq_one_iff.1 hy1
   have e:A++X++[y]++Z=A++X++y::Z:=by simp
   rw[e]at hN hin⊢
   exact qyL A X Z y a m b N ha hm (by simpa using hb) (by omega) hN hn hin hX
  obtain⟨mid,hmid⟩:∃mid,mid=(a+b)/2:=⟨_,rfl⟩;have hxat:∀q,q<X.length->tAt (A++X++Y++Z) (a+q)=tAt X q:=fun q hq=>by
   rw[ha,yh_ (A++X)];exact quJ A X (Y++Z) q hq
  have hyat:∀q,q<Y.length->tAt (A++X++Y++Z) (m+q)=tAt Y q:=fun q hq=>by
   have:=quJ (A++X) Y Z q hq;rw[yg_,<-ha,<-hm]at this;exact this
  have key:∀i j:Nat,(if mid<m then i=mid+m-b/\j=mid else i=a/\j=m)->∃st,i<=st/\st<=j/\(st=i\/tle (tAt (A++X++Y++Z) (st-1)) (tAt (A++X++Y++Z) (mid+m-1-(st-1))))/\(st=j\/tle (tAt (A++X++Y++Z) (mid+m-1-st)) (tAt (A++X++Y++Z) st))/\
   qbw XV [70,74,122,126] 1 [0,1,2,3,4,18,19,20,21,22] qie ⟨[(0,.tsl true 0 3 N),(1,.d (.int .i64 a)),(2,.d (.int .i64 m)),(3,.d (.int .i64 b)),(4,.fn 6 []),(18,.d (.int .i64 mid)),(19,.d (.int .i64 (mid+m:Nat))),(20,.d (.int .i64 i)),(21,.d (.int .i64 j)),(22,.d (.int .i64 (mid+m-1:Nat)))],[some (kc (A++X++Y++Z))]⟩=
    some (.exit 8,⟨[(0,.tsl true 0 3 N),(1,.d (.int .i64 a)),(2,.d (.int .i64 m)),(3,.d (.int .i64 b)),(4,.fn 6 []),(18,.d (.int .i64 mid)),(19,.d (.int .i64 (mid+m:Nat))),(20,.d (.int .i64 st)),(21,.d (.int .i64 st)),(22,.d (.int .i64 (mid+m-1:Nat))),(151,.d (.bool false))],[some (kc (A++X++Y++Z))]⟩):=by
   intro i j hij;have hij2:i<=j/\j<=N/\∀c,i<=c->c<j->c<=mid+m-1/\mid+m-1-c<N:=by
    split at hij
    ·obtain⟨rfl,rfl⟩:=hij
     exact⟨by omega,by omega,fun c h1 h2=>by omega⟩
    ·obtain⟨rfl,rfl⟩:=hij
     exact⟨by omega,by omega,fun c h1 h2=>by omega⟩
   have hl:=qJk (A++X++Y++Z) (mid+m-1) a m b mid (mid+m:Nat) (by rw[<-hN];exact hn) (by omega) hin (j-i) i j hij2.1 (Nat.le_refl _) (by rw[<-hN];exact hij2.2.1) (by rw[<-hN];exact hij2.2.2);obtain⟨s1,s2,s3,s4⟩:=qlT (fun c=> !decide (T.cmp (tAt (A++X++Y++Z) (mid+m-1-c)) (tAt (A++X++Y++Z) c)<0)) (j-i) i j hij2.1 (Nat.le_refl _);rw[<-hN]at hl;refine⟨_,s1,s2,s3.imp_right fun h=>qci (by simpa using h),s4.imp_right fun h=>qez (by simpa using h),hl⟩
  obtain⟨i0,j0,hif⟩:∃i j:Nat,(if mid<m then i=mid+m-b/\j=mid else i=a/\j=m):=by
   by_cases h:mid<m
   ·exact⟨mid+m-b,mid,by rw[if_pos h];exact⟨rfl,rfl⟩⟩
   ·exact⟨a,m,by rw[if_neg h];exact⟨rfl,rfl⟩⟩
  obtain⟨st,q1,q2,q3,q4,hlo⟩:=key i0 j0 hif;clear key;have hb1:a<=st/\st<=m/\st<=mid/\m<=mid+m-st/\mid+m-st<=b:=by
   split at hif
   ·obtain⟨rfl,rfl⟩:=hif;omega
   ·obtain⟨rfl,rfl⟩:=hif;omega
  obtain⟨t,ht⟩:∃t,st=a+t:=⟨st-a,by omega⟩;obtain⟨u,hu⟩:∃u,mid+m-st=m+u:=⟨mid-st,by omega⟩;have htl:t<=X.length:=by omega
  have hul:u<=Y.length:=by omega
  have hX12:X.take t++X.drop t=X:=List.take_append_drop _ _;have hY12:Y.take u++Y.drop u=Y:=List.take_append_drop _ _;have lx1:(X.take t).length=t:=by simp;omega
  have lx2:(X.drop t).length=X.length-t:=by simp
  have ly1:(Y.take u).length=u:=by simp;omega
  have ne:∀l:List T,l≠[]->0<l.length:=fun l h=>List.length_pos_iff.2 h
  obtain⟨sx1,sx2,sx12⟩:=List.pairwise_append.1 (show Srt (X.take t++X.drop t)by rw[hX12];exact hX);obtain⟨sy1,sy2,sy12⟩:=List.pairwise_append.1 (show Srt (Y.take u++Y.drop u)by rw[hY12];exact hY);have F1:∀p,p∈X.take t->∀q,q∈Y.drop u->tle p q:=qI6 sx1 sy2 fun s r hs hr=>by
   obtain⟨h1,h2⟩:=qha htl hs;obtain⟨h3,h4⟩:=qh1 hr;rcases q3 with q3|q3
   ·exfalso
    split at hif
    ·obtain⟨rfl,rfl⟩:=hif;omega
    ·obtain⟨rfl,rfl⟩:=hif;omega
   ·rw[show st-1=a+(t-1)by omega,hxat _ (by omega),show mid+m-1-(a+(t-1))=m+u by omega,hyat _ h3]at q3
    rw[h2,h4];exact q3
  have F2:∀p,p∈Y.take u->∀q,q∈X.drop t->tle p q:=qI6 sy1 sx2 fun s r hs hr=>by
   obtain⟨h1,h2⟩:=qha hul hs;obtain⟨h3,h4⟩:=qh1 hr;rcases q4 with q4|q4
   ·exfalso
    split at hif
    ·obtain⟨rfl,rfl⟩:=hif;omega
    ·obtain⟨rfl,rfl⟩:=hif;omega
   ·rw[show mid+m-1-st=m+(u-1)by omega,hyat _ (by omega),show st=a+t from ht,hxat _ h3]at q4
    rw[h2,h4];exact q4
  generalize hX1:X.take t=X1 at*
  generalize hX2:X.drop t=X2 at*
  generalize hY1:Y.take u=Y1 at*
  generalize hY2:Y.drop u=Y2 at*
  clear hxat hyat q3 q4;subst hX12;subst hY12;have L:∃W1:List T,W1.Perm (X1++Y1)/\Srt W1/\((X1≠[]/\Y1≠[])->qac XV 173 [.tsl true 0 3 N,.d (.int .i64 a),.d (.int .i64 st),.d (.int .i64 mid),.fn 6 []] [some (kc (A++(X1++Y1)++(X2++Y2)++Z))]=some (.d (.tup []),[some (kc (A++W1++(X2++Y2)++Z))]))/\(¬(X1≠[]/\Y1≠[])->W1=X1++Y1):=by
   by_cases h:X1≠[]/\Y1≠[]
   ·obtain⟨W,w1,w2,w3⟩:=ih A X1 Y1 (X2++Y2++Z) a st mid N (by simp at hk hm hb;omega) (ne _ h.1) (ne _ h.2) ha (by omega) (by simp at hm hb;omega) (by simp at hNl⊢;omega) hn (fun x hx=>hin x (by
     simp only[List.mem_append]at hx⊢
     rcases hx with((h|h)|h)|((h|h)|h)<;>simp[h])) sx1 sy1
    refine⟨W,w1,w2,fun _=> ?_,fun h'=>absurd h h'⟩;have e1:A++(X1++Y1)++(X2++Y2)++Z=A++X1++Y1++(X2++Y2++Z):=by simp
    have e2:A++W++(X2++Y2)++Z=A++W++(X2++Y2++Z):=by simp
    rw[e1,e2];exact w3
   ·refine⟨X1++Y1,List.Perm.refl _,?_,fun h'=>absurd h' h,fun _=>rfl⟩
    by_cases e1:X1=[]
    ·subst e1;rw[List.nil_append];exact sy1
    ·by_cases e2:Y1=[]
     ·subst e2;rw[List.append_nil];exact sx1
     ·exact absurd ⟨e1,e2⟩ h
  obtain⟨W1,p1,s1,c1,c1'⟩:=L;have lw1:W1.length=X1.length+Y1.length:=by rw[p1.length_eq];simp
  have Rr:∃W2:List T,W2.Perm (X2++Y2)/\Srt W2/\((X2≠[]/\Y2≠[])->qac XV 173 [.tsl true 0 3 N,.d (.int .i64 mid),.d (.int .i64 (m+Y1.length:Nat)),.d (.int .i64 b),.fn 6 []] [some (kc (A++W1++(X2++Y2)++Z))]=some (.d (.tup []),[some (kc (A++W1++W2++Z))]))/\(¬(X2≠[]/\Y2≠[])->W2=X2++Y2):=by
   by_cases h:X2≠[]/\Y2≠[]
   ·obtain⟨W,w1,w2,w3⟩:=ih (A++W1) X2 Y2 Z mid (m+Y1.length) b N (by simp at hk hm hb;omega) (ne _ h.1) (ne _ h.2) (by simp at hm hb⊢;omega) (by simp at hm hb⊢;omega) (by simp at hm hb⊢;omega) (by simp at hNl⊢;omega) hn (fun x hx=>hin x (by
     simp only[List.mem_append]at hx⊢
     rcases hx with(((h|h)|h)|h)|h
     ·simp[h]
     ·have:=p1.mem_iff.1 h
      simp only[List.mem_append]at this;rcases this with h|h<;>simp[h]
     ·simp[h]
     ·simp[h]
     ·simp[h])) sx2 sy2
    refine⟨W,w1,w2,fun _=> ?_,fun h'=>absurd h h'⟩;have e1:A++W1++(X2++Y2)++Z=A++W1++X2++Y2++Z:=by simp
    rw[e1];exact w3
   ·refine⟨X2++Y2,List.Perm.refl _,?_,fun h'=>absurd h' h,fun _=>rfl⟩
    by_cases e1:X2=[]
    ·subst e1;rw[List.nil_append];exact sy2
    ·by_cases e2:Y2=[]
     ·subst e2;rw[List.append_nil];exact sx2
     ·exact absurd ⟨e1,e2⟩ h
  obtain⟨W2,p2,s2,c2,c2'⟩:=Rr;refine⟨W1++W2,?_,List.pairwise_append.2 ⟨s1,s2,fun p hp q hq=> ?_⟩,?_⟩
  ·refine(p1.append p2).trans ?_
   have:=List.perm_append_comm (l₁:=Y1) (l₂:=X2);have h3:=((List.Perm.refl X1).append (this.append (List.Perm.refl Y2)));simpa using h3
  ·have h1:=p1.mem_iff.1 hp
   have h2:=p2.mem_iff.1 hq;rcases List.mem_append.1 h1 with h1|h1<;>rcases List.mem_append.1 h2 with h2|h2
   ·exact sx12 p h1 q h2
   ·exact F1 p h1 q h2
   ·exact F2 p h1 q h2
   ·exact sy12 p h1 q h2
  ·have hrot:X2≠[]->Y1≠[]->qac XV 174 [.tsl true 0 3 N,.d (.int .i64 st),.d (.int .i64 m),.d (.int .i64 (m+Y1.length:Nat)),.fn 6 []] [some (kc (A++(X1++X2)++(Y1++Y2)++Z))]=some (.d (.tup []),[some (kc (A++(X1++Y1)++(X2++Y2)++Z))]):=fun h1 h2=>by
    have hro:=qBN (A++X1) X2 Y1 (Y2++Z) st m (m+Y1.length) N (by simp;omega) (by simp at hm⊢;omega) (by simp at hm⊢;omega) (by simp at hNl⊢;omega) hn (ne _ h1) (ne _ h2) (.fn 6 []) (by simp[AV.clr,AV.clrs]) (by simp[qcN,qbi]);have e1:A++(X1++X2)++(Y1++Y2)++Z=A++X1++X2++Y1++(Y2++Z):=by simp
    have e2:A++(X1++Y1)++(X2++Y2)++Z=A++X1++Y1++X2++(Y2++Z):=by simp
    rw[e1,e2];exact hro
   have hfin:A++(W1++W2)++Z=A++W1++W2++Z:=by simp
   rw[hfin];exact qDZ A X1 X2 Y1 Y2 Z W1 W2 a m b mid st N ha (by simp at hm;omega) (by simp at hb;omega) (by simp at hx1 hx;omega) (by simp at hy1 hy;omega) hmid (by omega) (by simp at hm hb;omega) hN hn (fun i j h=>by
    have:i=i0/\j=j0:=by
     split at h<;>split at hif<;>first|omega|skip
    rw[this.1,this.2];exact hlo) hrot c1 c1' c2 c2'
inductive Blk(s:Nat):List T->Prop where
 |last (l:List T):l.length<s->Srt l->Blk s l
 |cons (c r:List T):c.length=s->Srt c->Blk s r->Blk s (c++r)
theorem Blk.srt{s:Nat}{l:List T}(h:Blk s l)(hl:l.length<=s)(hs:0<s):Srt l:=by
 cases h with
 |last _ _ h2=>exact h2
 |cons c r h1 h2 h3=>
  have:r=[]:=List.length_eq_zero_iff.1 (by simp at hl;omega);subst this;rw[List.append_nil];exact h2
theorem qum(N:Nat)(hn:N<=1099511627776):∀(k:Nat) (P R:List T),R.length<=k->(P++R).length=N->(∀t,t∈P++R->t.inner<=1099511627776)->
 ∃(R1 R2:List T) (a:Nat),R2.length<20/\a=P.length+R1.length/\a+R2.length=N/\(R1++R2).Perm R/\(∀Q,Blk 20 Q->Blk 20 (R1++Q))/\
  qbw XV [] 1 [0,1,2,6,7,8] ql1 ⟨[(0,.tsl true 0 3 N),(1,.d (.int .i64 N)),(2,.fn 6 []),(6,.d (.int .i64 20)),(7,.d (.int .i64 P.length)),(8,.d (.int .i64 (P.length+20:Nat)))],[some (kc (P++R))]⟩=
   some (.exit 0,⟨[(0,.tsl true 0 3 N),(1,.d (.int .i64 N)),(2,.fn 6 []),(6,.d (.int .i64 20)),(7,.d (.int .i64 a)),(8,.d (.int .i64 (a+20:Nat))),(13,.d (.bool false))],[some (kc (P++R1++R2))]⟩):=by
 have head:∀(x y:Int) (c:List AV),qad 1 [0,1,2,6,7,8] ⟨[(0,.tsl true 0 3 N),(1,.d (.int .i64 N)),(2,.fn 6 []),(6,.d (.int .i64 20)),(7,.d (.int .i64 x)),(8,.d (.int .i64 y))],[some c]⟩=some ⟨[(0,.tsl true 0 3 N),(1,.d (.int .i64 N)),(2,.fn 6 []),(6,.d (.int .i64 20)),(7,.d (.int .i64 x)),(8,.d (.int .i64 y))],[some c]⟩:=fun x y c=>by
  simp[qad,qab,qaE,qcN,qbi]
 have stop:∀(P R:List T),(P++R).length=N->R.length<20->qbw XV [] 1 [0,1,2,6,7,8] ql1 ⟨[(0,.tsl true 0 3 N),(1,.d (.int .i64 N)),(2,.fn 6 []),(6,.d (.int .i64 20)),(7,.d (.int .i64 P.length)),(8,.d (.int .i64 (P.length+20:Nat)))],[some (kc (P++R))]⟩=
  some (.exit 0,⟨[(0,.tsl true 0 3 N),(1,.d (.int .i64 N)),(2,.fn 6 []),(6,.d (.int .i64 20)),(7,.d (.int .i64 P.length)),(8,.d (.int .i64 (P.length+20:Nat))),(13,.d (.bool false))],[some (kc (P++R))]⟩):=fun P R h1 h2=>by
  refine qa5 (head _ _ _) ?_ (by simp);have hlt:¬(((P.length+20:Nat):Int)<=(N:Int)):=by simp at h1;omega
  generalize ((P.length+20:Nat):Int)=v at*
  generalize (N:Int)=w at*
  simp[ql1,qwz,hlt]
 intro k
 induction k with
 |zero=>
  intro P R hk hN hin;exact⟨[],R,P.length,by omega,by simp,by simpa using hN,by simp,fun Q h=>by simpa using h,by simpa using stop P R hN (by omega)⟩
 |succ k ih=>
  intro P R hk hN hin
  by_cases hR:R.length<20
  ·exact⟨[],R,P.length,hR,by simp,by simpa using hN,by simp,fun Q h=>by simpa using h,by simpa using stop P R hN hR⟩
  ·have hC:(R.take 20).length=20:=by simp;omega
   have hCR:R.take 20++R.drop 20=R:=List.take_append_drop _ _;have hD:(R.drop 20).length=R.length-20:=by simp
   generalize R.take 20=C at hC hCR;generalize R.drop 20=D at hD hCR;subst hCR;have hNl:P.length+C.length+D.length=N:=by simp at hN;omega
   have e0:P++(C++D)=P++C++D:=by simp
   obtain⟨W,w1,w2,w3⟩:=qhL P C D P.length (P.length+20) N rfl (by omega) (by simp;omega) hn (fun t ht=>hin t (by rw[e0];exact ht));have hWl:W.length=20:=by rw[w1.length_eq,hC]
   have hPW:(P++W).length=P.length+20:=by simp;omega
   obtain⟨R1,R2,a,r1,r2,r3,r4,r5,r6⟩:=ih (P++W) D (by simp at hk;omega) (by simp;omega) (fun t ht=>hin t (by
    simp only[List.mem_append]at ht⊢
    rcases ht with(h|h)|h
    ·simp[h]
    ·simp[w1.mem_iff.1 h]
    ·simp[h]))
   refine⟨W++R1,R2,a,r1,by simp at r2⊢;omega,r3,?_,fun Q hQ=>by rw[yh_];exact .cons W _ hWl w2 (r5 Q hQ),?_⟩
   ·rw[yh_];exact w1.append r4
   ·have e1:P++(W++R1)++R2=P++W++R1++R2:=by simp
    rw[e1,<-r6,hPW,e0];refine qbD (head _ _ _) ?_;have hle:(((P.length+20:Nat):Int)<=(N:Int)):=by omega
    have hw:IntKind.i64.wrap (((P.length+20:Nat):Int)+20)=((P.length+20+20:Nat):Int):=by rw[wrap_i64 (by omega) (by omega)];omega
    generalize kc (P++C++D)=c1 at w3⊢
    generalize kc (P++W++D)=c2 at w3⊢
    generalize ((P.length+20+20:Nat):Int)=gv2 at*
    generalize ((P.length+20:Nat):Int)=v at*
    generalize (P.length:Int)=u at*
    generalize hgn:(N:Int)=w at*
    simp[ql1,qwz,qK6,qK5,qK4,hle,hw,w3]
theorem qDQ(N s:Nat)(hn:N<=1099511627776)(hs:0<s)(hs2:s<=1099511627776):∀(k:Nat) (P R:List T),R.length<=k->(P++R).length=N->(∀t,t∈P++R->t.inner<=1099511627776)->Blk s R->
 ∃(R1 R2:List T) (a:Nat),R2.length<2*s/\a=P.length+R1.length/\a+R2.length=N/\(R1++R2).Perm R/\Blk s R2/\(∀Q,Blk (2*s) Q->Blk (2*s) (R1++Q))/\
  qbw XV [] 1 [0,1,2,6,7,8] qrQ ⟨[(0,.tsl true 0 3 N),(1,.d (.int .i64 N)),(2,.fn 6 []),(6,.d (.int .i64 s)),(7,.d (.int .i64 P.length)),(8,.d (.int .i64 (P.length+2*s:Nat)))],[some (kc (P++R))]⟩=
   some (.exit 4,⟨[(0,.tsl true 0 3 N),(1,.d (.int .i64 N)),(2,.fn 6 []),(6,.d (.int .i64 s)),(7,.d (.int .i64 a)),(8,.d (.int .i64 (a+2*s:Nat))),(35,.d (.bool false))],[some (kc (P++R1++R2))]⟩):=by
 have head:∀(x y:Int) (c:List AV),qad 1 [0,1,2,6,7,8] ⟨[(0,.tsl true 0 3 N),(1,.d (.int .i64 N)),(2,.fn 6 []),(6,.d (.int .i64 s)),(7,.d (.int .i64 x)),(8,.d (.int .i64 y))],[some c]⟩=some ⟨[(0,.tsl true 0 3 N),(1,.d (.int .i64 N)),(2,.fn 6 []),(6,.d (.int .i64 s)),(7,.d (.int .i64 x)),(8,.d (.int .i64 y))],[some c]⟩:=fun x y c=>by
  simp[qad,qab,qaE,qcN,qbi]
 have stop:∀(P R:List T),(P++R).length=N->R.length<2*s->qbw XV [] 1 [0,1,2,6,7,8] qrQ ⟨[(0,.tsl true 0 3 N),(1,.d (.int .i64 N)),(2,.fn 6 []),(6,.d (.int .i64 s)),(7,.d (.int .i64 P.length)),(8,.d (.int .i64 (P.length+2*s:Nat)))],[some (kc (P++R))]⟩=
  some (.exit 4,⟨[(0,.tsl true 0 3 N),(1,.d (.int .i64 N)),(2,.fn 6 []),(6,.d (.int .i64 s)),(7,.d (.int .i64 P.length)),(8,.d (.int .i64 (P.length+2*s:Nat))),(35,.d (.bool false))],[some (kc (P++R))]⟩):=fun P R h1 h2=>by
  refine qa5 (head _ _ _) ?_ (by simp);have hlt:¬(((P.length+2*s:Nat):Int)<=(N:Int)):=by simp at h1;omega
  generalize ((P.length+2*s:Nat):Int)=v at*
  generalize (N:Int)=w at*
  simp[qrQ,qDr,hlt]
 intro k
 induction k with
 |zero=>
  intro P R hk hN hin hB;exact⟨[],R,P.length,by omega,by simp,by simpa using hN,by simp,hB,fun Q h=>by simpa using h,by simpa using stop P R hN (by omega)⟩
 |succ k ih=>
  intro P R hk hN hin hB
  by_cases hR:R.length<2*s
  ·exact⟨[],R,P.length,hR,by simp,by simpa using hN,by simp,hB,fun Q h=>by simpa using h,by simpa using stop P R hN hR⟩
  ·obtain⟨C1,C2,D,rfl,l1,l2,b1,b2,b3⟩:∃C1 C2 D,R=C1++(C2++D)/\C1.length=s/\C2.length=s/\Srt C1/\Srt C2/\Blk s D:=by
    cases hB with
    |last _ h1 _=>omega
    |cons c r h1 h2 h3=>
     cases h3 with
     |last _ h4 _=>simp at hR;omega
     |cons c' r' h4 h5 h6=>exact⟨c,c',r',rfl,h1,h4,h2,h5,h6⟩
   have hNl:P.length+C1.length+C2.length+D.length=N:=by simp at hN;omega
   have e0:P++(C1++(C2++D))=P++C1++C2++D:=by simp
   obtain⟨W,w1,w2,w3⟩:=qj7 (C1.length+C2.length) P C1 C2 D P.length (P.length+s) (P.length+2*s) N (Nat.le_refl _) (by omega) (by omega) rfl (by omega) (by omega) (by simp;omega) hn (fun t ht=>hin t (by rw[e0];exact ht)) b1 b2;have hWl:W.length=2*s:=by rw[w1.length_eq];simp;omega
   have hPW:(P++W).length=P.length+2*s:=by simp;omega
   obtain⟨R1,R2,a,r1,r2,r3,r4,r5,r6,r7⟩:=ih (P++W) D (by simp at hk;omega) (by simp;omega) (fun t ht=>hin t (by
    simp only[List.mem_append]at ht⊢
    rcases ht with(h|h)|h
    ·simp[h]
    ·have:=w1.mem_iff.1 h
     simp only[List.mem_append]at this;rcases this with h|h<;>simp[h]
    ·simp[h])) b3
   refine⟨W++R1,R2,a,r1,by simp at r2⊢;omega,r3,?_,r5,fun Q hQ=>by rw[yh_];exact .cons W _ hWl w2 (r6 Q hQ),?_⟩
   ·rw[yh_]
    refine(w1.append r4).trans ?_;simp
   ·have e1:P++(W++R1)++R2=P++W++R1++R2:=by simp
    rw[e1,<-r7,hPW,e0];refine qbD (head _ _ _) ?_;have hle:(((P.length+2*s:Nat):Int)<=(N:Int)):=by omega
    have hw:IntKind.i64.wrap (((P.length+2*s:Nat):Int)+((2*s:Nat):Int))=((P.length+2*s+2*s:Nat):Int):=by rw[wrap_i64 (by omega) (by omega)];omega
    have hw2:IntKind.i64.wrap (2*(s:Int))=((2*s:Nat):Int):=by rw[wrap_i64 (by omega) (by omega)];omega
    have hw3:IntKind.i64.wrap ((P.length:Int)+s)=((P.length+s:Nat):Int):=by rw[wrap_i64 (by omega) (by omega)];omega
    generalize kc (P++C1++C2++D)=c1 at w3⊢
    generalize kc (P++W++D)=c2 at w3⊢
    generalize ((P.length+2*s+2*s:Nat):Int)=gv2 at*
    generalize ((P.length+2*s:Nat):Int)=v at*
    generalize ((P.length+s:Nat):Int)=gv3 at*
    generalize ((2*s:Nat):Int)=gv4 at*
    generalize (P.length:Int)=u at*
    generalize (s:Int)=gs at*
    generalize hgn:(N:Int)=w at*
    simp[qrQ,qDr,qDw,qDv,qDu,hle,hw,hw2,hw3,w3]
theorem qyI(N:Nat)(hn:N<=1099511627776):∀(k s:Nat) (l:List T),N-s<=k->0<s->s<=2199023255552->l.length=N->(∀t,t∈l->t.inner<=1099511627776)->Blk s l->
 ∃(l':List T) (s':Nat),l'.Perm l/\Srt l'/\
  qbw XV [] 1 [0,1,2,6] qjy ⟨[(0,.tsl true 0 3 N),(1,.d (.int .i64 N)),(2,.fn 6 []),(6,.d (.int .i64 s))],[some (kc l)]⟩=
   some (.exit 2,⟨[(0,.tsl true 0 3 N),(1,.d (.int .i64 N)),(2,.fn 6 []),(6,.d (.int .i64 s')),(30,.d (.bool false))],[some (kc l')]⟩):=by
 have head:∀(x:Int) (c:List AV),qad 1 [0,1,2,6] ⟨[(0,.tsl true 0 3 N),(1,.d (.int .i64 N)),(2,.fn 6 []),(6,.d (.int .i64 x))],[some c]⟩=some ⟨[(0,.tsl true 0 3 N),(1,.d (.int .i64 N)),(2,.fn 6 []),(6,.d (.int .i64 x))],[some c]⟩:=fun x c=>by
  simp[qad,qab,qaE,qcN,qbi]
 have stop:∀(s:Nat) (l:List T),0<s->N<=s->l.length=N->Blk s l->∃(l':List T) (s':Nat),l'.Perm l/\Srt l'/\
  qbw XV [] 1 [0,1,2,6] qjy ⟨[(0,.tsl true 0 3 N),(1,.d (.int .i64 N)),(2,.fn 6 []),(6,.d (.int .i64 s))],[some (kc l)]⟩=
   some (.exit 2,⟨[(0,.tsl true 0 3 N),(1,.d (.int .i64 N)),(2,.fn 6 []),(6,.d (.int .i64 s')),(30,.d (.bool false))],[some (kc l')]⟩):=fun s l hs h1 h2 h3=>by
  refine⟨l,s,List.Perm.refl _,h3.srt (by omega) hs,?_⟩;refine qa5 (head _ _) ?_ (by simp);have hlt:¬((s:Int)<(N:Int)):=by omega
  generalize (s:Int)=v at*
  generalize (N:Int)=w at*
  simp[qjy,qqs,hlt]
 intro k
 induction k with
 |zero=>intro s l hk hs hs2 hl hin hB;exact stop s l hs (by omega) hl hB
 |succ k ih=>
  intro s l hk hs hs2 hl hin hB
  by_cases hsN:N<=s
  ·exact stop s l hs hsN hl hB
  obtain⟨R1,R2,a,r1,r2,r3,r4,r5,r6,r7⟩:=qDQ N s hn hs (by omega) l.length [] l (Nat.le_refl _) (by simpa using hl) (by simpa using hin) hB;simp only[List.nil_append,List.length_nil,Nat.zero_add]at r2 r7;have hin2:∀t,t∈R1++R2->t.inner<=1099511627776:=fun t ht=>hin t (r4.mem_iff.1 ht)
  obtain⟨W,w1,w2,w3⟩:∃W:List T,W.Perm R2/\Srt W/\((((a+s:Nat):Int)<(N:Int)/\qac XV 173 [.tsl true 0 3 N,.d (.int .i64 a),.d (.int .i64 (a+s:Nat)),.d (.int .i64 N),.fn 6 []] [some (kc (R1++R2))]=some (.d (.tup []),[some (kc (R1++W))]))\/(¬((a+s:Nat):Int)<(N:Int)/\W=R2)):=by
   by_cases h:a+s<N
   ·obtain⟨C,D,rfl,l1,b1,b2⟩:∃C D,R2=C++D/\C.length=s/\Srt C/\Blk s D:=by
     cases r5 with
     |last _ h1 _=>omega
     |cons c r h1 h2 h3=>exact⟨c,r,rfl,h1,h2,h3⟩
    have hDl2:a+(s+D.length)=N:=by simp at r3;omega
    obtain⟨W,w1,w2,w3⟩:=qj7 (C.length+D.length) R1 C D [] a (a+s) N N (Nat.le_refl _) (by omega) (by omega) r2 (by omega) (by omega) (by simp;omega) hn (fun t ht=>hin2 t (by simpa using ht)) b1 (b2.srt (by omega) hs);refine⟨W,w1,w2,.inl ⟨by omega,?_⟩⟩;have e1:R1++(C++D)=R1++C++D++[]:=by simp
    have e2:R1++W=R1++W++[]:=by simp
    rw[e1,e2];exact w3
   ·exact⟨R2,List.Perm.refl _,r5.srt (by omega) hs,.inr ⟨by omega,rfl⟩⟩
  have hWl:W.length=R2.length:=w1.length_eq;have hB2:Blk (2*s) (R1++W):=r6 W (.last W (by omega) w2);obtain⟨l',s',p1,p2,p3⟩:=ih (2*s) (R1++W) (by omega) (by omega) (by omega) (by simp;omega) (fun t ht=>hin2 t (by
   rcases List.mem_append.1 ht with h|h
   ·simp[h]
   ·simp[w1.mem_iff.1 h])) hB2
  refine⟨l',s',p1.trans ((List.Perm.refl R1).append w1|>.trans r4),p2,?_⟩;rw[<-p3];refine qbD (head _ _) ?_;have hlt:((s:Int)<(N:Int)):=by omega
  have hw2:IntKind.i64.wrap (2*(s:Int))=((2*s:Nat):Int):=by rw[wrap_i64 (by omega) (by omega)];omega
  have hw2':IntKind.i64.wrap ((s:Int)*2)=((2*s:Nat):Int):=by rw[wrap_i64 (by omega) (by omega)];omega
  have hw3:IntKind.i64.wrap ((a:Int)+s)=((a+s:Nat):Int):=by rw[wrap_i64 (by omega) (by omega)];omega
  simp only[Int.natCast_zero]at r7;rcases w3 with⟨g1,g2⟩|⟨g1,rfl⟩
  ·generalize kc (R1++W)=c3 at*
   generalize kc (R1++R2)=c2 at*
   generalize kc l=c1 at*
   generalize ((a+2*s:Nat):Int)=gv1 at*
   generalize ((a+s:Nat):Int)=gv3 at*
   generalize ((2*s:Nat):Int)=gv4 at*
   generalize (a:Int)=ga at*
   generalize (s:Int)=gs at*
   generalize hgn:(N:Int)=w at*
   simp[qjy,qqs,qDs,qtn,qtm,qtl,qtk,hlt,hw2];rw[r7];simp[hw2',hw3,g1,g2]
  ·generalize kc (R1++W)=c2 at*
   generalize kc l=c1 at*
   generalize ((a+2*s:Nat):Int)=gv1 at*
   generalize ((a+s:Nat):Int)=gv3 at*
   generalize ((2*s:Nat):Int)=gv4 at*
   generalize (a:Int)=ga at*
   generalize (s:Int)=gs at*
   generalize hgn:(N:Int)=w at*
   simp[qjy,qqs,qDs,qtn,qtm,qtl,qtk,hlt,hw2];rw[r7];simp[hw2',hw3,g1]
theorem qBB(l:List T)(hn:l.length<=1099511627776)(hin:∀t,t∈l->t.inner<=1099511627776):
 ∃l':List T,l'.Perm l/\Srt l'/\qac XV 171 [.tsl true 0 3 l.length,.d (.int .i64 l.length),.fn 6 []] [some (kc l)]=some (.d (.tup []),[some (kc l')]):=by
 obtain⟨R1,R2,a,r1,r2,r3,r4,r5,r6⟩:=qum l.length hn l.length [] l (Nat.le_refl _) (by simp) (by simpa using hin);simp only[List.nil_append,List.length_nil,Nat.zero_add]at r2 r6;have hin2:∀t,t∈R1++R2->t.inner<=1099511627776:=fun t ht=>hin t (r4.mem_iff.1 ht)
 obtain⟨W,w1,w2,w3⟩:=qhL R1 R2 [] a l.length l.length r2 (by omega) (by simp;omega) hn (fun t ht=>hin2 t (by simpa using ht));simp only[List.append_nil]at w3;have hWl:W.length=R2.length:=w1.length_eq;have hB:Blk 20 (R1++W):=r5 W (.last W (by omega) w2);obtain⟨l',s',p1,p2,p3⟩:=qyI l.length hn l.length 20 (R1++W) (by omega) (by omega) (by omega) (by simp;omega) (fun t ht=>hin2 t (by
  rcases List.mem_append.1 ht with h|h
  ·simp[h]
  ·simp[w1.mem_iff.1 h])) hB
 refine⟨l',p1.trans ((List.Perm.refl R1).append w1|>.trans r4),p2,?_⟩;rw[qah XV _ _ _ qMP rfl qpt rfl];simp only[Int.natCast_zero,show((20:Nat):Int)=20 from rfl]at r6 p3;generalize kc (R1++W)=c3 at*
 generalize kc (R1++R2)=c2 at*
 generalize kc l=c1 at*
 generalize kc l'=c4 at*
 generalize ((a+20:Nat):Int)=gv1 at*
 generalize (a:Int)=ga at*
 generalize hgn:(l.length:Int)=w at*
 simp[qMP,qDy,qDx];rw[r6];simp[qDt,w3];rw[p3];simp
theorem qnX(l:List T)(hn:l.length<=1099511627776)(hin:∀t,t∈l->t.inner<=1099511627776):
 ∃l':List T,l'.Perm l/\Srt l'/\qac XV 170 [.tsl true 0 3 l.length,.fn 6 []] [some (kc l)]=some (.d (.tup []),[some (kc l')]):=by
 obtain⟨l',h1,h2,h3⟩:=qBB l hn hin;refine⟨l',h1,h2,?_⟩;rw[qah XV _ _ _ qMQ rfl qpu rfl];generalize kc l'=c2 at*
 generalize kc l=c1 at*
 simp[qMQ,qDz,h3]
mutual
theorem qpd:∀t:T,(t.enc U).allU=true
 | .node f v ks=>by
  have:=qiT ks;unfold T.enc;cases ks with
  |nil=>simp[T.encs,DV.allU,DV.allUs]
  |cons a r=>simp only[T.encs]at this⊢;simp[DV.allU,DV.allUs]at this⊢;exact this
theorem qiT:∀l:List T,DV.allUs (T.encs U l)=true
 | []=>by simp[T.encs,DV.allUs]
 |t::r=>by simp[T.encs,DV.allUs,qpd t,qiT r]
end
theorem qrX(t:T):(t.enc U).allUT=true:=by
 have:=qpd t;rw[T.qbF]at this⊢
 exact this
theorem qJx:∀l:List T,DV.allUs (l.map (T.enc U))=true:=fun l=>by rw[<-T.qdZ];exact qiT l
def nB(f v:Int)(ks:List T):qal:=[some [.d (.int .i64 f),.d (.int .i64 v),.d (qaa .sub ks)],some [.d (.int .i64 0),.d (.int .i64 0),.d (.sl U [])]]
theorem qUj(s:List SymL)(hs:s.length<=1099511627776)(f v:Int)(ks acc:List T)(hl:ks.length<=1099511627776)(i:Nat)(hi:i<ks.length)(hacc:acc.length<=1099511627776)(hk:((tAt ks i).norm s).kids.length<=1099511627776)
 (hc:qac XV 169 [.d (sg s),.d ((tAt ks i).enc .sub)] []=some (.d (((tAt ks i).norm s).enc U),[])):
 ∃e:qal,qau XV (XV.lin 169) qif ⟨[(0,.d (sg s)),(3,.ptr 0 0),(4,.ptr 1 0),(5,.d (.sl U (acc.map (T.enc U)))),(10,.d (qaa .sub ks)),(11,.d (.int .i64 ks.length)),(12,.d (.int .i64 i))],nB f v ks⟩=
  some (.normal,⟨[(0,.d (sg s)),(3,.ptr 0 0),(4,.ptr 1 0),(5,.d (.sl U ((acc++qxK s f ((tAt ks i).norm s)).map (T.enc U)))),(10,.d (qaa .sub ks)),(11,.d (.int .i64 ks.length)),(12,.d (.int .i64 (i+1:Nat)))],nB f v ks++e⟩):=by
 have hw:=qae (n:=i) (by omega);have hb:=qdv s hs f;have ht:=qap hi;generalize tAt ks i=k at*
 generalize hn:k.norm s=n at*
 unfold qxK nB
 by_cases h1:qaM s f=true
 ·by_cases h2:(n.f==f)=true
  ·have ha:=qig acc n.kids U (by omega)
   generalize hl2:(acc++n.kids).map (T.enc U)=l2 at ha;generalize acc.map (T.enc U)=l1 at ha⊢
   refine⟨[some [.d (.int .i64 n.f),.d (.int .i64 n.v),.d (qaa .sub n.kids)]],?_⟩;simp[qif,qqz,qqy,qqx,qqw,qqv,qqu,qqt,hi,hw,cut,ht,hc,hb,h1,h2,ha,hl2,splice,qaf,qai,qam,qaC,qak,AV.qaA]
  ·have ha:=qig acc [n] U (by simp;omega)
   have h2':(n.f==f)=false:=by simpa using h2
   simp only[List.map_cons,List.map_nil]at ha;generalize hl2:(acc++[n]).map (T.enc U)=l2 at ha;generalize acc.map (T.enc U)=l1 at ha⊢
   refine⟨[some [.d (.int .i64 n.f),.d (.int .i64 n.v),.d (qaa .sub n.kids)]],?_⟩;simp[qif,qqz,qqy,qqx,qqw,qqv,qqu,qqt,hi,hw,cut,ht,hc,hb,h1,h2',ha,hl2,splice,qaf,qai,qam,qaC,qak,AV.qaA]
 ·have h1':qaM s f=false:=by simpa using h1
  have ha:=qig acc [n] U (by simp;omega);simp only[List.map_cons,List.map_nil]at ha;generalize hl2:(acc++[n]).map (T.enc U)=l2 at ha;generalize acc.map (T.enc U)=l1 at ha⊢
  refine⟨[some [.d (.int .i64 n.f),.d (.int .i64 n.v),.d (qaa .sub n.kids)]],?_⟩;simp[qif,qqz,qqy,qqx,qqw,qqv,qqu,qqt,hi,hw,cut,ht,hc,hb,h1',ha,hl2,splice,qaf,qai,qam,qaC,qak,AV.qaA]
theorem qtL(B:qal):qac XV 172 [.d (.sl .sub []),.d (.int .i64 0),.d (.int .i64 0),.fn 6 []] B=some (.d (.tup []),B):=by
 rw[qah XV _ _ _ qHe rfl qjZ rfl];have hlo:qbw XV [46,50] B.length [0,1,2,3,8] qjx ⟨[(0,.d (.sl .sub [])),(1,.d (.int .i64 0)),(2,.d (.int .i64 0)),(3,.fn 6 []),(8,.d (.int .i64 1))],B⟩=some (.exit 0,⟨[(0,.d (.sl .sub [])),(1,.d (.int .i64 0)),(2,.d (.int .i64 0)),(3,.fn 6 []),(8,.d (.int .i64 1)),(14,.d (.bool false))],B⟩):=by
  refine qa5 (s0:=⟨[(0,.d (.sl .sub [])),(1,.d (.int .i64 0)),(2,.d (.int .i64 0)),(3,.fn 6 []),(8,.d (.int .i64 1))],B⟩) (by simp[qad,qab,qcN,qbi]) ?_ (by simp);simp[qjx,qqr]
 simp[qHe,qwy,wrap_i64];rw[hlo];simp
theorem qHA(B:qal):qac XV 170 [.d (.sl .sub []),.fn 6 []] B=some (.d (.tup []),B):=by
 have hi:=qtL B;have h1:qbw XV [] B.length [0,1,2,6,7,8] ql1 ⟨[(0,.d (.sl .sub [])),(1,.d (.int .i64 0)),(2,.fn 6 []),(6,.d (.int .i64 20)),(7,.d (.int .i64 0)),(8,.d (.int .i64 20))],B⟩=some (.exit 0,⟨[(0,.d (.sl .sub [])),(1,.d (.int .i64 0)),(2,.fn 6 []),(6,.d (.int .i64 20)),(7,.d (.int .i64 0)),(8,.d (.int .i64 20)),(13,.d (.bool false))],B⟩):=by
  refine qa5 (s0:=⟨[(0,.d (.sl .sub [])),(1,.d (.int .i64 0)),(2,.fn 6 []),(6,.d (.int .i64 20)),(7,.d (.int .i64 0)),(8,.d (.int .i64 20))],B⟩) (by simp[qad,qab,qcN,qbi]) ?_ (by simp);simp[ql1,qwz]
 have h2:qbw XV [] B.length [0,1,2,6] qjy ⟨[(0,.d (.sl .sub [])),(1,.d (.int .i64 0)),(2,.fn 6 []),(6,.d (.int .i64 20))],B⟩=some (.exit 2,⟨[(0,.d (.sl .sub [])),(1,.d (.int .i64 0)),(2,.fn 6 []),(6,.d (.int .i64 20)),(30,.d (.bool false))],B⟩):=by
  refine qa5 (s0:=⟨[(0,.d (.sl .sub [])),(1,.d (.int .i64 0)),(2,.fn 6 []),(6,.d (.int .i64 20))],B⟩) (by simp[qad,qab,qcN,qbi]) ?_ (by simp);simp[qjy,qqs]
 have h3:qac XV 171 [.d (.sl .sub []),.d (.int .i64 0),.fn 6 []] B=some (.d (.tup []),B):=by
  rw[qah XV _ _ _ qMP rfl qpt rfl];simp[qMP,qDy,qDx];rw[h1];simp[qDt,hi];rw[h2];simp
 rw[qah XV _ _ _ qMQ rfl qpu rfl];simp[qMQ,qDz,h3]
theorem qN6(s:List SymL)(hs:s.length<=1099511627776)(f v:Int)(ks:List T)(hl:qaQ ks<=1099511627776)
 (hc:∀t,t∈ks->qac XV 169 [.d (sg s),.d (t.enc .sub)] []=some (.d ((t.norm s).enc U),[])):∀(k i:Nat),i+k=ks.length->∀e:qal,
 qbw XV (XV.lin 169) 2 [0,3,4,5,10,11,12] qif ⟨[(0,.d (sg s)),(3,.ptr 0 0),(4,.ptr 1 0),(5,.d (.sl U ((qxO s f ks i).map (T.enc U)))),(10,.d (qaa .sub ks)),(11,.d (.int .i64 ks.length)),(12,.d (.int .i64 i))],nB f v ks++e⟩=
  some (.exit 0,⟨[(0,.d (sg s)),(3,.ptr 0 0),(4,.ptr 1 0),(5,.d (.sl U ((flatK s f (T.norms s ks)).map (T.enc U)))),(10,.d (qaa .sub ks)),(11,.d (.int .i64 ks.length)),(12,.d (.int .i64 ks.length)),(13,.d (.bool false))],nB f v ks⟩):=by
 have head:∀(x y:AV) (e:qal),y.clr=y->x.safe 2=true->y.safe 2=true->qad 2 [0,3,4,5,10,11,12] ⟨[(0,.d (sg s)),(3,.ptr 0 0),(4,.ptr 1 0),(5,x),(10,.d (qaa .sub ks)),(11,.d (.int .i64 ks.length)),(12,y)],nB f v ks++e⟩=some ⟨[(0,.d (sg s)),(3,.ptr 0 0),(4,.ptr 1 0),(5,x),(10,.d (qaa .sub ks)),(11,.d (.int .i64 ks.length)),(12,y)],nB f v ks⟩:=fun x y e hy hx hy2=>
  qaO (by simp) (by simp[qab,hx,hy2]) (by simp[nB]) rfl
 intro k
 induction k with
 |zero=>
  intro i hi e;have:i=ks.length:=by omega
  subst this;refine qa5 (head _ _ e (by simp) (by simp) (by simp)) ?_ (by simp);rw[qxN];simp[qif,qqz,qqy,qqx,qqw,qqv,qqu,qqt]
 |succ k ih=>
  intro i hi e;have hlt:i<ks.length:=by omega
  have hm:=qav hlt;have h1:=qbC hm;have h2:=qeI s (tAt ks i);have h3:=qr0 s f ks i;have h4:=qdj (qxO s f ks i);have h5:((tAt ks i).norm s).kids.length<=1099511627776:=by have:=qdj ((tAt ks i).norm s).kids;rw[qbb]at this;omega
  obtain⟨e',he⟩:=qUj s hs f v ks (qxO s f ks i) (by have:=qdj ks;omega) i hlt (by omega) h5 (hc _ hm);rw[<-ih (i+1) (by omega) e',qrZ s f ks i hlt];exact qbD (head _ _ e (by simp) (by simp) (by simp)) he
theorem qS7(s:List SymL)(hs:s.length<=1099511627776)(f v:Int)(ks:List T)(hl:qaQ ks<=1099511627776)
 (hc:∀t,t∈ks->qac XV 169 [.d (sg s),.d (t.enc .sub)] []=some (.d ((t.norm s).enc U),[])):
 qau XV (XV.lin 169) qpP.pre ⟨qao 0 [.d (sg s),.d ((T.node f v ks).enc .sub)],[]⟩=
  some (.normal,⟨[(3,.ptr 0 0),(4,.ptr 1 0),(5,.d (.sl U ((flatK s f (T.norms s ks)).map (T.enc U)))),(42,.d (.bool (qaM s f)))],nB f v ks⟩):=by
 have hloop:=qN6 s hs f v ks hl hc ks.length 0 (by omega) [];have hb:=qdv s hs f;simp only[qrY,List.map_nil,List.append_nil,qOx,nB,Int.natCast_zero]at hloop;simp[qpP,qfF,qwC,qwB,qwA,qos,qaf,qai,qam,qaC,qak,nB];rw[hloop];simp[hb,qak]
theorem qIF:∀l:List T,((l.map (T.enc U)).flatMap DV.cells).map AV.d=kc l:=fun l=>by rw[qEq];rfl
theorem qHz(t:T)(r:List T)(hl:qaQ (t::r)<=1099511627776):qil (qac XV) qpP (t.enc U) (r.map (T.enc U))=some ((qfr (t::r)).map (T.enc U)):=by
 have hlen:=qdj (t::r);obtain⟨l',p1,p2,p3⟩:=qnX (t::r) (by omega) (fun x hx=>by have:=qbC hx;omega);have he:=qIG p1 p2;have hu:=qJx (t::r);have hk:=qIF (t::r);simp only[List.map_cons]at hu hk;unfold qil;rw[if_pos hu,hk];have e1:(T.enc U t).cells.length=3:=by simp
 have e2:(r.map (T.enc U)).length+1=(t::r).length:=by simp
 rw[e1,e2];have e3:qac XV qpP.srt [.tsl true 0 3 (t::r).length,.fn qpP.cmp []] [some (kc (t::r))]=some (.d (.tup []),[some (kc l')]):=p3;rw[e3];have hll:l'.length=(t::r).length:=p1.length_eq;have e4:qaG (kc l')=some (flat (l'.map (T.enc U))):=by rw[qEq];exact qlJ _
 have e5:=qcG (l'.map (T.enc U)) (qo0 U l');have e6:(flat (l'.map (T.enc U))).length=(t::r).length*3:=by
  have:=qbz e4;have h2:=qhJ l';rw[this,List.length_map]at h2;rw[h2,hll]
 simp only[e4,Option.bind_some];rw[if_pos e6,<-hll];rw[List.length_map]at e5;rw[e5,he]
theorem qpG{X:XEnv}{T:List Nat}{sf:SFn}{ds:List DV}{S:XS}{x:DV}{xr:List DV}{y:DV×DV}{q:List DV}(hn:ds.length=sf.np)(hp:qau X T sf.pre ⟨qao 0 (ds.map .d),[]⟩=some (.normal,S))
 (h1:lk S.r sf.cond=some (.d (.bool true))) (h2:lk S.r sf.row=some (.d (.sl U (x::xr)))) (h3:qij S=some y) (h4:qil (qac X) sf x xr=some q):qnT X T sf ds=some (.agg [y.1,y.2,.sl U q]):=by
 unfold qnT;rw[if_neg (by simpa using hn),hp];simp only[Option.bind_some];rw[h1,h2];simp only[U];rw[h3];simp only[Option.bind_some,h4,Option.map_some]
theorem qtN(s:List SymL)(hs:s.length<=1099511627776)(f v:Int)(ks:List T)(hl:qaQ ks<=1099511627776)
 (hc:∀t,t∈ks->qac XV 169 [.d (sg s),.d (t.enc .sub)] []=some (.d ((t.norm s).enc U),[])):
 qac XV 169 [.d (sg s),.d ((T.node f v ks).enc .sub)] []=some (.d (((T.node f v ks).norm s).enc U),[]):=by
 have hp:=qS7 s hs f v ks hl hc;have hcn:qaQ (flatK s f (T.norms s ks))<=1099511627776:=by
  have:=qgx s f (T.norms s ks);have:=qgw s ks;omega
 rw[qzG XV 169 _ _ qpP rfl qz9 qz5];simp only[qaG,Option.bind_some,Option.map_some];have slow:qnT XV (XV.lin 169) qpP [sg s,(T.node f v ks).enc .sub]=qnT XV (XV.lin 169) qpP [sg s,(T.node f v ks).enc .sub]:=rfl
 conv at slow=>rhs;unfold qnT
 rw[if_neg (by simp[qpP,qfF])]at slow;simp only[List.map_cons,List.map_nil]at slow;rw[hp]at slow;simp only[T.norm]
 by_cases hb:qaM s f=true
 ·rw[if_pos hb]
  cases hq:flatK s f (T.norms s ks)with
  |nil=>
   rw[slow];have hz:qfr ([]:List T)=[]:=rfl;have hsn:=qHA (nB f v ks);simp only[nB]at hsn;simp[qpP,qfF,hb,hq,lk,nB,hz,hsn,splice,qaf,qai,qam,qaC,qak];rw[T.qbF];rfl
  |cons x r=>
   rw[hq]at hcn;have hr:=qHz x r hcn;have:=qpG (X:=XV) (T:=XV.lin 169) (sf:=qpP) (ds:=[sg s,(T.node f v ks).enc .sub]) (x:=x.enc U) (xr:=r.map (T.enc U)) (y:=(.int .i64 f,.int .i64 v)) rfl hp (by simp[qpP,qfF,lk,hb]) (by simp[qpP,qfF,lk,hq]) (by simp[qij,lk,nB,DV.flat,qaf]) hr;rw[this];simp only[Option.map_some];rw[T.qbF];rfl
 ·rw[if_neg hb,slow]
  have hb':qaM s f=false:=by simpa using hb
  simp[qpP,qfF,hb',lk,nB,splice,qaf,qai,qam,qaC,qak]
theorem qgW(s:List SymL)(hs:s.length<=1099511627776)(t:T)(ht:t.inner<=1099511627776):qac XV 169 [.d (sg s),.d (t.enc .sub)] []=some (.d ((t.norm s).enc U),[]):=by
 match t,ht with
 | .node f v ks,ht=>
  rw[T.qdf]at ht;exact qtN s hs f v ks ht fun x hx=>qgW s hs x (by have:=qbC hx;omega)
termination_by t
decreasing_by
 simp_wf
 have:=List.sizeOf_lt_of_mem hx;omega
theorem qF7(a c:List T)(g:Tag)(h:(a.length+c.length)*40<=140737488355328):qa7 3 40 (.sl U (a.map (T.enc U))) (.sl g (c.map (T.enc U)))=some (.sl U ((a++c).map (T.enc U))):=by
 have h1:(c.map (T.enc U)).all (fun e=>decide (e.cells.length=3/\e.cells.all DV.isCell=true))=true:=by
  simp[qaf,qai]
 have h2:(a.map (T.enc U)).all (fun e=>decide (e.cells.length=3))=true:=by simp
 unfold qa7;simp only;rw[if_pos h1];cases c with
 |nil=>simp
 |cons x r=>
  simp only[List.map_cons,List.isEmpty_cons,Bool.false_eq_true,if_false];rw[if_pos ⟨by simpa using h,trivial,h2⟩];simp
theorem qBO(xs:List DV)(m:Nat):qcp xs 0 m=(xs.take m).map DV.clr++xs.drop m:=by
 unfold qcp;simp[DV.qaA]
def putAt(t:T)(l:List T):Nat:=match qaw (fun i=>decide (T.cmp t (tAt l i)<0)) l.length 0 with
 |some j=>j
 |none=>l.length
theorem qgX(q:Nat->Bool):∀(k i:Nat),(∀j,qaw q k i=some j->∀m,i<=m->m<j->q m=false)/\(qaw q k i=none->∀m,i<=m->m<i+k->q m=false)
 |0,i=>⟨fun j h=>by simp[qaw]at h,fun _ m h1 h2=>by omega⟩
 |k+1,i=>by
  have ih:=qgX q k (i+1);simp only[qaw]
  by_cases h:q i=true
  ·simp only[h,if_true]
   exact⟨fun j hj m h1 h2=>by simp at hj;omega,fun h=>by simp at h⟩
  ·simp only[h,Bool.false_eq_true,if_false]
   refine⟨fun j hj m h1 h2=> ?_,fun hn m h1 h2=> ?_⟩
   ·by_cases e:m=i
    ·subst e;simpa using h
    ·exact ih.1 j hj m (by omega) h2
   ·by_cases e:m=i
    ·subst e;simpa using h
    ·exact ih.2 hn m (by omega) (by omega)
theorem qwQ(t:T)(l:List T):putAt t l<=l.length:=by
 unfold putAt;split
 ·rename_i j h;have:=(qcd _ _ _ _ h).2.1;omega
 ·omega
theorem qDO(t:T)(l:List T):ins t l=l.take (putAt t l)++t::l.drop (putAt t l):=by
 have h:=qgX (fun i=>decide (T.cmp t (tAt l i)<0)) l.length 0;refine qLR t l _ (qwQ t l) (fun i hi=> ?_) (fun hlt=> ?_)
 ·unfold putAt at hi
  split at hi
  ·rename_i j hj
   simpa using h.1 j hj i (by omega) hi
  ·rename_i hn
   simpa using h.2 hn i (by omega) (by omega)
 ·unfold putAt at hlt⊢
  split
  ·rename_i j hj
   simpa using (qcd _ _ _ _ hj).2.2
  ·rename_i hn;rw[hn]at hlt;simp at hlt
theorem qw7(l:List T)(t:T)(hl:qaQ l<=1099511627776)(ht:t.inner<=1099511627776)(x0 x1 x2 x3:Option (List AV)):qac XV 154 [.d (qaa U l),.d (t.enc U)] [x0,x1,x2,x3]=some (.d (.sl U ((ins t l).map (T.enc U))),[x0,x1,x2,x3]):=by
 have hlen:=qdj l;have hlt:=qwQ t l;have hb:∀i,i<l.length->qac XV 84 [.d (t.enc .sub),.d ((tAt l i).enc .sub)] []=some (.d (.bool (decide (T.cmp t (tAt l i)<0))),[]):=fun i hi=>qe0 t (tAt l i) ht (by have:=qbC (qav hi);omega)
 rw[qah XV _ _ _ qQ7 rfl qAZ rfl];have h:=qag (X:=XV) (T:=XV.lin 154) (L:=5) (live:=[0,3,5]) (b:=qnE) (n:=l.length) (st:=fun(_:Unit) i=>⟨[(0,.d (qaa U l)),(3,.ptr 4 0),(5,.d (.int .i64 i))],[x0,x1,x2,x3,some [.d (.int .i64 t.f),.d (.int .i64 t.v),.d (qaa U t.kids)]]⟩) (step:=qb3 fun i=>decide (T.cmp t (tAt l i)<0))
  (F:=fun _=>(.exit 0,⟨[(0,.d (qaa U l)),(3,.ptr 4 0),(5,.d (.int .i64 l.length)),(19,.d (.bool false))],[x0,x1,x2,x3,some [.d (.int .i64 t.f),.d (.int .i64 t.v),.d (qaa U t.kids)]]⟩)) (R:=fun(j:Nat)=>(.exit 0,⟨[(0,.d (qaa U l)),(3,.ptr 4 0),(5,.d (.int .i64 j)),(19,.d (.bool false))],[x0,x1,x2,x3,some [.d (.int .i64 t.f),.d (.int .i64 t.v),.d (qaa U t.kids)]]⟩))
  (fun a=>⟨by simp,by simp[qnE,qFo,qwD]⟩)
  (fun a i hi=>by
   have hw:=qae (n:=i) (by omega);have hc:=hb i hi;unfold qb3
   by_cases hq:decide (T.cmp t (tAt l i)<0)=true
   ·rw[if_pos hq]
    rw[hq]at hc;exact⟨by simp,by simp[qnE,qFo,qwD,hi,cut,qap hi,hc,qak]⟩
   ·rw[if_neg hq]
    have hq':decide (T.cmp t (tAt l i)<0)=false:=by simpa using hq
    rw[hq']at hc;exact⟨⟨[(0,.d (qaa U l)),(3,.ptr 4 0),(5,.d (.int .i64 (i+1:Nat)))],[x0,x1,x2,x3,some [.d (.int .i64 t.f),.d (.int .i64 t.v),.d (qaa U t.kids)]]⟩,by simp[qnE,qFo,qwD,hi,hw,cut,qap hi,hc,qak],by simp[qad,qab]⟩)
  l.length () 0 ⟨[(0,.d (qaa U l)),(3,.ptr 4 0),(5,.d (.int .i64 0))],[x0,x1,x2,x3,some [.d (.int .i64 t.f),.d (.int .i64 t.v),.d (qaa U t.kids)]]⟩ (by omega) (by simp[qad,qab])
 have h':qbw XV (XV.lin 154) 5 [0,3,5] qnE ⟨[(0,.d (qaa U l)),(3,.ptr 4 0),(5,.d (.int .i64 0))],[x0,x1,x2,x3,some [.d (.int .i64 t.f),.d (.int .i64 t.v),.d (qaa U t.kids)]]⟩=
  some (.exit 0,⟨[(0,.d (qaa U l)),(3,.ptr 4 0),(5,.d (.int .i64 (putAt t l))),(19,.d (.bool false))],[x0,x1,x2,x3,some [.d (.int .i64 t.f),.d (.int .i64 t.v),.d (qaa U t.kids)]]⟩):=by
  rw[h,qpk];unfold putAt;cases hq:qaw (fun i=>decide (T.cmp t (tAt l i)<0)) l.length 0<;>simp
 clear h;rw[qDO];generalize putAt t l=m at*
 have a1:=qF7 [] (l.take m) .sub (by simp;omega);have a2:=qF7 (l.take m) [t] U (by simp;omega);have a3:=qF7 (l.take m++[t]) (l.drop m) .sub (by simp;omega);have hall:(l.map (T.enc U)).all (fun e=>decide (e.cells.length=3))=true:=by simp
 have hrest:qcp (l.map (T.enc U)) 0 m=(l.take m).map (T.enc .sub)++(l.drop m).map (T.enc U):=by rw[qBO,<-List.map_take,qd9,<-List.map_drop]
 have hall2:((l.take m).map (T.enc .sub)++(l.drop m).map (T.enc U)).all (fun e=>decide (e.cells.length=3))=true:=by
  have q:∀(l:List T) (g:Tag),(l.map (T.enc g)).all (fun e=>decide (e.cells.length=3))=true:=fun l g=>by simp
  rw[List.all_append,q,q];rfl
 have hlen2:((l.take m).map (T.enc .sub)++(l.drop m).map (T.enc U)).length=l.length:=by simp;omega
 have hd2:(((l.take m).map (T.enc .sub)++(l.drop m).map (T.enc U)).take l.length).drop m=(l.drop m).map (T.enc U):=by
  rw[List.take_of_length_le (by rw[hlen2];exact Nat.le_refl _),List.drop_append_of_le_length (by simp;omega),List.drop_of_length_le (by simp;omega)];rfl
 have ht2:(l.map (T.enc U)).take m=(l.take m).map (T.enc U):=List.map_take.symm;simp only[List.map_nil,List.nil_append,List.map_cons,List.map_append,yh_,List.cons_append]at a1 a2 a3⊢
 generalize hR:(l.take m).map (T.enc .sub)++(l.drop m).map (T.enc U)=R at*
 generalize hL1:(l.take m).map (T.enc U)=L1 at*
 generalize hL2:(l.drop m).map (T.enc U)=L2 at*
 generalize hL3:L1++[T.enc U t]=L3 at*
 generalize hL4:L1++T.enc U t::L2=L4 at*
 simp only[qOy]at h';simp[qQ7,qLd,qLc,qaf,qai,qam,qaC];rw[h'];simp[qLb,qLa,qK9,hlt,hall,hall2,hlen2,hrest,hd2,ht2,a1,a2,a3,qak,splice,AV.qaA]
def nM(s:List SymL)(t:T):DV:=(t.norm s).enc U
theorem qlC(s:List SymL)(f:Int)(h:¬qaM s f=true):∀l:List T,flatK s f l=l
 | []=>rfl
 |k::l=>by
  rw[qng,qlC s f h l];have h':qaM s f=false:=by simpa using h
  simp[qxK,h']
def qzV(s:List SymL)(t:T):List DV:=(t.norm s).kids.map (T.enc U)
theorem qqH(s:List SymL)(t:T):nM s t= .agg [.int .i64 t.f,.int .i64 t.v,.sl U (qzV s t)]:=by
 unfold nM qzV;rw[T.qbF,qDY,qDX]
theorem qxp(s:List SymL)(t:T):(qzV s t).map DV.clr=(t.norm s).kids.map (T.enc .sub):=by unfold qzV;exact qd9 _ _
theorem qxr(s:List SymL)(t:T):(nM s t).cells=[.int .i64 t.f,.int .i64 t.v,.sl U (qzV s t)]:=by rw[qqH];rfl
theorem qVo(s:List SymL)(a:List T)(t:T)(h:a.length<=1099511627776):qa7 3 40 (.sl U (a.map (nM s))) (.sl U [nM s t])=some (.sl U (a.map (nM s)++[nM s t])):=by
 unfold qa7;simp only;rw[if_pos (by simp[qxr,qaf,qai])];simp only[List.isEmpty_cons,Bool.false_eq_true,if_false];rw[if_pos ⟨by simp;omega,trivial,by simp[qxr]⟩]
def rowAt(s:List SymL)(f:Int)(ks:List T)(i:Nat):List DV:=if qaM s f=true then(qfr (qxO s f ks i)).map (T.enc U)else(ks.take i).map (nM s)
theorem rowAt_zero(s:List SymL)(f:Int)(ks:List T):rowAt s f ks 0=[]:=by unfold rowAt;rw[qrY];split<;>rfl
theorem norms_map(s:List SymL):∀l:List T,T.norms s l=l.map (T.norm s)
 | []=>by simp[T.norms]
 |t::r=>by simp[T.norms,norms_map s r]
theorem rowAt_all(s:List SymL)(f v:Int)(ks:List T):DV.agg [.int .i64 f,.int .i64 v,.sl U (rowAt s f ks ks.length)]=nM s (.node f v ks):=by
 rw[qqH];unfold rowAt qzV;rw[qxN,List.take_length];simp only[T.qbg,T.qdQ,T.norm]
 by_cases hb:qaM s f=true
 ·simp only[hb,if_true,T.qbd]
 ·simp only[hb,Bool.false_eq_true,if_false,T.qbd]
  rw[qlC s f hb,norms_map,List.map_map];rfl
def nB3(f v:Int)(ks:List T)(R:List DV):qal:=[some [.d (.int .i64 f),.d (.int .i64 v),.d (qaa .sub ks)],some [.d (.int .i64 0),.d (.int .i64 0),.d (.sl U [])],some [.d (.int .i64 f),.d (.int .i64 v),.d (.sl U R)]]
def qpl(l:List T)(j:Nat):List DV:=(l.take j).map (T.enc .sub)++(l.drop j).map (T.enc U)
theorem qHM(l:List T)(j:Nat)(h:j<=l.length):(qpl l j).length=l.length:=by unfold qpl;simp;omega
theorem qHN(l:List T)(j:Nat):(qpl l j).map DV.clr=l.map (T.enc .sub):=by
 unfold qpl;rw[List.map_append,qd9,qd9,<-List.map_append,List.take_append_drop]
theorem qM9(l:List T)(j:Nat)(h:j<l.length):(qpl l j)[j]?=some ((tAt l j).enc U):=by
 unfold qpl;rw[yd_ (by simp;omega),List.drop_eq_getElem_cons h,qap h];simp[Nat.min_eq_left (Nat.le_of_lt h)]
theorem qHL(l:List T)(j:Nat)(h:j<l.length):(qpl l j).set j ((tAt l j).enc .sub)=qpl l (j+1):=by
 unfold qpl;have hm:((l.take j).map (T.enc .sub)).length=j:=by simp;omega
 rw[List.set_append_right _ _ (by rw[hm];exact Nat.le_refl _),hm,Nat.sub_self,List.drop_eq_getElem_cons h,qap h,List.map_cons,List.set_cons_zero,qdn l j h,List.map_append,yh_,List.map_cons,List.map_nil];rfl
theorem qHO(l:List T):qpl l l.length=l.map (T.enc .sub):=by unfold qpl;simp
theorem qBL(l:List T):qpl l 0=l.map (T.enc U):=by unfold qpl;simp
theorem qHh(TT:List Nat)(d4:Nat)(s:XS)(b off:Nat)(cs:List AV)(g gt:Tag)(xs:List DV)(k:Nat)(t:T):qBb TT d4 3 s b off cs g xs k (some (t.enc gt))=some (qbI TT ⟨s.r,s.B.set b (some (cs.set off (.d (.sl g (xs.set k (t.enc .sub))))))⟩ (some d4) (.d (t.enc gt))):=by
 rw[<-T.qec gt t,T.qbF];rfl
theorem qII(s:List SymL)(hs:s.length<=1099511627776)(f v kf kv:Int)(ks l:List T)(i:Nat)(hl:l.length<=1099511627776):∀(k j:Nat),j+k=l.length->∀acc:List T,qaQ acc+qaQ (l.drop j)<=1099511627776->∀e:qal,
 qbw XV (XV.lin 153) 4 [0,3,4,5,6,7,8] qxG ⟨[(0,.d (sg s)),(3,.ptr 0 0),(4,.ptr 1 0),(5,.ptr 2 0),(6,.d (.int .i64 i)),(7,.ptr 3 0),(8,.d (.int .i64 j))],nB3 f v ks (acc.map (T.enc U))++[some [.d (.int .i64 kf),.d (.int .i64 kv),.d (.sl U (qpl l j))]]++e⟩=
  some (.exit 3,⟨[(0,.d (sg s)),(3,.ptr 0 0),(4,.ptr 1 0),(5,.ptr 2 0),(6,.d (.int .i64 i)),(7,.ptr 3 0),(8,.d (.int .i64 l.length)),(32,.d (.bool false))],nB3 f v ks ((qcz acc (l.drop j)).map (T.enc U))++[some [.d (.int .i64 kf),.d (.int .i64 kv),.d (.sl U (l.map (T.enc .sub)))]]⟩):=by
 have head:∀(x:Int) (A e:qal),A.length=4->qad 4 [0,3,4,5,6,7,8] ⟨[(0,.d (sg s)),(3,.ptr 0 0),(4,.ptr 1 0),(5,.ptr 2 0),(6,.d (.int .i64 i)),(7,.ptr 3 0),(8,.d (.int .i64 x))],A++e⟩=some ⟨[(0,.d (sg s)),(3,.ptr 0 0),(4,.ptr 1 0),(5,.ptr 2 0),(6,.d (.int .i64 i)),(7,.ptr 3 0),(8,.d (.int .i64 x))],A⟩:=fun x A e hA=>
  qaO (by simp) (by simp[qab]) hA rfl
 intro k
 induction k with
 |zero=>
  intro j hj acc ha e;have:j=l.length:=by omega
  subst this;refine qa5 (head _ _ e (by simp[nB3])) ?_ (by simp);rw[List.drop_length,qHO];simp only[qcz];simp[qxG,qDD,qDC,nB3,qak]
 |succ k ih=>
  intro j hj acc ha e;have hlt:j<l.length:=by omega
  have hd:l.drop j=tAt l j::l.drop (j+1):=by rw[List.drop_eq_getElem_cons hlt,qap hlt]
  have hw:=qae (n:=j) (by omega);have r1:=qHM l j (by omega);have r2:=qHN l j;have r3:∀h:j<(qpl l j).length,(qpl l j)[j]'h=(tAt l j).enc U:=fun h=>(List.getElem?_eq_some_iff.1 (qM9 l j hlt)).2
  have r4:=qHL l j hlt;rw[hd,qaH]at ha;have hp:=qw7 acc (tAt l j) (by omega) (by omega);rw[hd];simp only[qcz];rw[<-ih (j+1) (by omega) (ins (tAt l j) acc) (by rw[qh4 (qjR _ _),qaH];omega) []];refine qbD (head _ _ e (by simp[nB3])) ?_;generalize qpl l (j+1)=R1 at*
  generalize qpl l j=R0 at*
  simp[qxG,qDD,qU6,qDC,nB3,hlt,hw,qap hlt,hp,r1,r2,r3,r4,qHh,qat,VX.linT,splice,qai,qam,qaC,qak]
theorem qUk(s:List SymL)(hs:s.length<=1099511627776)(f v:Int)(ks:List T)(hl:qaQ ks<=1099511627776)(i:Nat)(hi:i<ks.length)
 (hc:qac XV 153 [.d (sg s),.d ((tAt ks i).enc .sub)] []=some (.d (nM s (tAt ks i)),[])):
 ∃e:qal,qau XV (XV.lin 153) ql2 ⟨[(0,.d (sg s)),(3,.ptr 0 0),(4,.ptr 1 0),(5,.ptr 2 0),(6,.d (.int .i64 i))],nB3 f v ks (rowAt s f ks i)⟩=
  some (.normal,⟨[(0,.d (sg s)),(3,.ptr 0 0),(4,.ptr 1 0),(5,.ptr 2 0),(6,.d (.int .i64 (i+1:Nat)))],nB3 f v ks (rowAt s f ks (i+1))++e⟩):=by
 have hlen:=qdj ks;have hw:=qae (n:=i) (by omega);have hb:=qei s hs f;have ht:=qap hi;have hm:=qbC (qav hi);have hin:=qeI s (tAt ks i);have hac:=qrZ s f ks i hi;have hcn:=qr0 s f ks (i+1);have htk:=qdn ks i hi;have hM:=qxp s (tAt ks i);have hnf:=qDY s (tAt ks i);have hnv:=qDX s (tAt ks i);have happ:=qVo s (ks.take i) (tAt ks i) (by simp;omega);rw[hac,qg0]at hcn;unfold rowAt;rw[hac,htk];rw[qqH]at hc happ;generalize hk:tAt ks i=k at*
 generalize hr:qxO s f ks i=acc at*
 have hXu:qzV s k=(k.norm s).kids.map (T.enc U):=rfl;generalize hX:qzV s k=X at*
 by_cases h1:qaM s f=true
 ·simp only[h1,if_true]
  by_cases h2:(k.f==f)=true
  ·have e1:qxK s f (k.norm s)=(k.norm s).kids:=by unfold qxK;rw[hnf,h1,h2];rfl
   rw[e1]at hcn⊢
   have hloop:=qII s hs f v k.f k.v ks (k.norm s).kids i (by have:=qdj (k.norm s).kids;rw[qbb]at this;omega) (k.norm s).kids.length 0 (by omega) (qfr acc) (by rw[qh4 (qd2 acc),List.drop_zero];omega) [];rw[List.drop_zero,qBL,show qcz (qfr acc) (k.norm s).kids=qfr (acc++(k.norm s).kids)from by unfold qfr;rw[qes]]at hloop;refine⟨[some [.d (.int .i64 k.f),.d (.int .i64 k.v),.d (.sl U ((k.norm s).kids.map (T.enc .sub)))]],?_⟩;have h2n:(k.f !=f)=false:=by simpa using h2
   rw[<-hXu]at hloop;generalize (qfr (acc++(k.norm s).kids)).map (T.enc U)=R2 at*
   generalize (qfr acc).map (T.enc U)=R1 at*
   generalize (k.norm s).kids=l at*
   simp only[nB3,qEe,Int.natCast_zero,List.cons_append,List.nil_append,List.append_nil]at hloop⊢
   simp[ql2,qqD,qqB,qlh,qlg,qlf,qle,qqA,qqC,hi,cut,ht,hc,hb,h1,h2n,hM,splice,qaf,qai,qam,qaC,qak];rw[hloop];simp[hw]
  ·have h2':(k.f==f)=false:=by simpa using h2
   have h2n:(k.f !=f)=true:=by simpa using h2
   have e1:qxK s f (k.norm s)=[k.norm s]:=by unfold qxK;rw[hnf,h1,h2'];rfl
   rw[e1]at hcn⊢
   rw[show qfr (acc++[k.norm s])=ins (k.norm s) (qfr acc)from by unfold qfr;rw[qes];rfl];have hp:=qw7 (qfr acc) (k.norm s) (by rw[qh4 (qd2 acc)];omega) (by omega);have hke:(k.norm s).enc U= .agg [.int .i64 k.f,.int .i64 k.v,.sl U X]:=by rw[T.qbF,hnf,hnv,hXu]
   simp only[hke]at hp;refine⟨[some [.d (.int .i64 k.f),.d (.int .i64 k.v),.d (qaa .sub (k.norm s).kids)]],?_⟩;generalize ins (k.norm s) (qfr acc)=R2 at*
   generalize qfr acc=R1 at*
   generalize (k.norm s).kids=l at*
   simp[ql2,qqD,qqB,qlh,qlg,qlf,qle,qqA,qqC,nB3,hi,hw,cut,ht,hc,hb,h1,h2n,hM,hp,qat,VX.linT,splice,qaf,qai,qam,qaC,qak,AV.qaA]
 ·have h1':qaM s f=false:=by simpa using h1
  simp only[h1',Bool.false_eq_true,if_false];refine⟨[some [.d (.int .i64 k.f),.d (.int .i64 k.v),.d (qaa .sub (k.norm s).kids)]],?_⟩;rw[List.map_append,List.map_cons,List.map_nil,qqH,hX];generalize hR2:(ks.take i).map (nM s)++[.agg [.int .i64 k.f,.int .i64 k.v,.sl U X]]=R2 at*
  generalize (ks.take i).map (nM s)=R1 at*
  generalize (k.norm s).kids=l at*
  simp[ql2,qqD,qqB,qlh,qlg,qlf,qle,qqA,qqC,nB3,hi,hw,cut,ht,hc,hb,h1',happ,hM,splice,qaf,qai,qam,qaC,qak,AV.qaA]
theorem qN7(s:List SymL)(hs:s.length<=1099511627776)(f v:Int)(ks:List T)(hl:qaQ ks<=1099511627776)
 (hc:∀t,t∈ks->qac XV 153 [.d (sg s),.d (t.enc .sub)] []=some (.d (nM s t),[])):∀(k i:Nat),i+k=ks.length->∀e:qal,
 qbw XV (XV.lin 153) 3 [0,3,4,5,6] ql2 ⟨[(0,.d (sg s)),(3,.ptr 0 0),(4,.ptr 1 0),(5,.ptr 2 0),(6,.d (.int .i64 i))],nB3 f v ks (rowAt s f ks i)++e⟩=
  some (.exit 0,⟨[(0,.d (sg s)),(3,.ptr 0 0),(4,.ptr 1 0),(5,.ptr 2 0),(6,.d (.int .i64 ks.length)),(18,.d (.bool false))],nB3 f v ks (rowAt s f ks ks.length)⟩):=by
 have head:∀(x:Int) (A e:qal),A.length=3->qad 3 [0,3,4,5,6] ⟨[(0,.d (sg s)),(3,.ptr 0 0),(4,.ptr 1 0),(5,.ptr 2 0),(6,.d (.int .i64 x))],A++e⟩=some ⟨[(0,.d (sg s)),(3,.ptr 0 0),(4,.ptr 1 0),(5,.ptr 2 0),(6,.d (.int .i64 x))],A⟩:=fun x A e hA=>
  qaO (by simp) (by simp[qab]) hA rfl
 intro k
 induction k with
 |zero=>
  intro i hi e;have:i=ks.length:=by omega
  subst this;refine qa5 (head _ _ e (by simp[nB3])) ?_ (by simp);generalize rowAt s f ks ks.length=R;simp[ql2,qqD,qqB,qlh,qlg,qlf,qle,qqA,qqC,nB3,qak]
 |succ k ih=>
  intro i hi e;have hlt:i<ks.length:=by omega
  obtain⟨e',he⟩:=qUk s hs f v ks hl i hlt (hc _ (qav hlt));rw[<-ih (i+1) (by omega) e'];exact qbD (head _ _ e (by simp[nB3])) he
theorem qsw(s:List SymL)(hs:s.length<=1099511627776)(f v:Int)(ks:List T)(hl:qaQ ks<=1099511627776)
 (hc:∀t,t∈ks->qac XV 153 [.d (sg s),.d (t.enc .sub)] []=some (.d (nM s t),[])):
 qac XV 153 [.d (sg s),.d ((T.node f v ks).enc .sub)] []=some (.d (nM s (.node f v ks)),[]):=by
 rw[qah XV _ _ _ qQ8 rfl qA0 rfl];have hloop:=qN7 s hs f v ks hl hc ks.length 0 (by omega) [];rw[<-rowAt_all];simp only[rowAt_zero,List.append_nil,qEe,nB3,Int.natCast_zero]at hloop;generalize rowAt s f ks ks.length=R at*
 simp[qQ8,qLg,qLf,qLe,splice,qaf,qai,qam,qaC,qak];rw[hloop];simp[qDE,splice,qaf,qai,qam,qaC,qak,AV.qaA]
theorem qgK(s:List SymL)(hs:s.length<=1099511627776)(t:T)(ht:t.inner<=1099511627776):qac XV 153 [.d (sg s),.d (t.enc .sub)] []=some (.d (nM s t),[]):=by
 match t,ht with
 | .node f v ks,ht=>
  rw[T.qdf]at ht;exact qsw s hs f v ks ht fun x hx=>qgK s hs x (by have:=qbC hx;omega)
termination_by t
decreasing_by
 simp_wf
 have:=List.sizeOf_lt_of_mem hx;omega
abbrev ts(l:List Bd):List T:=l.map Bd.t
def qaR(b:Nat):List Bd->List AV
 | []=>[]
 |x::r=> .d (.int .i64 x.v):: .d (.int .i64 x.t.f):: .d (.int .i64 x.t.v)::qd7 b x.t.kids::qaR (b+qev x.t.kids) r
def tBs(b:Nat)(l:List Bd):AV:=if l=[]then .d (binds .sub [])else .tsl true (b+T.nbs (ts l)) 4 l.length
def bBs(b:Nat)(l:List Bd):qal:=if l=[]then []else T.bxs b (ts l)++[some (qaR b l)]
theorem qiS:∀(l:List Bd) (b:Nat),(qaR b l).length=4*l.length
 | [],b=>rfl
 |x::r,b=>by simp[qaR,qiS r];omega
theorem qPZ(t:T):t.nb=qev t.kids:=by obtain⟨f,v,ks⟩:=t;rw[qgR];rfl
theorem qZj(b:Nat)(t:T):t.bx b=qdO b t.kids:=by obtain⟨f,v,ks⟩:=t;rw[qlR];rfl
theorem qid:∀(a c:List Bd) (b:Nat),qaR b (a++c)=qaR b a++qaR (b+T.nbs (ts a)) c
 | [],c,b=>by simp[qaR,T.nbs]
 |x::r,c,b=>by simp[qaR,qid r c,T.nbs,qPZ,Nat.add_assoc]
theorem qiR(M R:List Bd)(x:Bd)(b:Nat):qaR b (M++x::R)=qaR b M++ .d (.int .i64 x.v):: .d (.int .i64 x.t.f):: .d (.int .i64 x.t.v)::qd7 (b+T.nbs (ts M)) x.t.kids::qaR (b+T.nbs (ts M)+qev x.t.kids) R:=by
 rw[qid];simp[qaR]
theorem qHl(t:T)(b:Nat):thw b (qaa .sub t.kids)=([qd7 b t.kids],t.bx b):=by
 have h:=qWb t b;rw[T.qbF]at h;have h2:thw b (.agg [.int .i64 t.f,.int .i64 t.v,qaa .sub t.kids])=qeZ b [.int .i64 t.f,.int .i64 t.v,qaa .sub t.kids]:=rfl;rw[h2,qRi]at h;have h3:=congrArg Prod.fst h;have h4:=congrArg Prod.snd h;simp only[List.cons.injEq,true_and]at h3 h4;exact Prod.ext h3 h4
theorem qWa(f v w:Int)(x:DV)(b:Nat):qeZ b [.int .i64 f,.int .i64 v,.int .i64 w,x]=(.d (.int .i64 f):: .d (.int .i64 v):: .d (.int .i64 w)::(thw b x).1,(thw b x).2):=by simp[qeZ,thw]
theorem qBl(x:Bd)(b:Nat):thw b (x.enc .sub)=([.d (.int .i64 x.v),.d (.int .i64 x.t.f),.d (.int .i64 x.t.v),qd7 b x.t.kids],x.t.bx b):=by
 have h2:thw b (x.enc .sub)=qeZ b [.int .i64 x.v,.int .i64 x.t.f,.int .i64 x.t.v,qaa .sub x.t.kids]:=rfl;rw[h2,qWa,qHl]
theorem qmt:∀(l:List Bd) (b:Nat),qeZ b (l.map (Bd.enc .sub))=(qaR b l,T.bxs b (ts l))
 | [],b=>rfl
 |x::r,b=>by
  rw[List.map_cons];simp only[qeZ,qBl,qFO];rw[qmt r];simp[qaR,T.bxs,qPZ]
theorem qq3:∀(l:List Bd) (n:Nat) (P Q:qal),T.nbs (ts l)<=n->qiK (AV.frzC (P++T.bxs P.length (ts l)++Q) n) (qaR P.length l)=some (flat (l.map (Bd.enc .sub)))
 | [],n,P,Q,hn=>rfl
 |x::r,n,P,Q,hn=>by
  simp only[ts,List.map_cons,T.nbs,qPZ]at hn;have h1:=qq1 x.t.kids n P (T.bxs (P.length+qev x.t.kids) (ts r)++Q) (by omega);have h2:=qq3 r n (P++qdO P.length x.t.kids) Q (by simp only[ts];omega);have hl:(P++qdO P.length x.t.kids).length=P.length+qev x.t.kids:=by rw[yg_,qep]
  rw[hl]at h2;have hB1:P++qdO P.length x.t.kids++(T.bxs (P.length+qev x.t.kids) (ts r)++Q)=P++T.bxs P.length (ts (x::r))++Q:=by simp[T.bxs,qZj,qPZ]
  have hB2:P++qdO P.length x.t.kids++T.bxs (P.length+qev x.t.kids) (ts r)++Q=P++T.bxs P.length (ts (x::r))++Q:=by simp[T.bxs,qZj,qPZ]
  rw[hB1]at h1;rw[hB2]at h2;generalize P++T.bxs P.length (ts (x::r))++Q=W at h1 h2⊢
  simp only[qaR,qeL,qjq,h1,h2,qeK,List.map_cons];simp[flat]
theorem qFB(b:Nat)(l:List Bd):(tBs b l).clr=tBs b l:=by
 unfold tBs;split
 ·simp[AV.clr,DV.clr,DV.clrs]
 ·simp only[AV.clr]
def qqJ(x:Bd)(k:Nat):Bd:=⟨(k:Int),.node ((k+1:Nat):Int) ((k+2:Nat):Int) (T.marks (k+3) x.t.kids)⟩
def qb0:List Bd->Nat
 | []=>0
 |x::r=>3+2*x.t.inner+qb0 r
def mkB:List Bd->Nat->List Bd
 | [],_=>[]
 |x::r,k=>qqJ x k::mkB r (k+(3+2*x.t.inner))
theorem qgT:∀(l:List Bd) (k:Nat),(mkB l k).length=l.length
 | [],k=>rfl
 |x::r,k=>by simp[mkB,qgT r]
theorem qoG:∀(l:List Bd) (k:Nat) (x:Bd),mkB (l++[x]) k=mkB l k++[qqJ x (k+qb0 l)]
 | [],k,x=>by simp[mkB,qb0]
 |a::q,k,x=>by simp[mkB,qoG q,qb0,Nat.add_assoc]
theorem qrv:∀(l:List Bd) (x:Bd),qb0 (l++[x])=qb0 l+(3+2*x.t.inner)
 | [],x=>by simp[qb0]
 |a::q,x=>by simp[qb0,qrv q];omega
theorem qlN:∀(a c:List Bd),qb0 (a++c)=qb0 a+qb0 c
 | [],c=>by simp[qb0]
 |r::q,c=>by simp[qb0,qlN q c,Nat.add_assoc]
theorem qgS:∀(l:List Bd) (k:Nat),T.nbs (ts (mkB l k))=T.nbs (ts l)
 | [],k=>rfl
 |x::r,k=>by
  have:=qgS r (k+(3+2*x.t.inner));simp only[ts]at this;simp[mkB,T.nbs,qPZ,qqJ,qbM,this]
def upB(l:List Bd)(k i:Nat):List Bd:=mkB (l.take i) k++l.drop i
theorem quG(l:List Bd)(k:Nat):upB l k 0=l:=by simp[upB,mkB]
theorem qMX(l:List Bd)(k:Nat):upB l k l.length=mkB l k:=by simp[upB]
theorem qMW(l:List Bd)(k i:Nat):T.nbs (ts (upB l k i))=T.nbs (ts l):=by
 unfold upB;rw[show ts (mkB (l.take i) k++l.drop i)=ts (mkB (l.take i) k)++ts (l.drop i)by simp,qeD,qgS,<-qeD,show ts (l.take i)++ts (l.drop i)=ts l by rw[<-List.map_append,List.take_append_drop]]
theorem qJq(l:List Bd)(i:Nat)(hi:i<l.length):l.take (i+1)=l.take i++[bAt l i]:=by
 rw[<-qbR hi,List.take_append_getElem hi]
theorem qRg(l:List Bd)(k i:Nat)(hi:i<l.length):upB l k i=mkB (l.take i) k++bAt l i::l.drop (i+1):=by
 unfold upB;rw[List.drop_eq_getElem_cons hi,qbR hi]
theorem qHi(l:List Bd)(k i:Nat)(hi:i<l.length):upB l k (i+1)=mkB (l.take i) k++qqJ (bAt l i) (k+qb0 (l.take i))::l.drop (i+1):=by
 unfold upB;rw[qJq l i hi,qoG];simp
theorem qru(l:List Bd)(i:Nat)(hi:i<l.length):qb0 (l.take (i+1))=qb0 (l.take i)+(3+2*(bAt l i).t.inner):=by rw[qJq l i hi,qrv]
theorem qFv(l:List Bd)(i:Nat):qb0 (l.take i)<=qb0 l:=by
 have h:=qlN (l.take i) (l.drop i);rw[List.take_append_drop]at h;omega
theorem qso(M R:List Bd)(x:Bd)(b:Nat):T.bxs b (ts (M++x::R))=T.bxs b (ts M)++(qdO (b+T.nbs (ts M)) x.t.kids++T.bxs (b+T.nbs (ts M)+qev x.t.kids) (ts R)):=by
 rw[show ts (M++x::R)=ts M++x.t::ts R by simp,qo7]
theorem qp0(C1 C2:List AV)(f x:AV)(i:Nat)(h:C1.length=i*4):splice (C1++f::C2) (i*4) [x]=C1++x::C2:=by rw[<-h];exact spA C1 C2 f x
theorem qp1(C1 C2:List AV)(f v x:AV)(i:Nat)(h:C1.length=i*4):splice (C1++f::v::C2) (i*4+1) [x]=C1++f::x::C2:=by
 have:=spA (C1++[f]) C2 v x;simp only[yg_,List.length_cons,List.length_nil,yh_,List.cons_append,List.nil_append,Nat.zero_add]at this;rw[<-h];exact this
theorem qp2(C1 C2:List AV)(f v w x:AV)(i:Nat)(h:C1.length=i*4):splice (C1++f::v::w::C2) (i*4+1+1) [x]=C1++f::v::x::C2:=by
 have:=spA (C1++[f,v]) C2 w x;simp only[yg_,List.length_cons,List.length_nil,yh_,List.cons_append,List.nil_append,Nat.zero_add]at this;rw[<-h];exact this
theorem qa3(C1 C2:List AV)(f v w r:AV)(i:Nat)(h:C1.length=i*4):(C1++f::v::w::r::C2)[i*4+1+2]?=some r:=by
 rw[<-h,yd_ (by omega)];simp[Nat.add_assoc]
theorem qD2(S S' B1:qal)(ix n i:Nat)(K0 K1 K2 K3 Kn:Int)(C1 C2:List AV)(f v w row:AV)(hS:S.length=ix)(hS':S'.length=ix)(hi:i<n)(hn:n<=1099511627776)(hC:C1.length=i*4)(hw1:IntKind.i64.wrap (K0+1)=K1)(hw2:IntKind.i64.wrap (K1+1)=K2)(hw3:IntKind.i64.wrap (K2+1)=K3)(hrow:row.clr=row)
 (hcall:qac XV 244 [row,.d (.int .i64 K3)] (S++some (C1++ .d (.int .i64 K0):: .d (.int .i64 K1):: .d (.int .i64 K2)::row::C2)::B1)=some (.d (.int .i64 Kn),S'++some (C1++ .d (.int .i64 K0):: .d (.int .i64 K1):: .d (.int .i64 K2)::row::C2)::B1)):
 qau XV [] qlW ⟨[(0,.tsl true ix 4 n),(1,.d (.int .i64 K0)),(5,.d (.int .i64 (i:Int)))],S++some (C1++f::v::w::row::C2)::B1⟩=
  some (.normal,⟨[(0,.tsl true ix 4 n),(1,.d (.int .i64 Kn)),(5,.d (.int .i64 ((i+1:Nat):Int)))],S'++some (C1++ .d (.int .i64 K0):: .d (.int .i64 K1):: .d (.int .i64 K2)::row::C2)::B1⟩):=by
 have hw:=qae (n:=i) (by omega);have hget:∀(c:List AV) (r:qal),(S++some c::r)[ix]?=some (some c):=fun c r=>by rw[<-hS];exact get_at S (some c) r
 have hset:∀(c d:List AV) (r:qal),(S++some c::r).set ix (some d)=S++some d::r:=fun c d r=>by rw[<-hS];exact qBH S (some c) (some d) r
 have s0:=fun x=>qp0 C1 (v::w::row::C2) f x i hC
 have s1:=fun a x=>qp1 C1 (w::row::C2) a v x i hC
 have s2:=fun a b x=>qp2 C1 (row::C2) a b w x i hC
 have g3:=fun a b c=>qa3 C1 C2 a b c row i hC
 have le0:i*4+1<=C1.length+(C2.length+1+1+1+1):=by omega
 have le1:i*4+1+1<=C1.length+(C2.length+1+1+1+1):=by omega
 have le2:i*4+1+1+1<=C1.length+(C2.length+1+1+1+1):=by omega
 simp[qlW,qvk,qvi,qvh,qvg,qvf,qve,qvd,qob,qvj,hi,hw,hw1,hw2,hw3,hget,hset,s0,s1,s2,g3,le0,le1,le2,hrow,hcall]
theorem qqL(l:List Bd)(hl:l.length<=1099511627776)(hb:∀i,i<l.length->(bAt l i).t.inner<=1099511627776)(k:Nat)(hk:k+qb0 l<=4611686018427387904)(B0 B1:qal):
 qac XV 293 [tBs B0.length l,.d (.int .i64 (k:Int))] (B0++bBs B0.length l++B1)=some (.d (.int .i64 ((k+qb0 l:Nat):Int)),B0++(if l=[]then []else T.bxs B0.length (ts (mkB l k))++[some (qaR B0.length (mkB l k))])++B1):=by
 rw[qah XV _ _ _ qPP rfl qAx rfl]
 by_cases hne:l=[]
 ·subst hne
  have h:=qag (X:=XV) (T:=[]) (L:=(B0++B1).length) (live:=[0,1,5]) (b:=qlW) (n:=0) (β:=Unit) (γ:=Unit) (st:=fun _ i=>⟨[(0,.d (.sl .sub [])),(1,.d (.int .i64 k)),(5,.d (.int .i64 i))],B0++B1⟩) (step:=fun _ _=> .inl ())
   (F:=fun _=>(.exit 0,⟨[(0,.d (.sl .sub [])),(1,.d (.int .i64 k)),(5,.d (.int .i64 0)),(9,.d (.bool false))],B0++B1⟩)) (R:=fun _=>(.ret,⟨[],[]⟩)) (fun a=>⟨by simp,by simp[qlW,qvk,qvi,qvh,qvg,qvf,qve,qvd,qob,qvj]⟩) (fun a i hi=>by omega) 0 () 0 ⟨[(0,.d (.sl .sub [])),(1,.d (.int .i64 k)),(5,.d (.int .i64 0))],B0++B1⟩ rfl (qaO (e:=[]) (by simp) (by simp[qab]) rfl (by simp))
  simp only[runN,yg_]at h;have htk:List.take (B0.length+B1.length) (B0++B1)=B0++B1:=List.take_of_length_le (by simp);simp[tBs,bBs,qb0,binds,qPP,qCq,qCp,qs3];rw[h];simp[htk]
 ·have hlen:∀i,(B0++T.bxs B0.length (ts (upB l k i))).length=B0.length+T.nbs (ts l):=fun i=>by rw[yg_,qbm,qMW]
  have h:=qag (X:=XV) (T:=[]) (L:=B0.length+T.nbs (ts l)+(B1.length+1)) (live:=[0,1,5]) (b:=qlW) (n:=l.length) (γ:=Unit) (st:=fun(_:Unit) i=>⟨[(0,.tsl true (B0.length+T.nbs (ts l)) 4 l.length),(1,.d (.int .i64 ((k+qb0 (l.take i):Nat):Int))),(5,.d (.int .i64 i))],(B0++T.bxs B0.length (ts (upB l k i)))++some (qaR B0.length (upB l k i))::B1⟩) (step:=fun _ _=> .inl ())
   (F:=fun _=>(.exit 0,⟨[(0,.tsl true (B0.length+T.nbs (ts l)) 4 l.length),(1,.d (.int .i64 ((k+qb0 l:Nat):Int))),(5,.d (.int .i64 l.length)),(9,.d (.bool false))],(B0++T.bxs B0.length (ts (upB l k l.length)))++some (qaR B0.length (upB l k l.length))::B1⟩)) (R:=fun _=>(.ret,⟨[],[]⟩))
   (fun _=>⟨by simp,by rw[List.take_length];generalize ((k+qb0 l:Nat):Int)=K;simp[qlW,qvk,qvi,qvh,qvg,qvf,qve,qvd,qob,qvj]⟩)
   (fun _ i hi=>by
    have hkt:k+qb0 (l.take (i+1))<=4611686018427387904:=by have:=qFv l (i+1);omega
    have hct:=qru l i hi;have hin:=hb i hi;have hr:=qiF (bAt l i).t.kids (by rw[qbb];exact hin) (k+qb0 (l.take i)+3) (by rw[qbb];omega) (B0++T.bxs B0.length (ts (mkB (l.take i) k))) (T.bxs (B0.length+T.nbs (ts (mkB (l.take i) k))+qev (bAt l i).t.kids) (ts (l.drop (i+1)))++some (qaR B0.length (upB l k (i+1)))::B1);rw[qbb]at hr;have hl0:(B0++T.bxs B0.length (ts (mkB (l.take i) k))).length=B0.length+T.nbs (ts (mkB (l.take i) k)):=by rw[yg_,qbm]
    rw[hl0]at hr;have e1:=qRg l k i hi;have e2:=qHi l k i hi;have c1:=qiR (mkB (l.take i) k) (l.drop (i+1)) (bAt l i) B0.length;have c2:=qiR (mkB (l.take i) k) (l.drop (i+1)) (qqJ (bAt l i) (k+qb0 (l.take i))) B0.length;have b1:=qso (mkB (l.take i) k) (l.drop (i+1)) (bAt l i) B0.length;have b2:=qso (mkB (l.take i) k) (l.drop (i+1)) (qqJ (bAt l i) (k+qb0 (l.take i))) B0.length;have mf:∀x k,(qqJ x k).v=(k:Int)/\(qqJ x k).t.f=((k+1:Nat):Int)/\(qqJ x k).t.v=((k+2:Nat):Int)/\(qqJ x k).t.kids=T.marks (k+3) x.t.kids:=fun x k=>⟨rfl,rfl,rfl,rfl⟩
    rw[(mf _ _).2.2.2,qbM]at b2;rw[(mf _ _).1,(mf _ _).2.1,(mf _ _).2.2.1,(mf _ _).2.2.2,qbM,qgl]at c2;rw[<-e1]at c1 b1;rw[<-e2]at c2 b2;have hS:(B0++T.bxs B0.length (ts (mkB (l.take i) k)))++qdO (B0.length+T.nbs (ts (mkB (l.take i) k))) (bAt l i).t.kids++(T.bxs (B0.length+T.nbs (ts (mkB (l.take i) k))+qev (bAt l i).t.kids) (ts (l.drop (i+1)))++some (qaR B0.length (upB l k (i+1)))::B1)=(B0++T.bxs B0.length (ts (upB l k i)))++some (qaR B0.length (upB l k (i+1)))::B1:=by rw[b1];simp only[yh_]
    have hS':(B0++T.bxs B0.length (ts (mkB (l.take i) k)))++qdO (B0.length+T.nbs (ts (mkB (l.take i) k))) (T.marks (k+qb0 (l.take i)+3) (bAt l i).t.kids)++(T.bxs (B0.length+T.nbs (ts (mkB (l.take i) k))+qev (bAt l i).t.kids) (ts (l.drop (i+1)))++some (qaR B0.length (upB l k (i+1)))::B1)=(B0++T.bxs B0.length (ts (upB l k (i+1))))++some (qaR B0.length (upB l k (i+1)))::B1:=by rw[b2];simp only[yh_]
    rw[hS,hS']at hr;rw[show k+qb0 (l.take i)+3+2*(bAt l i).t.inner=k+qb0 (l.take (i+1))by omega]at hr;rw[c2]at hr;have hst:=qD2 (B0++T.bxs B0.length (ts (upB l k i))) (B0++T.bxs B0.length (ts (upB l k (i+1)))) B1 (B0.length+T.nbs (ts l)) l.length i ((k+qb0 (l.take i):Nat):Int) ((k+qb0 (l.take i)+1:Nat):Int) ((k+qb0 (l.take i)+2:Nat):Int) ((k+qb0 (l.take i)+3:Nat):Int) ((k+qb0 (l.take (i+1)):Nat):Int)
     (qaR B0.length (mkB (l.take i) k)) (qaR (B0.length+T.nbs (ts (mkB (l.take i) k))+qev (bAt l i).t.kids) (l.drop (i+1))) (.d (.int .i64 (bAt l i).v)) (.d (.int .i64 (bAt l i).t.f)) (.d (.int .i64 (bAt l i).t.v)) (qd7 (B0.length+T.nbs (ts (mkB (l.take i) k))) (bAt l i).t.kids) (hlen i) (hlen (i+1)) hi hl
     (by rw[qiS,qgT,List.length_take];omega) (qae (by omega)) (qae (by omega)) (qae (by omega)) (qfw _ _) hr
    rw[<-c1,<-c2]at hst;exact⟨_,hst,qaO (e:=[]) (by simp) (by simp[qab,qaE]) (by rw[yg_,hlen];simp) (by simp)⟩)
   l.length () 0 ⟨[(0,.tsl true (B0.length+T.nbs (ts l)) 4 l.length),(1,.d (.int .i64 (k:Int))),(5,.d (.int .i64 0))],(B0++T.bxs B0.length (ts l))++some (qaR B0.length l)::B1⟩ (by omega) (qaO (e:=[]) (by simp[qb0]) (by simp[qab,qaE]) (by rw[quG,yg_,yg_,qbm];simp) (by simp[quG]))
  rw[qdp,qMX]at h;rw[if_neg hne];have hap:∀(X:qal) (c:List AV),B0++(X++[some c])++B1=(B0++X)++some c::B1:=fun X c=>by simp
  have hln2:((B0++T.bxs B0.length (ts l))++some (qaR B0.length l)::B1).length=B0.length+T.nbs (ts l)+(B1.length+1):=by simp[qbm];omega
  have hln3:((B0++T.bxs B0.length (ts (mkB l k)))++some (qaR B0.length (mkB l k))::B1).length=B0.length+T.nbs (ts l)+(B1.length+1):=by
   have:=qgS l k;simp only[yg_,qbm,List.length_cons,this]
  simp only[tBs,bBs,if_neg hne];rw[hap,hap];generalize hQ:(B0++T.bxs B0.length (ts l))++some (qaR B0.length l)::B1=Q at h hln2⊢
  generalize hQ':(B0++T.bxs B0.length (ts (mkB l k)))++some (qaR B0.length (mkB l k))::B1=Q' at h hln3⊢
  generalize ((k+qb0 l:Nat):Int)=Kn at h⊢
  rw[<-hln2]at h;have htk:List.take Q.length Q'=Q':=List.take_of_length_le (by omega);simp[qPP,qCq,qCp,qs3];rw[h];simp[htk]
theorem qzQ(l:List T):(qaa U l).allU=true:=by
 have h:=qpd (.node 0 0 l);rw[T.qbF]at h;have h2:DV.allU (.agg [.int .i64 0,.int .i64 0,qaa U l])=(true&&(true&&((qaa U l).allU&&true))):=rfl;rw[T.qbg,T.qdQ,T.qbd,h2]at h;simpa using h
theorem qPI(x:Bd):(x.enc U).allU=true:=by
 have h2:(x.enc U).allU=(true&&(true&&(true&&((qaa U x.t.kids).allU&&true)))):=rfl;rw[h2,qzQ];rfl
theorem ql6:∀l:List Bd,DV.allUs (l.map (Bd.enc U))=true
 | []=>rfl
 |x::r=>by
  have h2:DV.allUs ((x::r).map (Bd.enc U))=((x.enc U).allU&&DV.allUs (r.map (Bd.enc U))):=rfl;rw[h2,qPI,ql6 r];rfl
theorem ql7(l:List Bd):(binds U l).allUT=true:=by
 cases l with
 |nil=>rfl
 |cons x r=>
  have h2:(binds U (x::r)).allUT=(decide (U=U)&&DV.allUs ((x::r).map (Bd.enc U))):=rfl;rw[h2,ql6];simp
def dgb(n:Nat):UInt8:=UInt8.ofNat (48+n)
def dgt(n:Nat):ByteArray:=⟨#[dgb n]⟩
def qzY(n:Nat):ByteArray:=if n<10 then dgt n else qzY (n/10)++dgt (n%10)
theorem qt9{n:Nat}(h:n<10):qzY n=dgt n:=by rw[qzY,if_pos h]
theorem qFb{n:Nat}(h:¬n<10):qzY n=qzY (n/10)++dgt (n%10):=by rw[qzY,if_neg h]
theorem qh2(n:Nat):(dgt n).size=1:=rfl
theorem qrm:∀(k n:Nat),n<10^(k+1)->(qzY n).size<=k+1
 |0,n,h=>by rw[qt9 (by omega),qh2];omega
 |k+1,n,h=>by
  by_cases c:n<10
  ·rw[qt9 c,qh2];omega
  ·rw[qFb c,ByteArray.size_append,qh2]
   have:=qrm k (n/10) (by rw[Nat.pow_succ]at h;omega);omega
theorem qt8{n:Nat}(h:n<=9223372036854775808):(qzY n).size<=20:=qrm 19 n (by omega)
theorem wrap_u8'{n:Int}(h:0<=n)(h2:n<=255):IntKind.u8.wrap n=n:=by
 simp[IntKind.wrap,IntKind.bits,IntKind.signed];omega
theorem qt2(k:IntKind)(x:Int):qdN .quo k x 10=some (.int k (k.wrap (x.tdiv 10))):=rfl
theorem qt1(k:IntKind)(x:Int):qdN .rem k x 10=some (.int k (x.tmod 10)):=rfl
theorem qrf{a b:ByteArray}(h:a.size+b.size<=4611686018427387904):qeM .add (.str a) (.str b)=some (.str (a++b)):=by simp[qeM,h]
def qrn(k:Nat):ByteArray:=if k=0 then ByteArray.empty else qzY k
theorem qzh{k:Nat}(h:k≠0)(s:ByteArray):qrn (k/10)++(dgt (k%10)++s)=qrn k++s:=by
 unfold qrn;rw[if_neg h]
 by_cases c:k<10
 ·have:k/10=0:=by omega
  rw[if_pos this,qt9 c,ByteArray.empty_append,Nat.mod_eq_of_lt c]
 ·rw[if_neg (by omega),qFb c,ByteArray.append_assoc]
theorem qFN{k:Nat}(h:k<10):bytesOf [.int .u8 (48+(k:Int))]=some [dgb k]:=by
 have:(48+(k:Int)).toNat=48+k:=by omega
 simp[bytesOf,this,dgb]
def dst(n:Int)(neg:Bool)(s:ByteArray):XS:=⟨[(0,.d (.int .i64 n)),(3,.d (.bool neg)),(4,.d (.str s))],[]⟩
end Go.Proofs.YtbcbkiaineacpaaGreat.VS
