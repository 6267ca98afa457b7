/- Contracts of the program's functions on the evaluator without names, and plain lemmas: part 3. -/
import Derived.Test.YtfiakfiocdfpbaaXP2
set_option linter.unusedSimpArgs false
set_option linter.unusedVariables false
namespace Go.Proofs.Ytfiakfiocdfpbaa.VS
def bs(P:Nat->Bool):Nat->Nat->Nat->Nat
 |0,i,_=>i
 |k+1,i,j=>if i<j then(if P ((i+j)/2)=true then bs P k ((i+j)/2+1) j else bs P k i ((i+j)/2))else i
theorem qje(P:Nat->Bool):∀(k i j:Nat),i<=j->j-i<=k->i<=bs P k i j/\bs P k i j<=j/\(bs P k i j=i\/P (bs P k i j-1)=true)/\(bs P k i j=j\/P (bs P k i j)=false)
 |0,i,j,h,hk=>by
  have e:bs P 0 i j=i:=rfl;rw[e];exact⟨Nat.le_refl _,h,.inl rfl,.inl (by omega)⟩
 |k+1,i,j,h,hk=>by
  simp only[bs]
  by_cases hij:i<j
  ·rw[if_pos hij]
   by_cases hP:P ((i+j)/2)=true
   ·rw[if_pos hP]
    obtain⟨h1,h2,h3,h4⟩:=qje P k ((i+j)/2+1) j (by omega) (by omega);refine⟨by omega,h2,?_,h4⟩;rcases h3 with h3|h3
    ·right;rw[h3];simpa using hP
    ·exact .inr h3
   ·rw[if_neg hP]
    obtain⟨h1,h2,h3,h4⟩:=qje P k i ((i+j)/2) (by omega) (by omega);refine⟨h1,by omega,h3,?_⟩;rcases h4 with h4|h4
    ·right;rw[h4];simpa using hP
    ·exact .inr h4
  ·rw[if_neg hij]
   exact⟨Nat.le_refl _,h,.inl rfl,.inl (by omega)⟩
theorem wrap_u64{n:Int}(h0:0<=n)(h1:n<=18446744073709551615):IntKind.u64.wrap n=n:=by
 simp[IntKind.wrap,IntKind.bits,IntKind.signed];omega
theorem qcw(x:Int):qc6 .shr .u64 x 1=some (.int .u64 (x.fdiv 2)):=rfl
theorem qxo(n:Nat):(n:Int).fdiv 2=((n/2:Nat):Int):=by
 rw[Int.fdiv_eq_ediv_of_nonneg _ (by omega)];omega
theorem qfW(i j:Nat)(h:i+j<=4398046511104):IntKind.i64.wrap ((i:Int)+j)=((i+j:Nat):Int)/\IntKind.u64.wrap ((i+j:Nat):Int)=((i+j:Nat):Int)/\((i+j:Nat):Int).fdiv 2=(((i+j)/2:Nat):Int)/\IntKind.i64.wrap (((i+j)/2:Nat):Int)=(((i+j)/2:Nat):Int):=
 ⟨by rw[wrap_i64 (by omega) (by omega)];omega,wrap_u64 (by omega) (by omega),qxo _,wrap_i64 (by omega) (by omega)⟩
theorem qxS(l:List T)(a:Nat)(hn:l.length<=1099511627776)(ha:a<l.length)(hb:∀t,t∈l->t.inner<=1099511627776):∀(k i j:Nat),i<=j->j-i<=k->j<=l.length->
 qbp XV [70,74,122,126] 1 [0,1,4,10,11] qkq ⟨[(0,.tsl true 0 3 l.length),(1,.d (.int .i64 a)),(4,.fn 6 []),(10,.d (.int .i64 i)),(11,.d (.int .i64 j))],[some (kc l)]⟩=
  some (.exit 0,⟨[(0,.tsl true 0 3 l.length),(1,.d (.int .i64 a)),(4,.fn 6 []),(10,.d (.int .i64 (bs (fun h=>decide (T.cmp (tAt l h) (tAt l a)<0)) k i j:Nat))),(11,.d (.int .i64 (bs (fun h=>decide (T.cmp (tAt l h) (tAt l a)<0)) k i j:Nat))),(33,.d (.bool false))],[some (kc l)]⟩):=by
 have head:∀(i j:Nat),qal 1 [0,1,4,10,11] ⟨[(0,.tsl true 0 3 l.length),(1,.d (.int .i64 a)),(4,.fn 6 []),(10,.d (.int .i64 i)),(11,.d (.int .i64 j))],[some (kc l)]⟩=some ⟨[(0,.tsl true 0 3 l.length),(1,.d (.int .i64 a)),(4,.fn 6 []),(10,.d (.int .i64 i)),(11,.d (.int .i64 j))],[some (kc l)]⟩:=fun i j=>by
  simp[qal,qaf,qaK,qcC,qbd]
 have stop:∀i:Nat,qbp XV [70,74,122,126] 1 [0,1,4,10,11] qkq ⟨[(0,.tsl true 0 3 l.length),(1,.d (.int .i64 a)),(4,.fn 6 []),(10,.d (.int .i64 i)),(11,.d (.int .i64 i))],[some (kc l)]⟩=
  some (.exit 0,⟨[(0,.tsl true 0 3 l.length),(1,.d (.int .i64 a)),(4,.fn 6 []),(10,.d (.int .i64 i)),(11,.d (.int .i64 i)),(33,.d (.bool false))],[some (kc l)]⟩):=fun i=>by
  refine qaG (head _ _) ?_ (by simp);simp[qkq,qo9]
 intro k
 induction k with
 |zero=>
  intro i j h hk hj;have:i=j:=by omega
  subst this;exact stop i
 |succ k ih=>
  intro i j h hk hj;simp only[bs]
  by_cases hij:i<j
  ·rw[if_pos hij]
   obtain⟨m1,m2,m3,m4⟩:=qfW i j (by omega);have hc:=qxH l a ((i+j)/2) hn ha (by omega) hb i j;have hw:=qaF (n:=(i+j)/2) (by omega);have hij':(i:Int)<j:=by omega
   by_cases hP:T.cmp (tAt l ((i+j)/2)) (tAt l a)<0
   ·rw[if_pos (by simpa using hP)]
    rw[<-ih ((i+j)/2+1) j (by omega) (by omega) hj];refine qbg (head _ _) ?_;simp only[hP,decide_true]at hc;generalize kc l=c0 at hc⊢
    generalize (((i+j)/2+1:Nat):Int)=gv1 at*
    generalize (((i+j)/2:Nat):Int)=gv2 at*
    generalize ((i+j:Nat):Int)=gv3 at*
    generalize (i:Int)=gv4 at*
    generalize (j:Int)=gv5 at*
    simp[qkq,qo9,qtD,qtC,qtB,hij',m1,m2,m3,m4,qck,qcw];rw[hc];simp[hw]
   ·rw[if_neg (by simpa using hP)]
    rw[<-ih i ((i+j)/2) (by omega) (by omega) (by omega)];refine qbg (head _ _) ?_;simp only[hP,decide_false]at hc;generalize kc l=c0 at hc⊢
    generalize (((i+j)/2+1:Nat):Int)=gv1 at*
    generalize (((i+j)/2:Nat):Int)=gv2 at*
    generalize ((i+j:Nat):Int)=gv3 at*
    generalize (i:Int)=gv4 at*
    generalize (j:Int)=gv5 at*
    simp[qkq,qo9,qtD,qtC,qtB,hij',m1,m2,m3,m4,qck,qcw];rw[hc];simp
  ·rw[if_neg hij]
   have:i=j:=by omega
   subst this;exact stop i
theorem qxR(l:List T)(a:Nat)(hn:l.length<=1099511627776)(ha:a<l.length)(hb:∀t,t∈l->t.inner<=1099511627776):∀(k i j:Nat),i<=j->j-i<=k->j<=l.length->
 qbp XV [70,74,122,126] 1 [0,2,4,14,15] qkp ⟨[(0,.tsl true 0 3 l.length),(2,.d (.int .i64 a)),(4,.fn 6 []),(14,.d (.int .i64 i)),(15,.d (.int .i64 j))],[some (kc l)]⟩=
  some (.exit 4,⟨[(0,.tsl true 0 3 l.length),(2,.d (.int .i64 a)),(4,.fn 6 []),(14,.d (.int .i64 (bs (fun h=> !decide (T.cmp (tAt l a) (tAt l h)<0)) k i j:Nat))),(15,.d (.int .i64 (bs (fun h=> !decide (T.cmp (tAt l a) (tAt l h)<0)) k i j:Nat))),(85,.d (.bool false))],[some (kc l)]⟩):=by
 have head:∀(i j:Nat),qal 1 [0,2,4,14,15] ⟨[(0,.tsl true 0 3 l.length),(2,.d (.int .i64 a)),(4,.fn 6 []),(14,.d (.int .i64 i)),(15,.d (.int .i64 j))],[some (kc l)]⟩=some ⟨[(0,.tsl true 0 3 l.length),(2,.d (.int .i64 a)),(4,.fn 6 []),(14,.d (.int .i64 i)),(15,.d (.int .i64 j))],[some (kc l)]⟩:=fun i j=>by
  simp[qal,qaf,qaK,qcC,qbd]
 have stop:∀i:Nat,qbp XV [70,74,122,126] 1 [0,2,4,14,15] qkp ⟨[(0,.tsl true 0 3 l.length),(2,.d (.int .i64 a)),(4,.fn 6 []),(14,.d (.int .i64 i)),(15,.d (.int .i64 i))],[some (kc l)]⟩=
  some (.exit 4,⟨[(0,.tsl true 0 3 l.length),(2,.d (.int .i64 a)),(4,.fn 6 []),(14,.d (.int .i64 i)),(15,.d (.int .i64 i)),(85,.d (.bool false))],[some (kc l)]⟩):=fun i=>by
  refine qaG (head _ _) ?_ (by simp);simp[qkp,qk1]
 intro k
 induction k with
 |zero=>
  intro i j h hk hj;have:i=j:=by omega
  subst this;exact stop i
 |succ k ih=>
  intro i j h hk hj;simp only[bs]
  by_cases hij:i<j
  ·rw[if_pos hij]
   obtain⟨m1,m2,m3,m4⟩:=qfW i j (by omega);have hc:=qvN l a ((i+j)/2) hn ha (by omega) hb i j;have hw:=qaF (n:=(i+j)/2) (by omega);have hij':(i:Int)<j:=by omega
   by_cases hP:¬T.cmp (tAt l a) (tAt l ((i+j)/2))<0
   ·rw[if_pos (by simpa using hP)]
    rw[<-ih ((i+j)/2+1) j (by omega) (by omega) hj];refine qbg (head _ _) ?_;simp only[hP,decide_false,Bool.not_false]at hc;generalize kc l=c0 at hc⊢
    generalize (((i+j)/2+1:Nat):Int)=gv1 at*
    generalize (((i+j)/2:Nat):Int)=gv2 at*
    generalize ((i+j:Nat):Int)=gv3 at*
    generalize (i:Int)=gv4 at*
    generalize (j:Int)=gv5 at*
    simp[qkp,qk1,qn8,qn7,qn6,hij',m1,m2,m3,m4,qck,qcw];rw[hc];simp[hw]
   ·rw[if_neg (by simpa using hP)]
    rw[<-ih i ((i+j)/2) (by omega) (by omega) (by omega)];refine qbg (head _ _) ?_;simp only[Classical.not_not.1 hP,decide_true,Bool.not_true]at hc;generalize kc l=c0 at hc⊢
    generalize (((i+j)/2+1:Nat):Int)=gv1 at*
    generalize (((i+j)/2:Nat):Int)=gv2 at*
    generalize ((i+j:Nat):Int)=gv3 at*
    generalize (i:Int)=gv4 at*
    generalize (j:Int)=gv5 at*
    simp[qkp,qk1,qn8,qn7,qn6,hij',m1,m2,m3,m4,qck,qcw];rw[hc];simp
  ·rw[if_neg hij]
   have:i=j:=by omega
   subst this;exact stop i
theorem qxQ(l:List T)(p:Nat)(x1 x2 x3 x18 x19:Int)(hn:l.length<=1099511627776)(hpp:p<=4398046511104)(hb:∀t,t∈l->t.inner<=1099511627776):∀(k i j:Nat),i<=j->j-i<=k->j<=l.length->(∀c,i<=c->c<j->c<=p/\p-c<l.length)->
 qbp XV [70,74,122,126] 1 [0,1,2,3,4,18,19,20,21,22] qgm ⟨[(0,.tsl true 0 3 l.length),(1,.d (.int .i64 x1)),(2,.d (.int .i64 x2)),(3,.d (.int .i64 x3)),(4,.fn 6 []),(18,.d (.int .i64 x18)),(19,.d (.int .i64 x19)),(20,.d (.int .i64 i)),(21,.d (.int .i64 j)),(22,.d (.int .i64 p))],[some (kc l)]⟩=
  some (.exit 8,⟨[(0,.tsl true 0 3 l.length),(1,.d (.int .i64 x1)),(2,.d (.int .i64 x2)),(3,.d (.int .i64 x3)),(4,.fn 6 []),(18,.d (.int .i64 x18)),(19,.d (.int .i64 x19)),(20,.d (.int .i64 (bs (fun c=> !decide (T.cmp (tAt l (p-c)) (tAt l c)<0)) k i j:Nat))),(21,.d (.int .i64 (bs (fun c=> !decide (T.cmp (tAt l (p-c)) (tAt l c)<0)) k i j:Nat))),(22,.d (.int .i64 p)),(151,.d (.bool false))],[some (kc l)]⟩):=by
 have head:∀(i j:Nat),qal 1 [0,1,2,3,4,18,19,20,21,22] ⟨[(0,.tsl true 0 3 l.length),(1,.d (.int .i64 x1)),(2,.d (.int .i64 x2)),(3,.d (.int .i64 x3)),(4,.fn 6 []),(18,.d (.int .i64 x18)),(19,.d (.int .i64 x19)),(20,.d (.int .i64 i)),(21,.d (.int .i64 j)),(22,.d (.int .i64 p))],[some (kc l)]⟩=some ⟨[(0,.tsl true 0 3 l.length),(1,.d (.int .i64 x1)),(2,.d (.int .i64 x2)),(3,.d (.int .i64 x3)),(4,.fn 6 []),(18,.d (.int .i64 x18)),(19,.d (.int .i64 x19)),(20,.d (.int .i64 i)),(21,.d (.int .i64 j)),(22,.d (.int .i64 p))],[some (kc l)]⟩:=fun i j=>by
  simp[qal,qaf,qaK,qcC,qbd]
 have stop:∀i:Nat,qbp XV [70,74,122,126] 1 [0,1,2,3,4,18,19,20,21,22] qgm ⟨[(0,.tsl true 0 3 l.length),(1,.d (.int .i64 x1)),(2,.d (.int .i64 x2)),(3,.d (.int .i64 x3)),(4,.fn 6 []),(18,.d (.int .i64 x18)),(19,.d (.int .i64 x19)),(20,.d (.int .i64 i)),(21,.d (.int .i64 i)),(22,.d (.int .i64 p))],[some (kc l)]⟩=
  some (.exit 8,⟨[(0,.tsl true 0 3 l.length),(1,.d (.int .i64 x1)),(2,.d (.int .i64 x2)),(3,.d (.int .i64 x3)),(4,.fn 6 []),(18,.d (.int .i64 x18)),(19,.d (.int .i64 x19)),(20,.d (.int .i64 i)),(21,.d (.int .i64 i)),(22,.d (.int .i64 p)),(151,.d (.bool false))],[some (kc l)]⟩):=fun i=>by
  refine qaG (head _ _) ?_ (by simp);simp[qgm,qkY]
 intro k
 induction k with
 |zero=>
  intro i j h hk hj hR;have:i=j:=by omega
  subst this;exact stop i
 |succ k ih=>
  intro i j h hk hj hR;simp only[bs]
  by_cases hij:i<j
  ·rw[if_pos hij]
   obtain⟨m1,m2,m3,m4⟩:=qfW i j (by omega);have hc:=qvM l p ((i+j)/2) hn (hR _ (by omega) (by omega)).1 (hR _ (by omega) (by omega)).2 (by omega) hpp hb x1 x2 x3 x18 x19 i j;have hw:=qaF (n:=(i+j)/2) (by omega);have hij':(i:Int)<j:=by omega
   by_cases hP:¬T.cmp (tAt l (p-(i+j)/2)) (tAt l ((i+j)/2))<0
   ·rw[if_pos (by simpa using hP)]
    rw[<-ih ((i+j)/2+1) j (by omega) (by omega) hj (fun c h1 h2=>hR c (by omega) h2)];refine qbg (head _ _) ?_;simp only[hP,decide_false,Bool.not_false]at hc;generalize kc l=c0 at hc⊢
    generalize (((i+j)/2+1:Nat):Int)=gv1 at*
    generalize (((i+j)/2:Nat):Int)=gv2 at*
    generalize ((i+j:Nat):Int)=gv3 at*
    generalize (i:Int)=gv4 at*
    generalize (j:Int)=gv5 at*
    simp[qgm,qkY,qnZ,qnY,qnX,hij',m1,m2,m3,m4,qck,qcw];rw[hc];simp[hw]
   ·rw[if_neg (by simpa using hP)]
    rw[<-ih i ((i+j)/2) (by omega) (by omega) (by omega) (fun c h1 h2=>hR c h1 (by omega))];refine qbg (head _ _) ?_;simp only[Classical.not_not.1 hP,decide_true,Bool.not_true]at hc;generalize kc l=c0 at hc⊢
    generalize (((i+j)/2+1:Nat):Int)=gv1 at*
    generalize (((i+j)/2:Nat):Int)=gv2 at*
    generalize ((i+j:Nat):Int)=gv3 at*
    generalize (i:Int)=gv4 at*
    generalize (j:Int)=gv5 at*
    simp[qgm,qkY,qnZ,qnY,qnX,hij',m1,m2,m3,m4,qck,qcw];rw[hc];simp
  ·rw[if_neg hij]
   have:i=j:=by omega
   subst this;exact stop i
end Go.Proofs.Ytfiakfiocdfpbaa.VS
namespace Go.Proofs.Ytfiakfiocdfpbaa.VS
theorem right_step(A Y Z:List T)(x:T)(s:Nat)(hs:s<Y.length):swp (A++Y.take s++x::(Y.drop s++Z)) (A.length+s+1) (A.length+s)=A++Y.take (s+1)++x::(Y.drop (s+1)++Z):=by
 have hl:(A++Y.take s).length=A.length+s:=by simp;omega
 rw[<-List.take_append_getElem hs,List.drop_eq_getElem_cons hs,qoQ _ _ _ (by omega),<-hl];have:=qkE (A++Y.take s) [] (Y.drop (s+1)++Z) x Y[s] ((A++Y.take s).length+1) rfl;simp only[List.nil_append]at this;rw[show Y[s]::Y.drop (s+1)++Z=Y[s]::(Y.drop (s+1)++Z)from rfl,this];simp only[List.append_assoc,List.cons_append,List.nil_append]
theorem qqC(A Y Z:List T)(x:T)(N a:Nat)(hA:A.length=a)(hN:(A++x::(Y++Z)).length=N)(hn:N<=1099511627776):
 qbp XV [70,74,122,126] 1 [0,10,13] qne ⟨[(0,.tsl true 0 3 N),(10,.d (.int .i64 (a+1+Y.length:Nat))),(13,.d (.int .i64 a))],[some (kc (A++x::(Y++Z)))]⟩=
  some (.exit 2,⟨[(0,.tsl true 0 3 N),(10,.d (.int .i64 (a+1+Y.length:Nat))),(13,.d (.int .i64 (a+Y.length:Nat))),(58,.d (.bool false))],[some (kc (A++Y++x::Z))]⟩):=by
 have hNl:A.length+1+Y.length+Z.length=N:=by rw[<-hN];simp;omega
 have hlen:∀s,(A++Y.take s++x::(Y.drop s++Z)).length=N:=fun s=>by simp;omega
 have hw1:IntKind.i64.wrap (((a+1+Y.length:Nat):Int)-1)=((a+Y.length:Nat):Int):=by rw[wrap_i64 (by omega) (by omega)];omega
 have h:=qa2 (X:=XV) (T:=[70,74,122,126]) (L:=1) (live:=[0,10,13]) (b:=qne) (n:=Y.length) (γ:=Unit) (st:=fun(_:Unit) s=>⟨[(0,.tsl true 0 3 N),(10,.d (.int .i64 (a+1+Y.length:Nat))),(13,.d (.int .i64 (a+s:Nat)))],[some (kc (A++Y.take s++x::(Y.drop s++Z)))]⟩) (step:=fun _ _=> .inl ())
  (F:=fun _=>(.exit 2,⟨[(0,.tsl true 0 3 N),(10,.d (.int .i64 (a+1+Y.length:Nat))),(13,.d (.int .i64 (a+Y.length:Nat))),(58,.d (.bool false))],[some (kc (A++Y.take Y.length++x::(Y.drop Y.length++Z)))]⟩)) (R:=fun _=>(.ret,⟨[],[]⟩))
  (fun _=>⟨by simp,by
   generalize ((a+1+Y.length:Nat):Int)=gv1 at*
   generalize ((a+Y.length:Nat):Int)=gv2 at*
   simp[qne,qtA,hw1]⟩)
  (fun _ s hs=>by
   have hsw:=qwN (A++Y.take s++x::(Y.drop s++Z)) (a+s) (by rw[hlen];exact hn) (by rw[hlen];omega) (a+1+Y.length:Nat);rw[<-hA,right_step A Y Z x s hs,hA,hlen]at hsw;have hw:=qaF (n:=a+s) (by omega);have hlt:((a+s:Nat):Int)<((a+Y.length:Nat):Int):=by omega
   generalize hc2:kc (A++Y.take (s+1)++x::(Y.drop (s+1)++Z))=c2 at hsw;generalize kc (A++Y.take s++x::(Y.drop s++Z))=c1 at hsw⊢
   exact⟨⟨[(0,.tsl true 0 3 N),(10,.d (.int .i64 (a+1+Y.length:Nat))),(13,.d (.int .i64 (a+s+1:Nat)))],[some c2]⟩,by
    generalize ((a+s+1:Nat):Int)=gv3 at*
    generalize ((a+s:Nat):Int)=gv4 at*
    generalize ((a+1+Y.length:Nat):Int)=gv1 at*
    generalize ((a+Y.length:Nat):Int)=gv2 at*
    simp[qne,qtA,qtM,hw1,hlt];rw[hsw];simp[hw],by rw[<-hc2];simp[qal,qaf,qaK];omega⟩)
  Y.length () 0 ⟨[(0,.tsl true 0 3 N),(10,.d (.int .i64 (a+1+Y.length:Nat))),(13,.d (.int .i64 a))],[some (kc (A++x::(Y++Z)))]⟩ (by omega) (by simp[qal,qaf,qaK])
 rw[qjN,List.take_length,List.drop_length,List.nil_append]at h;exact h
theorem left_step(A X Z:List T)(y:T)(n:Nat)(hn:n<X.length):swp (A++X.take (n+1)++y::(X.drop (n+1)++Z)) (A.length+n) (A.length+n+1)=A++X.take n++y::(X.drop n++Z):=by
 have hl:(A++X.take n).length=A.length+n:=by simp;omega
 rw[<-List.take_append_getElem hn,List.drop_eq_getElem_cons hn,<-hl];have:=qkE (A++X.take n) [] (X.drop (n+1)++Z) X[n] y ((A++X.take n).length+1) rfl;simp only[List.nil_append]at this;rw[show A++(X.take n++[X[n]])++y::(X.drop (n+1)++Z)=A++X.take n++X[n]::y::(X.drop (n+1)++Z)by simp only[List.append_assoc,List.cons_append,List.nil_append],this];simp only[List.append_assoc,List.cons_append,List.nil_append]
theorem quG(A X Z:List T)(y:T)(N a:Nat)(hA:A.length=a)(hN:(A++X++y::Z).length=N)(hn:N<=1099511627776):
 qbp XV [70,74,122,126] 1 [0,14,17] qnd ⟨[(0,.tsl true 0 3 N),(14,.d (.int .i64 a)),(17,.d (.int .i64 (a+X.length:Nat)))],[some (kc (A++X++y::Z))]⟩=
  some (.exit 6,⟨[(0,.tsl true 0 3 N),(14,.d (.int .i64 a)),(17,.d (.int .i64 a)),(110,.d (.bool false))],[some (kc (A++y::(X++Z)))]⟩):=by
 have hNl:A.length+X.length+(Z.length+1)=N:=by rw[<-hN];simp;omega
 have hlen:∀s,(A++X.take s++y::(X.drop s++Z)).length=N:=fun s=>by simp;omega
 have h:=qa2 (X:=XV) (T:=[70,74,122,126]) (L:=1) (live:=[0,14,17]) (b:=qnd) (n:=X.length) (γ:=Unit) (st:=fun(_:Unit) s=>⟨[(0,.tsl true 0 3 N),(14,.d (.int .i64 a)),(17,.d (.int .i64 (a+(X.length-s):Nat)))],[some (kc (A++X.take (X.length-s)++y::(X.drop (X.length-s)++Z)))]⟩) (step:=fun _ _=> .inl ())
  (F:=fun _=>(.exit 6,⟨[(0,.tsl true 0 3 N),(14,.d (.int .i64 a)),(17,.d (.int .i64 a)),(110,.d (.bool false))],[some (kc (A++X.take 0++y::(X.drop 0++Z)))]⟩)) (R:=fun _=>(.ret,⟨[],[]⟩))
  (fun _=>⟨by simp,by
   rw[Nat.sub_self,Nat.add_zero];simp[qnd,qn5]⟩)
  (fun _ s hs=>by
   obtain⟨n,hnn⟩:∃n,X.length-s=n+1:=⟨X.length-s-1,by omega⟩;have hn1:X.length-(s+1)=n:=by omega
   have hsw:=qwM (A++X.take (n+1)++y::(X.drop (n+1)++Z)) (a+n) (by rw[hlen];exact hn) (by rw[hlen];omega) a;rw[<-hA,left_step A X Z y n (by omega),hA,hlen]at hsw;have hw:IntKind.i64.wrap (((a+n+1:Nat):Int)-1)=((a+n:Nat):Int):=by rw[wrap_i64 (by omega) (by omega)];omega
   have hlt:(a:Int)<((a+n+1:Nat):Int):=by omega
   rw[hnn,show a+(n+1)=a+n+1 by omega];generalize hc2:kc (A++X.take n++y::(X.drop n++Z))=c2 at hsw;generalize kc (A++X.take (n+1)++y::(X.drop (n+1)++Z))=c1 at hsw⊢
   exact⟨⟨[(0,.tsl true 0 3 N),(14,.d (.int .i64 a)),(17,.d (.int .i64 (a+n:Nat)))],[some c2]⟩,by
    generalize ((a+n+1:Nat):Int)=gv3 at*
    generalize ((a+n:Nat):Int)=gv4 at*
    simp[qnd,qn5,qtI,hlt];rw[hsw];simp[hw],by rw[<-hc2];simp[qal,qaf,qaK,hn1]⟩)
  X.length () 0 ⟨[(0,.tsl true 0 3 N),(14,.d (.int .i64 a)),(17,.d (.int .i64 (a+X.length:Nat)))],[some (kc (A++X++y::Z))]⟩ (by omega) (by simp[qal,qaf,qaK])
 rw[qjN]at h;simpa using h
end Go.Proofs.Ytfiakfiocdfpbaa.VS
namespace Go.Proofs.Ytfiakfiocdfpbaa.VS
theorem qAN{S:List T}(h:Srt S){p:T}(hp:p∈S):∃s,S.getLast?=some s/\tle p s:=by
 have hne:S≠[]:=fun he=>by rw[he]at hp;simp at hp
 refine⟨S.getLast hne,List.getLast?_eq_some_getLast hne,?_⟩
 by_cases he:p=S.getLast hne
 ·rw[he];exact qoO _
 ·have hd:p∈S.dropLast:=by
   have:=List.dropLast_concat_getLast hne;rw[<-this]at hp;rcases List.mem_append.1 hp with h|h
   ·exact h
   ·simp at h;exact absurd h he
  have hp':(S.dropLast++[S.getLast hne]).Pairwise tle:=by rw[List.dropLast_concat_getLast];exact h
  exact(List.pairwise_append.1 hp').2.2 p hd _ (by simp)
theorem qAR{S:List T}(h:Srt S){p:T}(hp:p∈S):∃s,S.head?=some s/\tle s p:=by
 cases S with
 |nil=>simp at hp
 |cons x r=>
  refine⟨x,rfl,?_⟩;rcases List.mem_cons.1 hp with rfl|hp
  ·exact qoO _
  ·exact(List.pairwise_cons.1 h).1 p hp
theorem qxD{S R:List T}(hS:Srt S)(hR:Srt R)(h:∀s r,S.getLast?=some s->R.head?=some r->tle s r):∀p,p∈S->∀q,q∈R->tle p q:=by
 intro p hp q hq;obtain⟨s,h1,h2⟩:=qAN hS hp;obtain⟨r,h3,h4⟩:=qAR hR hq;exact qfE (qfE h2 (h s r h1 h3)) h4
theorem qsP{S1 S2:List T}{x:T}(h:Srt (S1++S2))(h1:∀s,S1.getLast?=some s->tle s x)(h2:∀s,S2.head?=some s->tle x s):Srt (S1++x::S2):=by
 obtain⟨p1,p2,p3⟩:=List.pairwise_append.1 h;have c1:=qxD (S:=S1) (R:=[x]) p1 (List.pairwise_singleton _ _) (fun s r hs hr=>by simp at hr;subst hr;exact h1 s hs);have c2:=qxD (S:=[x]) (R:=S2) (List.pairwise_singleton _ _) p2 (fun s r hs hr=>by simp at hs;subst hs;exact h2 r hr);refine List.pairwise_append.2 ⟨p1,List.pairwise_cons.2 ⟨fun q hq=>c2 x (by simp) q hq,p2⟩,fun p hp q hq=> ?_⟩;rcases List.mem_cons.1 hq with rfl|hq
 ·exact c1 p hp _ (by simp)
 ·exact p3 p hp q hq
theorem qoP(A X R:List T)(q:Nat)(hq:q<X.length):tAt (A++X++R) (A.length+q)=tAt X q:=by
 unfold tAt;rw[List.append_assoc,List.getElem?_append_right (by omega),Nat.add_sub_cancel_left,List.getElem?_append_left hq]
theorem qfG{X:List T}{t:Nat}{s:T}(ht:t<=X.length)(h:(X.take t).getLast?=some s):0<t/\s=tAt X (t-1):=by
 rw[List.getLast?_eq_getElem?,List.length_take,Nat.min_eq_left ht]at h;have hlt:=(List.getElem?_eq_some_iff.1 h).1;simp at hlt;rw[List.getElem?_take]at h;split at h
 ·exact⟨by omega,by simp[tAt,h]⟩
 ·simp at h
theorem qgd{X:List T}{t:Nat}{s:T}(h:(X.drop t).head?=some s):t<X.length/\s=tAt X t:=by
 rw[List.head?_drop]at h;exact⟨(List.getElem?_eq_some_iff.1 h).1,by simp[tAt,h]⟩
theorem quw(A Y Z:List T)(x:T)(a m b N:Nat)(ha:a=A.length)(hm:m=a+1)(hb:b=m+Y.length)(hN:N=(A++x::(Y++Z)).length)(hn:N<=1099511627776)(hin:∀t,t∈A++x::(Y++Z)->t.inner<=1099511627776)(hY:Srt Y):
 ∃W:List T,W.Perm (x::Y)/\Srt W/\qai XV 173 [.tsl true 0 3 N,.d (.int .i64 a),.d (.int .i64 m),.d (.int .i64 b),.fn 6 []] [some (kc (A++x::(Y++Z)))]=some (.d (.tup []),[some (kc (A++W++Z))]):=by
 have hNl:A.length+1+Y.length+Z.length=N:=by rw[hN];simp;omega
 have hlo:=qxS (A++x::(Y++Z)) a (by rw[<-hN];exact hn) (by rw[<-hN];omega) hin Y.length m b (by omega) (by omega) (by rw[<-hN];omega);have hxa:tAt (A++x::(Y++Z)) a=x:=qpC _ _ _ _ ha;have hat:∀q,q<Y.length->tAt (A++x::(Y++Z)) (m+q)=tAt Y q:=fun q hq=>by
  have:=qoP (A++[x]) Y Z q hq;simp only[List.length_append,List.length_cons,List.length_nil,List.append_assoc,List.cons_append,List.nil_append]at this;rw[hm,ha];exact this
 obtain⟨s1,s2,s3,s4⟩:=qje (fun h=>decide (T.cmp (tAt (A++x::(Y++Z)) h) (tAt (A++x::(Y++Z)) a)<0)) Y.length m b (by omega) (by omega);generalize bs (fun h=>decide (T.cmp (tAt (A++x::(Y++Z)) h) (tAt (A++x::(Y++Z)) a)<0)) Y.length m b=r at hlo s1 s2 s3 s4;rw[hxa]at s3 s4;obtain⟨t,rfl⟩:∃t,r=m+t:=⟨r-m,by omega⟩;have htl:t<=Y.length:=by omega
 have hY12:Y.take t++Y.drop t=Y:=List.take_append_drop _ _;have hl1:(Y.take t).length=t:=by simp;omega
 have hri:=qqC A (Y.take t) (Y.drop t++Z) x N a ha.symm (by rw[hN,<-List.append_assoc (Y.take t),hY12]) hn;rw[<-List.append_assoc (Y.take t),hY12,hl1,show a+1+t=m+t by omega]at hri;refine⟨Y.take t++x::Y.drop t,?_,qsP (by rw[hY12];exact hY) (fun s hs=> ?_) (fun s hs=> ?_),?_⟩
 ·refine List.perm_middle.trans ?_
  rw[hY12]
 ·obtain⟨h1,h2⟩:=qfG htl hs
  rcases s3 with s3|s3
  ·omega
  ·rw[show m+t-1=m+(t-1)by omega,hat _ (by omega)]at s3
   rw[h2];exact qdK (by simpa using s3)
 ·obtain⟨h1,h2⟩:=qgd hs
  rcases s4 with s4|s4
  ·omega
  ·rw[hat _ h1]at s4
   rw[h2];exact qcz (by simpa using s4)
 ·have hfin:A++(Y.take t++x::Y.drop t)++Z=A++Y.take t++x::(Y.drop t++Z):=by simp only[List.append_assoc,List.cons_append]
  rw[hfin];rw[qaE XV _ _ _ qwe rfl qh2 rfl];rw[<-hN]at hlo;have w1:IntKind.i64.wrap ((m:Int)-a)=1:=by rw[wrap_i64 (by omega) (by omega)];omega
  generalize kc (A++Y.take t++x::(Y.drop t++Z))=c2 at hri⊢
  generalize kc (A++x::(Y++Z))=c1 at hlo hri⊢
  generalize ((m+t:Nat):Int)=gv1 at*
  generalize ((a+t:Nat):Int)=gv2 at*
  simp[qwe,qmd,qym,qyl,w1];rw[hlo];simp[qyk];rw[hri];simp
end Go.Proofs.Ytfiakfiocdfpbaa.VS
namespace Go.Proofs.Ytfiakfiocdfpbaa.VS
theorem qqQ(A X Z:List T)(y:T)(a m b N:Nat)(ha:a=A.length)(hm:m=a+X.length)(hb:b=m+1)(hX2:2<=X.length)(hN:N=(A++X++y::Z).length)(hn:N<=1099511627776)(hin:∀t,t∈A++X++y::Z->t.inner<=1099511627776)(hX:Srt X):
 ∃W:List T,W.Perm (X++[y])/\Srt W/\qai XV 173 [.tsl true 0 3 N,.d (.int .i64 a),.d (.int .i64 m),.d (.int .i64 b),.fn 6 []] [some (kc (A++X++y::Z))]=some (.d (.tup []),[some (kc (A++W++Z))]):=by
 have hNl:A.length+X.length+(Z.length+1)=N:=by rw[hN];simp;omega
 have hlo:=qxR (A++X++y::Z) m (by rw[<-hN];exact hn) (by rw[<-hN];omega) hin X.length a m (by omega) (by omega) (by rw[<-hN];omega);have hxm:tAt (A++X++y::Z) m=y:=qpC _ _ _ _ (by simp;omega);have hat:∀q,q<X.length->tAt (A++X++y::Z) (a+q)=tAt X q:=fun q hq=>by rw[ha];exact qoP A X (y::Z) q hq
 obtain⟨s1,s2,s3,s4⟩:=qje (fun h=> !decide (T.cmp (tAt (A++X++y::Z) m) (tAt (A++X++y::Z) h)<0)) X.length a m (by omega) (by omega);generalize bs (fun h=> !decide (T.cmp (tAt (A++X++y::Z) m) (tAt (A++X++y::Z) h)<0)) X.length a m=r at hlo s1 s2 s3 s4;rw[hxm]at s3 s4;obtain⟨t,rfl⟩:∃t,r=a+t:=⟨r-a,by omega⟩;have htl:t<=X.length:=by omega
 have hX12:X.take t++X.drop t=X:=List.take_append_drop _ _;have hl1:(X.take t).length=t:=by simp;omega
 have hl2:(X.drop t).length=X.length-t:=by simp
 have hassoc:A++X.take t++X.drop t++y::Z=A++X++y::Z:=by rw[List.append_assoc A,hX12]
 have hri:=quG (A++X.take t) (X.drop t) Z y N (a+t) (by simp;omega) (by rw[hassoc,hN]) hn;rw[hassoc,hl2,show a+t+(X.length-t)=m by omega]at hri;refine⟨X.take t++y::X.drop t,?_,qsP (by rw[hX12];exact hX) (fun s hs=> ?_) (fun s hs=> ?_),?_⟩
 ·refine List.perm_middle.trans ?_
  rw[hX12];exact List.perm_append_comm (l₁:=[y]) (l₂:=X)
 ·obtain⟨h1,h2⟩:=qfG htl hs
  rcases s3 with s3|s3
  ·omega
  ·rw[show a+t-1=a+(t-1)by omega,hat _ (by omega)]at s3
   rw[h2];exact qcz (by simpa using s3)
 ·obtain⟨h1,h2⟩:=qgd hs
  rcases s4 with s4|s4
  ·omega
  ·rw[hat _ h1]at s4
   rw[h2];exact qdK (by simpa using s4)
 ·have hfin:A++(X.take t++y::X.drop t)++Z=A++X.take t++y::(X.drop t++Z):=by simp only[List.append_assoc,List.cons_append]
  rw[hfin];rw[qaE XV _ _ _ qwe rfl qh2 rfl];rw[<-hN]at hlo;have w1:IntKind.i64.wrap ((m:Int)-a)=(X.length:Int):=by rw[wrap_i64 (by omega) (by omega)];omega
  have n1:((X.length:Int)==1)=false:=by simp;omega
  have w2:IntKind.i64.wrap ((b:Int)-m)=1:=by rw[wrap_i64 (by omega) (by omega)];omega
  generalize kc (A++X.take t++y::(X.drop t++Z))=c2 at hri⊢
  generalize kc (A++X++y::Z)=c1 at hlo hri⊢
  generalize ((a+t:Nat):Int)=gv2 at*
  generalize (X.length:Int)=vx at*
  simp[qwe,qmd,qk2,qtL,qtK,w1,w2,n1];rw[hlo];simp[qtJ];rw[hri];simp
theorem qqP(N:Nat)(ga gm gb gmid gst vn ve:Int)(k0 k1 k2 k3:List AV)(w5:IntKind.i64.wrap (vn-gst)=ve)
 (hA:(gst<gm/\gm<ve/\qai XV 174 [.tsl true 0 3 N,.d (.int .i64 gst),.d (.int .i64 gm),.d (.int .i64 ve),.fn 6 []] [some k0]=some (.d (.tup []),[some k1]))\/(gst<gm/\¬gm<ve/\k0=k1)\/(¬gst<gm/\k0=k1))
 (hB:(ga<gst/\gst<gmid/\qai XV 173 [.tsl true 0 3 N,.d (.int .i64 ga),.d (.int .i64 gst),.d (.int .i64 gmid),.fn 6 []] [some k1]=some (.d (.tup []),[some k2]))\/(ga<gst/\¬gst<gmid/\k1=k2)\/(¬ga<gst/\k1=k2))
 (hC:(gmid<ve/\ve<gb/\qai XV 173 [.tsl true 0 3 N,.d (.int .i64 gmid),.d (.int .i64 ve),.d (.int .i64 gb),.fn 6 []] [some k2]=some (.d (.tup []),[some k3]))\/(gmid<ve/\¬ve<gb/\k2=k3)\/(¬gmid<ve/\k2=k3)) (x21 x22 x151:AV):
 ∃r',qax XV [70,74,122,126] (.seq (.region false 0 [0,1,2,3,4,18,20,24] qin) (.seq (.seq (.region false 0 [0,1,2,3,4,18,20,24,185] qim) (.cond (.t 185) (.region false 0 [0,1,3,4,18,20,24] qil) .skip)) (.seq (.seq (.region false 0 [0,1,3,4,18,20,24,199] qik) (.cond (.t 199) (.region false 0 [0,3,4,18,24] qij) .skip)) (.seq (.region false 0 [0,3,4,18,24,213] qii) (.cond (.t 213) (.region false 0 [] qih) .skip)))))
  ⟨[(0,.tsl true 0 3 N),(1,.d (.int .i64 ga)),(2,.d (.int .i64 gm)),(3,.d (.int .i64 gb)),(4,.fn 6 []),(18,.d (.int .i64 gmid)),(19,.d (.int .i64 vn)),(20,.d (.int .i64 gst)),(21,x21),(22,x22),(151,x151)],[some k0]⟩=some (.normal,⟨r',[some k3]⟩):=by
 rcases hA with⟨a1,a2,a3⟩|⟨a1,a2,rfl⟩|⟨a1,rfl⟩<;>rcases hB with⟨b1,b2,b3⟩|⟨b1,b2,rfl⟩|⟨b1,rfl⟩<;>rcases hC with⟨d1,d2,d3⟩|⟨d1,d2,rfl⟩|⟨d1,rfl⟩<;>
  exact⟨_,by simp[qin,qim,qil,qik,qij,qii,qih,w5, *];rfl⟩
theorem qod(N:Nat)(ga gm gb gmid gst vn vn1 vb vx vy vab:Int)(k0 k3:List AV)(w1:IntKind.i64.wrap (gm-ga)=vx)(n1:(vx==1)=false)(w2:IntKind.i64.wrap (gb-gm)=vy)(n2:(vy==1)=false)
 (m1:IntKind.i64.wrap (ga+gb)=vab) (m2:IntKind.u64.wrap vab=vab) (m3:vab.fdiv 2=gmid) (m4:IntKind.i64.wrap gmid=gmid) (w3:IntKind.i64.wrap (gmid+gm)=vn) (w4:IntKind.i64.wrap (vn-1)=vn1) (w6:gmid<gm->IntKind.i64.wrap (vn-gb)=vb)
 (hlo:qbp XV [70,74,122,126] 1 [0,1,2,3,4,18,19,20,21,22] qgm ⟨[(0,.tsl true 0 3 N),(1,.d (.int .i64 ga)),(2,.d (.int .i64 gm)),(3,.d (.int .i64 gb)),(4,.fn 6 []),(18,.d (.int .i64 gmid)),(19,.d (.int .i64 vn)),(20,.d (.int .i64 (if gmid<gm then vb else ga))),(21,.d (.int .i64 (if gmid<gm then gmid else gm))),(22,.d (.int .i64 vn1))],[some k0]⟩=
  some (.exit 8,⟨[(0,.tsl true 0 3 N),(1,.d (.int .i64 ga)),(2,.d (.int .i64 gm)),(3,.d (.int .i64 gb)),(4,.fn 6 []),(18,.d (.int .i64 gmid)),(19,.d (.int .i64 vn)),(20,.d (.int .i64 gst)),(21,.d (.int .i64 gst)),(22,.d (.int .i64 vn1)),(151,.d (.bool false))],[some k0]⟩))
 (tail:∃r',qax XV [70,74,122,126] (.seq (.region false 0 [0,1,2,3,4,18,20,24] qin) (.seq (.seq (.region false 0 [0,1,2,3,4,18,20,24,185] qim) (.cond (.t 185) (.region false 0 [0,1,3,4,18,20,24] qil) .skip)) (.seq (.seq (.region false 0 [0,1,3,4,18,20,24,199] qik) (.cond (.t 199) (.region false 0 [0,3,4,18,24] qij) .skip)) (.seq (.region false 0 [0,3,4,18,24,213] qii) (.cond (.t 213) (.region false 0 [] qih) .skip)))))
  ⟨[(0,.tsl true 0 3 N),(1,.d (.int .i64 ga)),(2,.d (.int .i64 gm)),(3,.d (.int .i64 gb)),(4,.fn 6 []),(18,.d (.int .i64 gmid)),(19,.d (.int .i64 vn)),(20,.d (.int .i64 gst)),(21,.d (.int .i64 gst)),(22,.d (.int .i64 vn1)),(151,.d (.bool false))],[some k0]⟩=some (.normal,⟨r',[some k3]⟩)):
 qai XV 173 [.tsl true 0 3 N,.d (.int .i64 ga),.d (.int .i64 gm),.d (.int .i64 gb),.fn 6 []] [some k0]=some (.d (.tup []),[some k3]):=by
 obtain⟨r',t1⟩:=tail;generalize hT:(.seq (.region false 0 [0,1,2,3,4,18,20,24] qin) (.seq (.seq (.region false 0 [0,1,2,3,4,18,20,24,185] qim) (.cond (.t 185) (.region false 0 [0,1,3,4,18,20,24] qil) .skip)) (.seq (.seq (.region false 0 [0,1,3,4,18,20,24,199] qik) (.cond (.t 199) (.region false 0 [0,3,4,18,24] qij) .skip)) (.seq (.region false 0 [0,3,4,18,24,213] qii) (.cond (.t 213) (.region false 0 [] qih) .skip)))):VCode)=code at t1;rw[qaE XV _ _ _ qwe rfl qh2 rfl];unfold qwe;rw[hT]
 by_cases hmm:gmid<gm
 ·have w6':=w6 hmm
  simp only[if_pos hmm]at hlo;simp[qmd,qk2,qn4,qn3,qn2,qn1,qtH,qtG,qn0,w1,n1,w2,n2,m1,m2,m3,m4,w3,w4,w6',hmm,qck,qcw];rw[hlo];simp[t1]
 ·simp only[if_neg hmm]at hlo
  simp[qmd,qk2,qn4,qn3,qn2,qn1,qtF,qtE,qn0,w1,n1,w2,n2,m1,m2,m3,m4,w3,w4,hmm,qck,qcw];rw[hlo];simp[t1]
theorem quv(A X1 X2 Y1 Y2 Z W1 W2:List T)(a m b mid st N:Nat)(ha:a=A.length)(hm:m=a+X1.length+X2.length)(hb:b=m+Y1.length+Y2.length)(hX:2<=X1.length+X2.length)(hY:2<=Y1.length+Y2.length)
 (hmid:mid=(a+b)/2) (hst:st=a+X1.length) (h1:mid=st+Y1.length) (hN:N=(A++(X1++X2)++(Y1++Y2)++Z).length) (hn:N<=1099511627776)
 (hlo:∀(i j:Nat),(if mid<m then i=mid+m-b/\j=mid else i=a/\j=m)->qbp XV [70,74,122,126] 1 [0,1,2,3,4,18,19,20,21,22] qgm ⟨[(0,.tsl true 0 3 N),(1,.d (.int .i64 a)),(2,.d (.int .i64 m)),(3,.d (.int .i64 b)),(4,.fn 6 []),(18,.d (.int .i64 mid)),(19,.d (.int .i64 (mid+m:Nat))),(20,.d (.int .i64 i)),(21,.d (.int .i64 j)),(22,.d (.int .i64 (mid+m-1:Nat)))],[some (kc (A++(X1++X2)++(Y1++Y2)++Z))]⟩=
  some (.exit 8,⟨[(0,.tsl true 0 3 N),(1,.d (.int .i64 a)),(2,.d (.int .i64 m)),(3,.d (.int .i64 b)),(4,.fn 6 []),(18,.d (.int .i64 mid)),(19,.d (.int .i64 (mid+m:Nat))),(20,.d (.int .i64 st)),(21,.d (.int .i64 st)),(22,.d (.int .i64 (mid+m-1:Nat))),(151,.d (.bool false))],[some (kc (A++(X1++X2)++(Y1++Y2)++Z))]⟩))
 (hr:X2≠[]->Y1≠[]->qai XV 174 [.tsl true 0 3 N,.d (.int .i64 st),.d (.int .i64 m),.d (.int .i64 (m+Y1.length:Nat)),.fn 6 []] [some (kc (A++(X1++X2)++(Y1++Y2)++Z))]=some (.d (.tup []),[some (kc (A++(X1++Y1)++(X2++Y2)++Z))]))
 (h2:(X1≠[]/\Y1≠[])->qai XV 173 [.tsl true 0 3 N,.d (.int .i64 a),.d (.int .i64 st),.d (.int .i64 mid),.fn 6 []] [some (kc (A++(X1++Y1)++(X2++Y2)++Z))]=some (.d (.tup []),[some (kc (A++W1++(X2++Y2)++Z))]))
 (h2':¬(X1≠[]/\Y1≠[])->W1=X1++Y1)
 (h3:(X2≠[]/\Y2≠[])->qai XV 173 [.tsl true 0 3 N,.d (.int .i64 mid),.d (.int .i64 (m+Y1.length:Nat)),.d (.int .i64 b),.fn 6 []] [some (kc (A++W1++(X2++Y2)++Z))]=some (.d (.tup []),[some (kc (A++W1++W2++Z))]))
 (h3':¬(X2≠[]/\Y2≠[])->W2=X2++Y2):
 qai XV 173 [.tsl true 0 3 N,.d (.int .i64 a),.d (.int .i64 m),.d (.int .i64 b),.fn 6 []] [some (kc (A++(X1++X2)++(Y1++Y2)++Z))]=some (.d (.tup []),[some (kc (A++W1++W2++Z))]):=by
 have hNl:A.length+X1.length+X2.length+Y1.length+Y2.length+Z.length=N:=by rw[hN];simp;omega
 have ne:∀l:List T,l≠[]↔0<l.length:=fun l=>by cases l<;>simp
 have w1:IntKind.i64.wrap ((m:Int)-a)=((X1.length+X2.length:Nat):Int):=by rw[wrap_i64 (by omega) (by omega)];omega
 have n1:(((X1.length+X2.length:Nat):Int)==1)=false:=by simp;omega
 have w2:IntKind.i64.wrap ((b:Int)-m)=((Y1.length+Y2.length:Nat):Int):=by rw[wrap_i64 (by omega) (by omega)];omega
 have n2:(((Y1.length+Y2.length:Nat):Int)==1)=false:=by simp;omega
 obtain⟨m1,m2,m3,m4⟩:=qfW a b (by omega);rw[<-hmid]at m3 m4;have w3:IntKind.i64.wrap ((mid:Int)+m)=((mid+m:Nat):Int):=by rw[wrap_i64 (by omega) (by omega)];omega
 have w4:IntKind.i64.wrap (((mid+m:Nat):Int)-1)=((mid+m-1:Nat):Int):=by rw[wrap_i64 (by omega) (by omega)];omega
 have w5:IntKind.i64.wrap (((mid+m:Nat):Int)-st)=((m+Y1.length:Nat):Int):=by rw[wrap_i64 (by omega) (by omega)];omega
 have w6:mid<m->IntKind.i64.wrap (((mid+m:Nat):Int)-b)=((mid+m-b:Nat):Int):=fun h=>by rw[wrap_i64 (by omega) (by omega)];omega
 have hr':(X2≠[]/\Y1≠[])\/A++(X1++X2)++(Y1++Y2)++Z=A++(X1++Y1)++(X2++Y2)++Z:=by
  by_cases e1:X2=[]
  ·right;subst e1;simp
  ·by_cases e2:Y1=[]
   ·right;subst e2;simp
   ·exact .inl ⟨e1,e2⟩
 have c1:((st:Int)<m)↔X2≠[]:=by rw[ne];omega
 have c2:((m:Int)<((m+Y1.length:Nat):Int))↔Y1≠[]:=by rw[ne];omega
 have c3:((a:Int)<st)↔X1≠[]:=by rw[ne];omega
 have c4:((st:Int)<mid)↔Y1≠[]:=by rw[ne];omega
 have c5:((mid:Int)<((m+Y1.length:Nat):Int))↔X2≠[]:=by rw[ne];omega
 have c6:(((m+Y1.length:Nat):Int)<b)↔Y2≠[]:=by rw[ne];omega
 have step2:(¬(X1≠[]/\Y1≠[]))->kc (A++(X1++Y1)++(X2++Y2)++Z)=kc (A++W1++(X2++Y2)++Z):=fun h=>by rw[h2' h]
 have step3:(¬(X2≠[]/\Y2≠[]))->kc (A++W1++(X2++Y2)++Z)=kc (A++W1++W2++Z):=fun h=>by rw[h3' h]
 have step1:(¬(X2≠[]/\Y1≠[]))->kc (A++(X1++X2)++(Y1++Y2)++Z)=kc (A++(X1++Y1)++(X2++Y2)++Z):=fun h=>by
  rcases hr' with h1|h1
  ·exact absurd h1 h
  ·rw[h1]
 have hA:((st:Int)<m/\(m:Int)<((m+Y1.length:Nat):Int)/\qai XV 174 [.tsl true 0 3 N,.d (.int .i64 st),.d (.int .i64 m),.d (.int .i64 (m+Y1.length:Nat)),.fn 6 []] [some (kc (A++(X1++X2)++(Y1++Y2)++Z))]=some (.d (.tup []),[some (kc (A++(X1++Y1)++(X2++Y2)++Z))]))\/((st:Int)<m/\¬(m:Int)<((m+Y1.length:Nat):Int)/\kc (A++(X1++X2)++(Y1++Y2)++Z)=kc (A++(X1++Y1)++(X2++Y2)++Z))\/(¬(st:Int)<m/\kc (A++(X1++X2)++(Y1++Y2)++Z)=kc (A++(X1++Y1)++(X2++Y2)++Z)):=by
  by_cases e1:X2=[]
  ·exact .inr (.inr ⟨fun h=>(c1.1 h) e1,step1 fun h=>h.1 e1⟩)
  ·by_cases e2:Y1=[]
   ·exact .inr (.inl ⟨c1.2 e1,fun h=>(c2.1 h) e2,step1 fun h=>h.2 e2⟩)
   ·exact .inl ⟨c1.2 e1,c2.2 e2,hr e1 e2⟩
 have hB:((a:Int)<st/\(st:Int)<mid/\qai XV 173 [.tsl true 0 3 N,.d (.int .i64 a),.d (.int .i64 st),.d (.int .i64 mid),.fn 6 []] [some (kc (A++(X1++Y1)++(X2++Y2)++Z))]=some (.d (.tup []),[some (kc (A++W1++(X2++Y2)++Z))]))\/((a:Int)<st/\¬(st:Int)<mid/\kc (A++(X1++Y1)++(X2++Y2)++Z)=kc (A++W1++(X2++Y2)++Z))\/(¬(a:Int)<st/\kc (A++(X1++Y1)++(X2++Y2)++Z)=kc (A++W1++(X2++Y2)++Z)):=by
  by_cases e1:X1=[]
  ·exact .inr (.inr ⟨fun h=>(c3.1 h) e1,step2 fun h=>h.1 e1⟩)
  ·by_cases e2:Y1=[]
   ·exact .inr (.inl ⟨c3.2 e1,fun h=>(c4.1 h) e2,step2 fun h=>h.2 e2⟩)
   ·exact .inl ⟨c3.2 e1,c4.2 e2,h2 ⟨e1,e2⟩⟩
 have hC:((mid:Int)<((m+Y1.length:Nat):Int)/\((m+Y1.length:Nat):Int)<b/\qai XV 173 [.tsl true 0 3 N,.d (.int .i64 mid),.d (.int .i64 (m+Y1.length:Nat)),.d (.int .i64 b),.fn 6 []] [some (kc (A++W1++(X2++Y2)++Z))]=some (.d (.tup []),[some (kc (A++W1++W2++Z))]))\/((mid:Int)<((m+Y1.length:Nat):Int)/\¬((m+Y1.length:Nat):Int)<b/\kc (A++W1++(X2++Y2)++Z)=kc (A++W1++W2++Z))\/(¬(mid:Int)<((m+Y1.length:Nat):Int)/\kc (A++W1++(X2++Y2)++Z)=kc (A++W1++W2++Z)):=by
  by_cases e1:X2=[]
  ·exact .inr (.inr ⟨fun h=>(c5.1 h) e1,step3 fun h=>h.1 e1⟩)
  ·by_cases e2:Y2=[]
   ·exact .inr (.inl ⟨c5.2 e1,fun h=>(c6.1 h) e2,step3 fun h=>h.2 e2⟩)
   ·exact .inl ⟨c5.2 e1,c6.2 e2,h3 ⟨e1,e2⟩⟩
 refine qod N a m b mid st (mid+m:Nat) (mid+m-1:Nat) (mid+m-b:Nat) (X1.length+X2.length:Nat) (Y1.length+Y2.length:Nat) (a+b:Nat) _ _ w1 n1 w2 n2 m1 m2 m3 m4 w3 w4 (fun h=>w6 (by omega)) ?_ (qqP N a m b mid st (mid+m:Nat) (m+Y1.length:Nat) _ _ _ _ w5 hA hB hC _ _ _)
 by_cases h:mid<m
 ·have h':(mid:Int)<m:=by omega
  rw[if_pos h',if_pos h'];exact hlo (mid+m-b) mid (by rw[if_pos h];exact⟨rfl,rfl⟩)
 ·have h':¬(mid:Int)<m:=by omega
  rw[if_neg h',if_neg h'];exact hlo a m (by rw[if_neg h];exact⟨rfl,rfl⟩)
end Go.Proofs.Ytfiakfiocdfpbaa.VS
namespace Go.Proofs.Ytfiakfiocdfpbaa.VS
theorem qh6:∀(k:Nat) (A X Y Z:List T) (a m b N:Nat),X.length+Y.length<=k->0<X.length->0<Y.length->a=A.length->m=a+X.length->b=m+Y.length->N=(A++X++Y++Z).length->N<=1099511627776->(∀t,t∈A++X++Y++Z->t.inner<=1099511627776)->Srt X->Srt Y->
 ∃W:List T,W.Perm (X++Y)/\Srt W/\qai XV 173 [.tsl true 0 3 N,.d (.int .i64 a),.d (.int .i64 m),.d (.int .i64 b),.fn 6 []] [some (kc (A++X++Y++Z))]=some (.d (.tup []),[some (kc (A++W++Z))]):=by
 intro k
 induction k with
 |zero=>intro A X Y Z a m b N hk hx hy;omega
 |succ k ih=>
  intro A X Y Z a m b N hk hx hy ha hm hb hN hn hin hX hY;have hNl:A.length+X.length+Y.length+Z.length=N:=by rw[hN];simp;omega
  by_cases hx1:X.length=1
  ·obtain⟨x,rfl⟩:∃x,X=[x]:=List.length_eq_one_iff.1 hx1
   have e:A++[x]++Y++Z=A++x::(Y++Z):=by simp
   rw[e]at hN hin⊢
   obtain⟨W,w1,w2,w3⟩:=quw A Y Z x a m b N ha (by simpa using hm) hb hN hn hin hY;exact⟨W,by simpa using w1,w2,w3⟩
  by_cases hy1:Y.length=1
  ·obtain⟨y,rfl⟩:∃y,Y=[y]:=List.length_eq_one_iff.1 hy1
   have e:A++X++[y]++Z=A++X++y::Z:=by simp
   rw[e]at hN hin⊢
   exact qqQ A X Z y a m b N ha hm (by simpa using hb) (by omega) hN hn hin hX
  obtain⟨mid,hmid⟩:∃mid,mid=(a+b)/2:=⟨_,rfl⟩;have hxat:∀q,q<X.length->tAt (A++X++Y++Z) (a+q)=tAt X q:=fun q hq=>by
   rw[ha,List.append_assoc (A++X)];exact qoP A X (Y++Z) q hq
  have hyat:∀q,q<Y.length->tAt (A++X++Y++Z) (m+q)=tAt Y q:=fun q hq=>by
   have:=qoP (A++X) Y Z q hq;rw[List.length_append,<-ha,<-hm]at this;exact this
  have key:∀i j:Nat,(if mid<m then i=mid+m-b/\j=mid else i=a/\j=m)->∃st,i<=st/\st<=j/\(st=i\/tle (tAt (A++X++Y++Z) (st-1)) (tAt (A++X++Y++Z) (mid+m-1-(st-1))))/\(st=j\/tle (tAt (A++X++Y++Z) (mid+m-1-st)) (tAt (A++X++Y++Z) st))/\
   qbp XV [70,74,122,126] 1 [0,1,2,3,4,18,19,20,21,22] qgm ⟨[(0,.tsl true 0 3 N),(1,.d (.int .i64 a)),(2,.d (.int .i64 m)),(3,.d (.int .i64 b)),(4,.fn 6 []),(18,.d (.int .i64 mid)),(19,.d (.int .i64 (mid+m:Nat))),(20,.d (.int .i64 i)),(21,.d (.int .i64 j)),(22,.d (.int .i64 (mid+m-1:Nat)))],[some (kc (A++X++Y++Z))]⟩=
    some (.exit 8,⟨[(0,.tsl true 0 3 N),(1,.d (.int .i64 a)),(2,.d (.int .i64 m)),(3,.d (.int .i64 b)),(4,.fn 6 []),(18,.d (.int .i64 mid)),(19,.d (.int .i64 (mid+m:Nat))),(20,.d (.int .i64 st)),(21,.d (.int .i64 st)),(22,.d (.int .i64 (mid+m-1:Nat))),(151,.d (.bool false))],[some (kc (A++X++Y++Z))]⟩):=by
   intro i j hij;have hij2:i<=j/\j<=N/\∀c,i<=c->c<j->c<=mid+m-1/\mid+m-1-c<N:=by
    split at hij
    ·obtain⟨rfl,rfl⟩:=hij
     exact⟨by omega,by omega,fun c h1 h2=>by omega⟩
    ·obtain⟨rfl,rfl⟩:=hij
     exact⟨by omega,by omega,fun c h1 h2=>by omega⟩
   have hl:=qxQ (A++X++Y++Z) (mid+m-1) a m b mid (mid+m:Nat) (by rw[<-hN];exact hn) (by omega) hin (j-i) i j hij2.1 (Nat.le_refl _) (by rw[<-hN];exact hij2.2.1) (by rw[<-hN];exact hij2.2.2);obtain⟨s1,s2,s3,s4⟩:=qje (fun c=> !decide (T.cmp (tAt (A++X++Y++Z) (mid+m-1-c)) (tAt (A++X++Y++Z) c)<0)) (j-i) i j hij2.1 (Nat.le_refl _);rw[<-hN]at hl;refine⟨_,s1,s2,s3.imp_right fun h=>qcz (by simpa using h),s4.imp_right fun h=>qdK (by simpa using h),hl⟩
  obtain⟨i0,j0,hif⟩:∃i j:Nat,(if mid<m then i=mid+m-b/\j=mid else i=a/\j=m):=by
   by_cases h:mid<m
   ·exact⟨mid+m-b,mid,by rw[if_pos h];exact⟨rfl,rfl⟩⟩
   ·exact⟨a,m,by rw[if_neg h];exact⟨rfl,rfl⟩⟩
  obtain⟨st,q1,q2,q3,q4,hlo⟩:=key i0 j0 hif;clear key;have hb1:a<=st/\st<=m/\st<=mid/\m<=mid+m-st/\mid+m-st<=b:=by
   split at hif
   ·obtain⟨rfl,rfl⟩:=hif;omega
   ·obtain⟨rfl,rfl⟩:=hif;omega
  obtain⟨t,ht⟩:∃t,st=a+t:=⟨st-a,by omega⟩;obtain⟨u,hu⟩:∃u,mid+m-st=m+u:=⟨mid-st,by omega⟩;have htl:t<=X.length:=by omega
  have hul:u<=Y.length:=by omega
  have hX12:X.take t++X.drop t=X:=List.take_append_drop _ _;have hY12:Y.take u++Y.drop u=Y:=List.take_append_drop _ _;have lx1:(X.take t).length=t:=by simp;omega
  have lx2:(X.drop t).length=X.length-t:=by simp
  have ly1:(Y.take u).length=u:=by simp;omega
  have ly2:(Y.drop u).length=Y.length-u:=by simp
  have ne:∀l:List T,l≠[]->0<l.length:=fun l h=>List.length_pos_iff.2 h
  obtain⟨sx1,sx2,sx12⟩:=List.pairwise_append.1 (show Srt (X.take t++X.drop t)by rw[hX12];exact hX);obtain⟨sy1,sy2,sy12⟩:=List.pairwise_append.1 (show Srt (Y.take u++Y.drop u)by rw[hY12];exact hY);have F1:∀p,p∈X.take t->∀q,q∈Y.drop u->tle p q:=qxD sx1 sy2 fun s r hs hr=>by
   obtain⟨h1,h2⟩:=qfG htl hs;obtain⟨h3,h4⟩:=qgd hr;rcases q3 with q3|q3
   ·exfalso
    split at hif
    ·obtain⟨rfl,rfl⟩:=hif;omega
    ·obtain⟨rfl,rfl⟩:=hif;omega
   ·rw[show st-1=a+(t-1)by omega,hxat _ (by omega),show mid+m-1-(a+(t-1))=m+u by omega,hyat _ h3]at q3
    rw[h2,h4];exact q3
  have F2:∀p,p∈Y.take u->∀q,q∈X.drop t->tle p q:=qxD sy1 sx2 fun s r hs hr=>by
   obtain⟨h1,h2⟩:=qfG hul hs;obtain⟨h3,h4⟩:=qgd hr;rcases q4 with q4|q4
   ·exfalso
    split at hif
    ·obtain⟨rfl,rfl⟩:=hif;omega
    ·obtain⟨rfl,rfl⟩:=hif;omega
   ·rw[show mid+m-1-st=m+(u-1)by omega,hyat _ (by omega),show st=a+t from ht,hxat _ h3]at q4
    rw[h2,h4];exact q4
  generalize hX1:X.take t=X1 at*
  generalize hX2:X.drop t=X2 at*
  generalize hY1:Y.take u=Y1 at*
  generalize hY2:Y.drop u=Y2 at*
  clear hxat hyat q3 q4;subst hX12;subst hY12;have L:∃W1:List T,W1.Perm (X1++Y1)/\Srt W1/\((X1≠[]/\Y1≠[])->qai XV 173 [.tsl true 0 3 N,.d (.int .i64 a),.d (.int .i64 st),.d (.int .i64 mid),.fn 6 []] [some (kc (A++(X1++Y1)++(X2++Y2)++Z))]=some (.d (.tup []),[some (kc (A++W1++(X2++Y2)++Z))]))/\(¬(X1≠[]/\Y1≠[])->W1=X1++Y1):=by
   by_cases h:X1≠[]/\Y1≠[]
   ·obtain⟨W,w1,w2,w3⟩:=ih A X1 Y1 (X2++Y2++Z) a st mid N (by simp at hk hm hb;omega) (ne _ h.1) (ne _ h.2) ha (by omega) (by simp at hm hb;omega) (by simp at hNl⊢;omega) hn (fun x hx=>hin x (by
     simp only[List.mem_append]at hx⊢
     rcases hx with((h|h)|h)|((h|h)|h)<;>simp[h])) sx1 sy1
    refine⟨W,w1,w2,fun _=> ?_,fun h'=>absurd h h'⟩;have e1:A++(X1++Y1)++(X2++Y2)++Z=A++X1++Y1++(X2++Y2++Z):=by simp
    have e2:A++W++(X2++Y2)++Z=A++W++(X2++Y2++Z):=by simp
    rw[e1,e2];exact w3
   ·refine⟨X1++Y1,List.Perm.refl _,?_,fun h'=>absurd h' h,fun _=>rfl⟩
    by_cases e1:X1=[]
    ·subst e1;rw[List.nil_append];exact sy1
    ·by_cases e2:Y1=[]
     ·subst e2;rw[List.append_nil];exact sx1
     ·exact absurd ⟨e1,e2⟩ h
  obtain⟨W1,p1,s1,c1,c1'⟩:=L;have lw1:W1.length=X1.length+Y1.length:=by rw[p1.length_eq];simp
  have Rr:∃W2:List T,W2.Perm (X2++Y2)/\Srt W2/\((X2≠[]/\Y2≠[])->qai XV 173 [.tsl true 0 3 N,.d (.int .i64 mid),.d (.int .i64 (m+Y1.length:Nat)),.d (.int .i64 b),.fn 6 []] [some (kc (A++W1++(X2++Y2)++Z))]=some (.d (.tup []),[some (kc (A++W1++W2++Z))]))/\(¬(X2≠[]/\Y2≠[])->W2=X2++Y2):=by
   by_cases h:X2≠[]/\Y2≠[]
   ·obtain⟨W,w1,w2,w3⟩:=ih (A++W1) X2 Y2 Z mid (m+Y1.length) b N (by simp at hk hm hb;omega) (ne _ h.1) (ne _ h.2) (by simp at hm hb⊢;omega) (by simp at hm hb⊢;omega) (by simp at hm hb⊢;omega) (by simp at hNl⊢;omega) hn (fun x hx=>hin x (by
     simp only[List.mem_append]at hx⊢
     rcases hx with(((h|h)|h)|h)|h
     ·simp[h]
     ·have:=p1.mem_iff.1 h
      simp only[List.mem_append]at this;rcases this with h|h<;>simp[h]
     ·simp[h]
     ·simp[h]
     ·simp[h])) sx2 sy2
    refine⟨W,w1,w2,fun _=> ?_,fun h'=>absurd h h'⟩;have e1:A++W1++(X2++Y2)++Z=A++W1++X2++Y2++Z:=by simp
    rw[e1];exact w3
   ·refine⟨X2++Y2,List.Perm.refl _,?_,fun h'=>absurd h' h,fun _=>rfl⟩
    by_cases e1:X2=[]
    ·subst e1;rw[List.nil_append];exact sy2
    ·by_cases e2:Y2=[]
     ·subst e2;rw[List.append_nil];exact sx2
     ·exact absurd ⟨e1,e2⟩ h
  obtain⟨W2,p2,s2,c2,c2'⟩:=Rr;refine⟨W1++W2,?_,List.pairwise_append.2 ⟨s1,s2,fun p hp q hq=> ?_⟩,?_⟩
  ·refine(p1.append p2).trans ?_
   have:=List.perm_append_comm (l₁:=Y1) (l₂:=X2);have h3:=((List.Perm.refl X1).append (this.append (List.Perm.refl Y2)));simpa using h3
  ·have h1:=p1.mem_iff.1 hp
   have h2:=p2.mem_iff.1 hq;rcases List.mem_append.1 h1 with h1|h1<;>rcases List.mem_append.1 h2 with h2|h2
   ·exact sx12 p h1 q h2
   ·exact F1 p h1 q h2
   ·exact F2 p h1 q h2
   ·exact sy12 p h1 q h2
  ·have hrot:X2≠[]->Y1≠[]->qai XV 174 [.tsl true 0 3 N,.d (.int .i64 st),.d (.int .i64 m),.d (.int .i64 (m+Y1.length:Nat)),.fn 6 []] [some (kc (A++(X1++X2)++(Y1++Y2)++Z))]=some (.d (.tup []),[some (kc (A++(X1++Y1)++(X2++Y2)++Z))]):=fun h1 h2=>by
    have hro:=qsY (A++X1) X2 Y1 (Y2++Z) st m (m+Y1.length) N (by simp;omega) (by simp at hm⊢;omega) (by simp at hm⊢;omega) (by simp at hNl⊢;omega) hn (ne _ h1) (ne _ h2) (.fn 6 []) (by simp[AV.clr,AV.clrs]) (by simp[qcC,qbd]);have e1:A++(X1++X2)++(Y1++Y2)++Z=A++X1++X2++Y1++(Y2++Z):=by simp
    have e2:A++(X1++Y1)++(X2++Y2)++Z=A++X1++Y1++X2++(Y2++Z):=by simp
    rw[e1,e2];exact hro
   have hfin:A++(W1++W2)++Z=A++W1++W2++Z:=by simp
   rw[hfin];exact quv A X1 X2 Y1 Y2 Z W1 W2 a m b mid st N ha (by simp at hm;omega) (by simp at hb;omega) (by simp at hx1 hx;omega) (by simp at hy1 hy;omega) hmid (by omega) (by simp at hm hb;omega) hN hn (fun i j h=>by
    have:i=i0/\j=j0:=by
     split at h<;>split at hif<;>first|omega|skip
    rw[this.1,this.2];exact hlo) hrot c1 c1' c2 c2'
end Go.Proofs.Ytfiakfiocdfpbaa.VS
namespace Go.Proofs.Ytfiakfiocdfpbaa.VS
inductive Blk(s:Nat):List T->Prop where
 |last (l:List T):l.length<s->Srt l->Blk s l
 |cons (c r:List T):c.length=s->Srt c->Blk s r->Blk s (c++r)
theorem Blk.srt{s:Nat}{l:List T}(h:Blk s l)(hl:l.length<=s)(hs:0<s):Srt l:=by
 cases h with
 |last _ _ h2=>exact h2
 |cons c r h1 h2 h3=>
  have:r=[]:=List.length_eq_zero_iff.1 (by simp at hl;omega);subst this;rw[List.append_nil];exact h2
theorem qoD(N:Nat)(hn:N<=1099511627776):∀(k:Nat) (P R:List T),R.length<=k->(P++R).length=N->(∀t,t∈P++R->t.inner<=1099511627776)->
 ∃(R1 R2:List T) (a:Nat),R2.length<20/\a=P.length+R1.length/\a+R2.length=N/\(R1++R2).Perm R/\(∀Q,Blk 20 Q->Blk 20 (R1++Q))/\
  qbp XV [] 1 [0,1,2,6,7,8] qjg ⟨[(0,.tsl true 0 3 N),(1,.d (.int .i64 N)),(2,.fn 6 []),(6,.d (.int .i64 20)),(7,.d (.int .i64 P.length)),(8,.d (.int .i64 (P.length+20:Nat)))],[some (kc (P++R))]⟩=
   some (.exit 0,⟨[(0,.tsl true 0 3 N),(1,.d (.int .i64 N)),(2,.fn 6 []),(6,.d (.int .i64 20)),(7,.d (.int .i64 a)),(8,.d (.int .i64 (a+20:Nat))),(13,.d (.bool false))],[some (kc (P++R1++R2))]⟩):=by
 have head:∀(x y:Int) (c:List AV),qal 1 [0,1,2,6,7,8] ⟨[(0,.tsl true 0 3 N),(1,.d (.int .i64 N)),(2,.fn 6 []),(6,.d (.int .i64 20)),(7,.d (.int .i64 x)),(8,.d (.int .i64 y))],[some c]⟩=some ⟨[(0,.tsl true 0 3 N),(1,.d (.int .i64 N)),(2,.fn 6 []),(6,.d (.int .i64 20)),(7,.d (.int .i64 x)),(8,.d (.int .i64 y))],[some c]⟩:=fun x y c=>by
  simp[qal,qaf,qaK,qcC,qbd]
 have stop:∀(P R:List T),(P++R).length=N->R.length<20->qbp XV [] 1 [0,1,2,6,7,8] qjg ⟨[(0,.tsl true 0 3 N),(1,.d (.int .i64 N)),(2,.fn 6 []),(6,.d (.int .i64 20)),(7,.d (.int .i64 P.length)),(8,.d (.int .i64 (P.length+20:Nat)))],[some (kc (P++R))]⟩=
  some (.exit 0,⟨[(0,.tsl true 0 3 N),(1,.d (.int .i64 N)),(2,.fn 6 []),(6,.d (.int .i64 20)),(7,.d (.int .i64 P.length)),(8,.d (.int .i64 (P.length+20:Nat))),(13,.d (.bool false))],[some (kc (P++R))]⟩):=fun P R h1 h2=>by
  refine qaG (head _ _ _) ?_ (by simp);have hlt:¬(((P.length+20:Nat):Int)<=(N:Int)):=by simp at h1;omega
  generalize ((P.length+20:Nat):Int)=v at*
  generalize (N:Int)=w at*
  simp[qjg,qpc,hlt]
 intro k
 induction k with
 |zero=>
  intro P R hk hN hin;exact⟨[],R,P.length,by omega,by simp,by simpa using hN,by simp,fun Q h=>by simpa using h,by simpa using stop P R hN (by omega)⟩
 |succ k ih=>
  intro P R hk hN hin
  by_cases hR:R.length<20
  ·exact⟨[],R,P.length,hR,by simp,by simpa using hN,by simp,fun Q h=>by simpa using h,by simpa using stop P R hN hR⟩
  ·have hC:(R.take 20).length=20:=by simp;omega
   have hCR:R.take 20++R.drop 20=R:=List.take_append_drop _ _;have hD:(R.drop 20).length=R.length-20:=by simp
   generalize R.take 20=C at hC hCR;generalize R.drop 20=D at hD hCR;subst hCR;have hNl:P.length+C.length+D.length=N:=by simp at hN;omega
   have e0:P++(C++D)=P++C++D:=by simp
   obtain⟨W,w1,w2,w3⟩:=qf2 P C D P.length (P.length+20) N rfl (by omega) (by simp;omega) hn (fun t ht=>hin t (by rw[e0];exact ht));have hWl:W.length=20:=by rw[w1.length_eq,hC]
   have hPW:(P++W).length=P.length+20:=by simp;omega
   obtain⟨R1,R2,a,r1,r2,r3,r4,r5,r6⟩:=ih (P++W) D (by simp at hk;omega) (by simp;omega) (fun t ht=>hin t (by
    simp only[List.mem_append]at ht⊢
    rcases ht with(h|h)|h
    ·simp[h]
    ·simp[w1.mem_iff.1 h]
    ·simp[h]))
   refine⟨W++R1,R2,a,r1,by simp at r2⊢;omega,r3,?_,fun Q hQ=>by rw[List.append_assoc];exact .cons W _ hWl w2 (r5 Q hQ),?_⟩
   ·rw[List.append_assoc];exact w1.append r4
   ·have e1:P++(W++R1)++R2=P++W++R1++R2:=by simp
    rw[e1,<-r6,hPW,e0];refine qbg (head _ _ _) ?_;have hle:(((P.length+20:Nat):Int)<=(N:Int)):=by omega
    have hw:IntKind.i64.wrap (((P.length+20:Nat):Int)+20)=((P.length+20+20:Nat):Int):=by rw[wrap_i64 (by omega) (by omega)];omega
    generalize kc (P++C++D)=c1 at w3⊢
    generalize kc (P++W++D)=c2 at w3⊢
    generalize ((P.length+20+20:Nat):Int)=gv2 at*
    generalize ((P.length+20:Nat):Int)=v at*
    generalize (P.length:Int)=u at*
    generalize hgn:(N:Int)=w at*
    simp[qjg,qpc,qyp,qyo,qyn,hle,hw,w3]
theorem qup(N s:Nat)(hn:N<=1099511627776)(hs:0<s)(hs2:s<=1099511627776):∀(k:Nat) (P R:List T),R.length<=k->(P++R).length=N->(∀t,t∈P++R->t.inner<=1099511627776)->Blk s R->
 ∃(R1 R2:List T) (a:Nat),R2.length<2*s/\a=P.length+R1.length/\a+R2.length=N/\(R1++R2).Perm R/\Blk s R2/\(∀Q,Blk (2*s) Q->Blk (2*s) (R1++Q))/\
  qbp XV [] 1 [0,1,2,6,7,8] qng ⟨[(0,.tsl true 0 3 N),(1,.d (.int .i64 N)),(2,.fn 6 []),(6,.d (.int .i64 s)),(7,.d (.int .i64 P.length)),(8,.d (.int .i64 (P.length+2*s:Nat)))],[some (kc (P++R))]⟩=
   some (.exit 4,⟨[(0,.tsl true 0 3 N),(1,.d (.int .i64 N)),(2,.fn 6 []),(6,.d (.int .i64 s)),(7,.d (.int .i64 a)),(8,.d (.int .i64 (a+2*s:Nat))),(35,.d (.bool false))],[some (kc (P++R1++R2))]⟩):=by
 have head:∀(x y:Int) (c:List AV),qal 1 [0,1,2,6,7,8] ⟨[(0,.tsl true 0 3 N),(1,.d (.int .i64 N)),(2,.fn 6 []),(6,.d (.int .i64 s)),(7,.d (.int .i64 x)),(8,.d (.int .i64 y))],[some c]⟩=some ⟨[(0,.tsl true 0 3 N),(1,.d (.int .i64 N)),(2,.fn 6 []),(6,.d (.int .i64 s)),(7,.d (.int .i64 x)),(8,.d (.int .i64 y))],[some c]⟩:=fun x y c=>by
  simp[qal,qaf,qaK,qcC,qbd]
 have stop:∀(P R:List T),(P++R).length=N->R.length<2*s->qbp XV [] 1 [0,1,2,6,7,8] qng ⟨[(0,.tsl true 0 3 N),(1,.d (.int .i64 N)),(2,.fn 6 []),(6,.d (.int .i64 s)),(7,.d (.int .i64 P.length)),(8,.d (.int .i64 (P.length+2*s:Nat)))],[some (kc (P++R))]⟩=
  some (.exit 4,⟨[(0,.tsl true 0 3 N),(1,.d (.int .i64 N)),(2,.fn 6 []),(6,.d (.int .i64 s)),(7,.d (.int .i64 P.length)),(8,.d (.int .i64 (P.length+2*s:Nat))),(35,.d (.bool false))],[some (kc (P++R))]⟩):=fun P R h1 h2=>by
  refine qaG (head _ _ _) ?_ (by simp);have hlt:¬(((P.length+2*s:Nat):Int)<=(N:Int)):=by simp at h1;omega
  generalize ((P.length+2*s:Nat):Int)=v at*
  generalize (N:Int)=w at*
  simp[qng,qtQ,hlt]
 intro k
 induction k with
 |zero=>
  intro P R hk hN hin hB;exact⟨[],R,P.length,by omega,by simp,by simpa using hN,by simp,hB,fun Q h=>by simpa using h,by simpa using stop P R hN (by omega)⟩
 |succ k ih=>
  intro P R hk hN hin hB
  by_cases hR:R.length<2*s
  ·exact⟨[],R,P.length,hR,by simp,by simpa using hN,by simp,hB,fun Q h=>by simpa using h,by simpa using stop P R hN hR⟩
  ·obtain⟨C1,C2,D,rfl,l1,l2,b1,b2,b3⟩:∃C1 C2 D,R=C1++(C2++D)/\C1.length=s/\C2.length=s/\Srt C1/\Srt C2/\Blk s D:=by
    cases hB with
    |last _ h1 _=>omega
    |cons c r h1 h2 h3=>
     cases h3 with
     |last _ h4 _=>simp at hR;omega
     |cons c' r' h4 h5 h6=>exact⟨c,c',r',rfl,h1,h4,h2,h5,h6⟩
   have hNl:P.length+C1.length+C2.length+D.length=N:=by simp at hN;omega
   have e0:P++(C1++(C2++D))=P++C1++C2++D:=by simp
   obtain⟨W,w1,w2,w3⟩:=qh6 (C1.length+C2.length) P C1 C2 D P.length (P.length+s) (P.length+2*s) N (Nat.le_refl _) (by omega) (by omega) rfl (by omega) (by omega) (by simp;omega) hn (fun t ht=>hin t (by rw[e0];exact ht)) b1 b2;have hWl:W.length=2*s:=by rw[w1.length_eq];simp;omega
   have hPW:(P++W).length=P.length+2*s:=by simp;omega
   obtain⟨R1,R2,a,r1,r2,r3,r4,r5,r6,r7⟩:=ih (P++W) D (by simp at hk;omega) (by simp;omega) (fun t ht=>hin t (by
    simp only[List.mem_append]at ht⊢
    rcases ht with(h|h)|h
    ·simp[h]
    ·have:=w1.mem_iff.1 h
     simp only[List.mem_append]at this;rcases this with h|h<;>simp[h]
    ·simp[h])) b3
   refine⟨W++R1,R2,a,r1,by simp at r2⊢;omega,r3,?_,r5,fun Q hQ=>by rw[List.append_assoc];exact .cons W _ hWl w2 (r6 Q hQ),?_⟩
   ·rw[List.append_assoc]
    refine(w1.append r4).trans ?_;simp
   ·have e1:P++(W++R1)++R2=P++W++R1++R2:=by simp
    rw[e1,<-r7,hPW,e0];refine qbg (head _ _ _) ?_;have hle:(((P.length+2*s:Nat):Int)<=(N:Int)):=by omega
    have hw:IntKind.i64.wrap (((P.length+2*s:Nat):Int)+((2*s:Nat):Int))=((P.length+2*s+2*s:Nat):Int):=by rw[wrap_i64 (by omega) (by omega)];omega
    have hw2:IntKind.i64.wrap (2*(s:Int))=((2*s:Nat):Int):=by rw[wrap_i64 (by omega) (by omega)];omega
    have hw3:IntKind.i64.wrap ((P.length:Int)+s)=((P.length+s:Nat):Int):=by rw[wrap_i64 (by omega) (by omega)];omega
    generalize kc (P++C1++C2++D)=c1 at w3⊢
    generalize kc (P++W++D)=c2 at w3⊢
    generalize ((P.length+2*s+2*s:Nat):Int)=gv2 at*
    generalize ((P.length+2*s:Nat):Int)=v at*
    generalize ((P.length+s:Nat):Int)=gv3 at*
    generalize ((2*s:Nat):Int)=gv4 at*
    generalize (P.length:Int)=u at*
    generalize (s:Int)=gs at*
    generalize hgn:(N:Int)=w at*
    simp[qng,qtQ,qtV,qtU,qtT,hle,hw,hw2,hw3,w3]
end Go.Proofs.Ytfiakfiocdfpbaa.VS
namespace Go.Proofs.Ytfiakfiocdfpbaa.VS
theorem qqM(N:Nat)(hn:N<=1099511627776):∀(k s:Nat) (l:List T),N-s<=k->0<s->s<=2199023255552->l.length=N->(∀t,t∈l->t.inner<=1099511627776)->Blk s l->
 ∃(l':List T) (s':Nat),l'.Perm l/\Srt l'/\
  qbp XV [] 1 [0,1,2,6] qhB ⟨[(0,.tsl true 0 3 N),(1,.d (.int .i64 N)),(2,.fn 6 []),(6,.d (.int .i64 s))],[some (kc l)]⟩=
   some (.exit 2,⟨[(0,.tsl true 0 3 N),(1,.d (.int .i64 N)),(2,.fn 6 []),(6,.d (.int .i64 s')),(30,.d (.bool false))],[some (kc l')]⟩):=by
 have head:∀(x:Int) (c:List AV),qal 1 [0,1,2,6] ⟨[(0,.tsl true 0 3 N),(1,.d (.int .i64 N)),(2,.fn 6 []),(6,.d (.int .i64 x))],[some c]⟩=some ⟨[(0,.tsl true 0 3 N),(1,.d (.int .i64 N)),(2,.fn 6 []),(6,.d (.int .i64 x))],[some c]⟩:=fun x c=>by
  simp[qal,qaf,qaK,qcC,qbd]
 have stop:∀(s:Nat) (l:List T),0<s->N<=s->l.length=N->Blk s l->∃(l':List T) (s':Nat),l'.Perm l/\Srt l'/\
  qbp XV [] 1 [0,1,2,6] qhB ⟨[(0,.tsl true 0 3 N),(1,.d (.int .i64 N)),(2,.fn 6 []),(6,.d (.int .i64 s))],[some (kc l)]⟩=
   some (.exit 2,⟨[(0,.tsl true 0 3 N),(1,.d (.int .i64 N)),(2,.fn 6 []),(6,.d (.int .i64 s')),(30,.d (.bool false))],[some (kc l')]⟩):=fun s l hs h1 h2 h3=>by
  refine⟨l,s,List.Perm.refl _,h3.srt (by omega) hs,?_⟩;refine qaG (head _ _) ?_ (by simp);have hlt:¬((s:Int)<(N:Int)):=by omega
  generalize (s:Int)=v at*
  generalize (N:Int)=w at*
  simp[qhB,qmf,hlt]
 intro k
 induction k with
 |zero=>intro s l hk hs hs2 hl hin hB;exact stop s l hs (by omega) hl hB
 |succ k ih=>
  intro s l hk hs hs2 hl hin hB
  by_cases hsN:N<=s
  ·exact stop s l hs hsN hl hB
  obtain⟨R1,R2,a,r1,r2,r3,r4,r5,r6,r7⟩:=qup N s hn hs (by omega) l.length [] l (Nat.le_refl _) (by simpa using hl) (by simpa using hin) hB;simp only[List.nil_append,List.length_nil,Nat.zero_add]at r2 r7;have hin2:∀t,t∈R1++R2->t.inner<=1099511627776:=fun t ht=>hin t (r4.mem_iff.1 ht)
  have hlen:R1.length+R2.length=N:=by omega
  obtain⟨W,w1,w2,w3⟩:∃W:List T,W.Perm R2/\Srt W/\((((a+s:Nat):Int)<(N:Int)/\qai XV 173 [.tsl true 0 3 N,.d (.int .i64 a),.d (.int .i64 (a+s:Nat)),.d (.int .i64 N),.fn 6 []] [some (kc (R1++R2))]=some (.d (.tup []),[some (kc (R1++W))]))\/(¬((a+s:Nat):Int)<(N:Int)/\W=R2)):=by
   by_cases h:a+s<N
   ·obtain⟨C,D,rfl,l1,b1,b2⟩:∃C D,R2=C++D/\C.length=s/\Srt C/\Blk s D:=by
     cases r5 with
     |last _ h1 _=>omega
     |cons c r h1 h2 h3=>exact⟨c,r,rfl,h1,h2,h3⟩
    have hDl:D.length<s:=by simp at r1;omega
    have hDl2:a+(s+D.length)=N:=by simp at r3;omega
    obtain⟨W,w1,w2,w3⟩:=qh6 (C.length+D.length) R1 C D [] a (a+s) N N (Nat.le_refl _) (by omega) (by omega) r2 (by omega) (by omega) (by simp;omega) hn (fun t ht=>hin2 t (by simpa using ht)) b1 (b2.srt (by omega) hs);refine⟨W,w1,w2,.inl ⟨by omega,?_⟩⟩;have e1:R1++(C++D)=R1++C++D++[]:=by simp
    have e2:R1++W=R1++W++[]:=by simp
    rw[e1,e2];exact w3
   ·exact⟨R2,List.Perm.refl _,r5.srt (by omega) hs,.inr ⟨by omega,rfl⟩⟩
  have hWl:W.length=R2.length:=w1.length_eq;have hB2:Blk (2*s) (R1++W):=r6 W (.last W (by omega) w2);obtain⟨l',s',p1,p2,p3⟩:=ih (2*s) (R1++W) (by omega) (by omega) (by omega) (by simp;omega) (fun t ht=>hin2 t (by
   rcases List.mem_append.1 ht with h|h
   ·simp[h]
   ·simp[w1.mem_iff.1 h])) hB2
  refine⟨l',s',p1.trans ((List.Perm.refl R1).append w1|>.trans r4),p2,?_⟩;rw[<-p3];refine qbg (head _ _) ?_;have hlt:((s:Int)<(N:Int)):=by omega
  have hw2:IntKind.i64.wrap (2*(s:Int))=((2*s:Nat):Int):=by rw[wrap_i64 (by omega) (by omega)];omega
  have hw2':IntKind.i64.wrap ((s:Int)*2)=((2*s:Nat):Int):=by rw[wrap_i64 (by omega) (by omega)];omega
  have hw3:IntKind.i64.wrap ((a:Int)+s)=((a+s:Nat):Int):=by rw[wrap_i64 (by omega) (by omega)];omega
  simp only[Int.natCast_zero]at r7;rcases w3 with⟨g1,g2⟩|⟨g1,rfl⟩
  ·generalize kc (R1++W)=c3 at*
   generalize kc (R1++R2)=c2 at*
   generalize kc l=c1 at*
   generalize ((a+2*s:Nat):Int)=gv1 at*
   generalize ((a+s:Nat):Int)=gv3 at*
   generalize ((2*s:Nat):Int)=gv4 at*
   generalize (a:Int)=ga at*
   generalize (s:Int)=gs at*
   generalize hgn:(N:Int)=w at*
   simp[qhB,qmf,qtR,qir,qiq,qip,qio,hlt,hw2,hw2',hw3];rw[r7];simp[qir,qiq,qip,qio,hw2',hw3,g1,g2]
  ·generalize kc (R1++W)=c2 at*
   generalize kc l=c1 at*
   generalize ((a+2*s:Nat):Int)=gv1 at*
   generalize ((a+s:Nat):Int)=gv3 at*
   generalize ((2*s:Nat):Int)=gv4 at*
   generalize (a:Int)=ga at*
   generalize (s:Int)=gs at*
   generalize hgn:(N:Int)=w at*
   simp[qhB,qmf,qtR,qir,qiq,qip,qio,hlt,hw2,hw2',hw3];rw[r7];simp[qir,qiq,qip,qio,hw2',hw3,g1]
theorem qsO(l:List T)(hn:l.length<=1099511627776)(hin:∀t,t∈l->t.inner<=1099511627776):
 ∃l':List T,l'.Perm l/\Srt l'/\qai XV 171 [.tsl true 0 3 l.length,.d (.int .i64 l.length),.fn 6 []] [some (kc l)]=some (.d (.tup []),[some (kc l')]):=by
 obtain⟨R1,R2,a,r1,r2,r3,r4,r5,r6⟩:=qoD l.length hn l.length [] l (Nat.le_refl _) (by simp) (by simpa using hin);simp only[List.nil_append,List.length_nil,Nat.zero_add]at r2 r6;have hin2:∀t,t∈R1++R2->t.inner<=1099511627776:=fun t ht=>hin t (r4.mem_iff.1 ht)
 obtain⟨W,w1,w2,w3⟩:=qf2 R1 R2 [] a l.length l.length r2 (by omega) (by simp;omega) hn (fun t ht=>hin2 t (by simpa using ht));simp only[List.append_nil]at w3;have hWl:W.length=R2.length:=w1.length_eq;have hB:Blk 20 (R1++W):=r5 W (.last W (by omega) w2);obtain⟨l',s',p1,p2,p3⟩:=qqM l.length hn l.length 20 (R1++W) (by omega) (by omega) (by omega) (by simp;omega) (fun t ht=>hin2 t (by
  rcases List.mem_append.1 ht with h|h
  ·simp[h]
  ·simp[w1.mem_iff.1 h])) hB
 refine⟨l',p1.trans ((List.Perm.refl R1).append w1|>.trans r4),p2,?_⟩;rw[qaE XV _ _ _ qx9 rfl qlN rfl];simp only[Int.natCast_zero,show((20:Nat):Int)=20 from rfl]at r6 p3;generalize kc (R1++W)=c3 at*
 generalize kc (R1++R2)=c2 at*
 generalize kc l=c1 at*
 generalize kc l'=c4 at*
 generalize ((a+20:Nat):Int)=gv1 at*
 generalize (a:Int)=ga at*
 generalize hgn:(l.length:Int)=w at*
 simp[qx9,qtX,qtW];rw[r6];simp[qtS,w3];rw[p3];simp
theorem qkI(l:List T)(hn:l.length<=1099511627776)(hin:∀t,t∈l->t.inner<=1099511627776):
 ∃l':List T,l'.Perm l/\Srt l'/\qai XV 170 [.tsl true 0 3 l.length,.fn 6 []] [some (kc l)]=some (.d (.tup []),[some (kc l')]):=by
 obtain⟨l',h1,h2,h3⟩:=qsO l hn hin;refine⟨l',h1,h2,?_⟩;rw[qaE XV _ _ _ qya rfl qlO rfl];generalize kc l'=c2 at*
 generalize kc l=c1 at*
 simp[qya,qtY,h3]
end Go.Proofs.Ytfiakfiocdfpbaa.VS
namespace Go.Proofs.Ytfiakfiocdfpbaa.VS
mutual
theorem qx0:∀t:T,(t.enc U).allU=true
 | .node f v ks=>by
  have:=qgT ks;unfold T.enc;cases ks with
  |nil=>simp[T.encs,DV.allU,DV.allUs]
  |cons a r=>simp only[T.encs]at this⊢;simp[DV.allU,DV.allUs]at this⊢;exact this
theorem qgT:∀l:List T,DV.allUs (T.encs U l)=true
 | []=>by simp[T.encs,DV.allUs]
 |t::r=>by simp[T.encs,DV.allUs,qx0 t,qgT r]
end
end Go.Proofs.Ytfiakfiocdfpbaa.VS
namespace Go.Proofs.Ytfiakfiocdfpbaa.VS
theorem qxZ:∀l:List T,DV.allUs (l.map (T.enc U))=true:=fun l=>by rw[<-T.qdC];exact qgT l
def nB(f v:Int)(ks:List T):qak:=[some [.d (.int .i64 f),.d (.int .i64 v),.d (qau .sub ks)],some [.d (.int .i64 0),.d (.int .i64 0),.d (.sl U [])]]
theorem qDs(s:List SymL)(hs:s.length<=1099511627776)(f v:Int)(ks acc:List T)(hl:ks.length<=1099511627776)(i:Nat)(hi:i<ks.length)(hacc:acc.length<=1099511627776)(hk:((tAt ks i).norm s).kids.length<=1099511627776)
 (hc:qai XV 169 [.d (sg s),.d ((tAt ks i).enc .sub)] []=some (.d (((tAt ks i).norm s).enc U),[])):
 ∃e:qak,qax XV (XV.lin 169) qgn ⟨[(0,.d (sg s)),(3,.ptr 0 0),(4,.ptr 1 0),(5,.d (.sl U (acc.map (T.enc U)))),(10,.d (qau .sub ks)),(11,.d (.int .i64 ks.length)),(12,.d (.int .i64 i))],nB f v ks⟩=
  some (.normal,⟨[(0,.d (sg s)),(3,.ptr 0 0),(4,.ptr 1 0),(5,.d (.sl U ((acc++qlx s f ((tAt ks i).norm s)).map (T.enc U)))),(10,.d (qau .sub ks)),(11,.d (.int .i64 ks.length)),(12,.d (.int .i64 (i+1:Nat)))],nB f v ks++e⟩):=by
 have hw:=qaF (n:=i) (by omega);have hb:=qeN s hs f;have ht:=qaO hi;generalize tAt ks i=k at*
 generalize hn:k.norm s=n at*
 unfold qlx nB
 by_cases h1:qaP s f=true
 ·by_cases h2:(n.f==f)=true
  ·have ha:=qgo acc n.kids U (by omega)
   generalize hl2:(acc++n.kids).map (T.enc U)=l2 at ha;generalize acc.map (T.enc U)=l1 at ha⊢
   refine⟨[some [.d (.int .i64 n.f),.d (.int .i64 n.v),.d (qau .sub n.kids)]],?_⟩;simp[qgn,qhe,qhd,qhc,qmm,qml,qmk,qmj,qmi,qmh,qmg,qd7,qiu,qit,qis,hi,hw,cut,ht,hc,hb,h1,h2,ha,hl2,splice,qaa,qae,qac,qan,qad,AV.qap]
  ·have ha:=qgo acc [n] U (by simp;omega)
   have h2':(n.f==f)=false:=by simpa using h2
   simp only[List.map_cons,List.map_nil]at ha;generalize hl2:(acc++[n]).map (T.enc U)=l2 at ha;generalize acc.map (T.enc U)=l1 at ha⊢
   refine⟨[some [.d (.int .i64 n.f),.d (.int .i64 n.v),.d (qau .sub n.kids)]],?_⟩;simp[qgn,qhe,qhd,qhc,qmm,qml,qmk,qmj,qmi,qmh,qmg,qd7,qiu,qit,qis,hi,hw,cut,ht,hc,hb,h1,h2',ha,hl2,splice,qaa,qae,qac,qan,qad,AV.qap]
 ·have h1':qaP s f=false:=by simpa using h1
  have ha:=qgo acc [n] U (by simp;omega);simp only[List.map_cons,List.map_nil]at ha;generalize hl2:(acc++[n]).map (T.enc U)=l2 at ha;generalize acc.map (T.enc U)=l1 at ha⊢
  refine⟨[some [.d (.int .i64 n.f),.d (.int .i64 n.v),.d (qau .sub n.kids)]],?_⟩;simp[qgn,qhe,qhd,qhc,qmm,qml,qmk,qmj,qmi,qmh,qmg,qd7,qiu,qit,qis,hi,hw,cut,ht,hc,hb,h1',ha,hl2,splice,qaa,qae,qac,qan,qad,AV.qap]
end Go.Proofs.Ytfiakfiocdfpbaa.VS
namespace Go.Proofs.Ytfiakfiocdfpbaa.VS
theorem qog(B:qak):qai XV 172 [.d (.sl .sub []),.d (.int .i64 0),.d (.int .i64 0),.fn 6 []] B=some (.d (.tup []),B):=by
 rw[qaE XV _ _ _ qwf rfl qh3 rfl];have hlo:qbp XV [46,50] B.length [0,1,2,3,8] qhA ⟨[(0,.d (.sl .sub [])),(1,.d (.int .i64 0)),(2,.d (.int .i64 0)),(3,.fn 6 []),(8,.d (.int .i64 1))],B⟩=some (.exit 0,⟨[(0,.d (.sl .sub [])),(1,.d (.int .i64 0)),(2,.d (.int .i64 0)),(3,.fn 6 []),(8,.d (.int .i64 1)),(14,.d (.bool false))],B⟩):=by
  refine qaG (s0:=⟨[(0,.d (.sl .sub [])),(1,.d (.int .i64 0)),(2,.d (.int .i64 0)),(3,.fn 6 []),(8,.d (.int .i64 1))],B⟩) (by simp[qal,qaf,qaK,qcC,qbd]) ?_ (by simp);simp[qhA,qj5]
 simp[qwf,qme,wrap_i64];rw[hlo];simp
theorem qwW(B:qak):qai XV 170 [.d (.sl .sub []),.fn 6 []] B=some (.d (.tup []),B):=by
 have hi:=qog B;have h1:qbp XV [] B.length [0,1,2,6,7,8] qjg ⟨[(0,.d (.sl .sub [])),(1,.d (.int .i64 0)),(2,.fn 6 []),(6,.d (.int .i64 20)),(7,.d (.int .i64 0)),(8,.d (.int .i64 20))],B⟩=some (.exit 0,⟨[(0,.d (.sl .sub [])),(1,.d (.int .i64 0)),(2,.fn 6 []),(6,.d (.int .i64 20)),(7,.d (.int .i64 0)),(8,.d (.int .i64 20)),(13,.d (.bool false))],B⟩):=by
  refine qaG (s0:=⟨[(0,.d (.sl .sub [])),(1,.d (.int .i64 0)),(2,.fn 6 []),(6,.d (.int .i64 20)),(7,.d (.int .i64 0)),(8,.d (.int .i64 20))],B⟩) (by simp[qal,qaf,qaK,qcC,qbd]) ?_ (by simp);simp[qjg,qpc]
 have h2:qbp XV [] B.length [0,1,2,6] qhB ⟨[(0,.d (.sl .sub [])),(1,.d (.int .i64 0)),(2,.fn 6 []),(6,.d (.int .i64 20))],B⟩=some (.exit 2,⟨[(0,.d (.sl .sub [])),(1,.d (.int .i64 0)),(2,.fn 6 []),(6,.d (.int .i64 20)),(30,.d (.bool false))],B⟩):=by
  refine qaG (s0:=⟨[(0,.d (.sl .sub [])),(1,.d (.int .i64 0)),(2,.fn 6 []),(6,.d (.int .i64 20))],B⟩) (by simp[qal,qaf,qaK,qcC,qbd]) ?_ (by simp);simp[qhB,qmf]
 have h3:qai XV 171 [.d (.sl .sub []),.d (.int .i64 0),.fn 6 []] B=some (.d (.tup []),B):=by
  rw[qaE XV _ _ _ qx9 rfl qlN rfl];simp[qx9,qtX,qtW];rw[h1];simp[qtS,hi];rw[h2];simp
 rw[qaE XV _ _ _ qya rfl qlO rfl];simp[qya,qtY,h3]
end Go.Proofs.Ytfiakfiocdfpbaa.VS
namespace Go.Proofs.Ytfiakfiocdfpbaa.VS
theorem qAv(s:List SymL)(hs:s.length<=1099511627776)(f v:Int)(ks:List T)(hl:qcJ ks<=1099511627776)
 (hc:∀t,t∈ks->qai XV 169 [.d (sg s),.d (t.enc .sub)] []=some (.d ((t.norm s).enc U),[])):∀(k i:Nat),i+k=ks.length->∀e:qak,
 qbp XV (XV.lin 169) 2 [0,3,4,5,10,11,12] qgn ⟨[(0,.d (sg s)),(3,.ptr 0 0),(4,.ptr 1 0),(5,.d (.sl U ((qqf s f ks i).map (T.enc U)))),(10,.d (qau .sub ks)),(11,.d (.int .i64 ks.length)),(12,.d (.int .i64 i))],nB f v ks++e⟩=
  some (.exit 0,⟨[(0,.d (sg s)),(3,.ptr 0 0),(4,.ptr 1 0),(5,.d (.sl U ((flatK s f (T.norms s ks)).map (T.enc U)))),(10,.d (qau .sub ks)),(11,.d (.int .i64 ks.length)),(12,.d (.int .i64 ks.length)),(13,.d (.bool false))],nB f v ks⟩):=by
 have head:∀(x y:AV) (e:qak),y.clr=y->x.safe 2=true->y.safe 2=true->qal 2 [0,3,4,5,10,11,12] ⟨[(0,.d (sg s)),(3,.ptr 0 0),(4,.ptr 1 0),(5,x),(10,.d (qau .sub ks)),(11,.d (.int .i64 ks.length)),(12,y)],nB f v ks++e⟩=some ⟨[(0,.d (sg s)),(3,.ptr 0 0),(4,.ptr 1 0),(5,x),(10,.d (qau .sub ks)),(11,.d (.int .i64 ks.length)),(12,y)],nB f v ks⟩:=fun x y e hy hx hy2=>
  qee (by simp) (by simp[qaf,hx,hy2]) (by simp[nB]) rfl
 intro k
 induction k with
 |zero=>
  intro i hi e;have:i=ks.length:=by omega
  subst this;refine qaG (head _ _ e (by simp) (by simp) (by simp)) ?_ (by simp);rw[qqe];simp[qgn,qhe,qhd,qhc,qmm,qml,qmk,qmj,qmi,qmh,qmg,qd7,qiu,qit,qis]
 |succ k ih=>
  intro i hi e;have hlt:i<ks.length:=by omega
  have hm:=qaJ hlt;have h1:=qb2 hm;have h2:=qcO s (tAt ks i);have h3:=qnm s f ks i;have h4:=qcD (qqf s f ks i);have h5:((tAt ks i).norm s).kids.length<=1099511627776:=by have:=qcD ((tAt ks i).norm s).kids;rw[qi8]at this;omega
  obtain⟨e',he⟩:=qDs s hs f v ks (qqf s f ks i) (by have:=qcD ks;omega) i hlt (by omega) h5 (hc _ hm);rw[<-ih (i+1) (by omega) e',qnl s f ks i hlt];exact qbg (head _ _ e (by simp) (by simp) (by simp)) he
theorem qCO(s:List SymL)(hs:s.length<=1099511627776)(f v:Int)(ks:List T)(hl:qcJ ks<=1099511627776)
 (hc:∀t,t∈ks->qai XV 169 [.d (sg s),.d (t.enc .sub)] []=some (.d ((t.norm s).enc U),[])):
 qax XV (XV.lin 169) ql1.pre ⟨qag 0 [.d (sg s),.d ((T.node f v ks).enc .sub)],[]⟩=
  some (.normal,⟨[(3,.ptr 0 0),(4,.ptr 1 0),(5,.d (.sl U ((flatK s f (T.norms s ks)).map (T.enc U)))),(42,.d (.bool (qaP s f)))],nB f v ks⟩):=by
 have hloop:=qAv s hs f v ks hl hc ks.length 0 (by omega) [];have hb:=qeN s hs f;simp only[qnk,List.map_nil,List.append_nil,qAG,nB,Int.natCast_zero]at hloop;simp[ql1,qeo,qhe,qhd,qhc,qd7,splice,qaa,qae,qac,qan,qad,AV.qap,nB];rw[hloop];simp[qd7,hb,qad]
theorem qxm:∀l:List T,((l.map (T.enc U)).flatMap DV.cells).map AV.d=kc l:=fun l=>by rw[quQ];rfl
theorem qwV(t:T)(r:List T)(hl:qcJ (t::r)<=1099511627776):qgs (qai XV) ql1 (t.enc U) (r.map (T.enc U))=some ((qdp (t::r)).map (T.enc U)):=by
 have hlen:=qcD (t::r);obtain⟨l',p1,p2,p3⟩:=qkI (t::r) (by omega) (fun x hx=>by have:=qb2 hx;omega);have he:=qlf p1 p2;have hu:=qxZ (t::r);have hk:=qxm (t::r);simp only[List.map_cons]at hu hk;unfold qgs;rw[if_pos hu,hk];have e1:(T.enc U t).cells.length=3:=by simp
 have e2:(r.map (T.enc U)).length+1=(t::r).length:=by simp
 rw[e1,e2];have e3:qai XV ql1.srt [.tsl true 0 3 (t::r).length,.fn ql1.cmp []] [some (kc (t::r))]=some (.d (.tup []),[some (kc l')]):=p3;rw[e3];have hll:l'.length=(t::r).length:=p1.length_eq;have e4:qav (kc l')=some (flat (l'.map (T.enc U))):=by rw[quQ];exact qvB _
 have e5:=qkl (l'.map (T.enc U)) (qA5 U l');have e6:(flat (l'.map (T.enc U))).length=(t::r).length*3:=by
  have:=qbk e4;have h2:=qf0 l';rw[this,List.length_map]at h2;rw[h2,hll]
 simp only[e4,Option.bind_some];rw[if_pos e6,<-hll];rw[List.length_map]at e5;rw[e5,he]
theorem qlW{X:XEnv}{T:List Nat}{sf:SFn}{ds:List DV}{S:XS}{x:DV}{xr:List DV}{y:DV×DV}{q:List DV}(hn:ds.length=sf.np)(hp:qax X T sf.pre ⟨qag 0 (ds.map .d),[]⟩=some (.normal,S))
 (h1:lk S.r sf.cond=some (.d (.bool true))) (h2:lk S.r sf.row=some (.d (.sl U (x::xr)))) (h3:qgq S=some y) (h4:qgs (qai X) sf x xr=some q):qkF X T sf ds=some (.agg [y.1,y.2,.sl U q]):=by
 unfold qkF;rw[if_neg (by simpa using hn),hp];simp only[Option.bind_some];rw[h1,h2];simp only[U];rw[h3];simp only[Option.bind_some,h4,Option.map_some]
theorem qoh(s:List SymL)(hs:s.length<=1099511627776)(f v:Int)(ks:List T)(hl:qcJ ks<=1099511627776)
 (hc:∀t,t∈ks->qai XV 169 [.d (sg s),.d (t.enc .sub)] []=some (.d ((t.norm s).enc U),[])):
 qai XV 169 [.d (sg s),.d ((T.node f v ks).enc .sub)] []=some (.d (((T.node f v ks).norm s).enc U),[]):=by
 have hp:=qCO s hs f v ks hl hc;have hcn:qcJ (flatK s f (T.norms s ks))<=1099511627776:=by
  have:=qfi s f (T.norms s ks);have:=qfh s ks;omega
 rw[qru XV 169 _ _ ql1 rfl qr0 qrT];simp only[qav,Option.bind_some,Option.map_some];have slow:qkF XV (XV.lin 169) ql1 [sg s,(T.node f v ks).enc .sub]=qkF XV (XV.lin 169) ql1 [sg s,(T.node f v ks).enc .sub]:=rfl
 conv at slow=>rhs;unfold qkF
 rw[if_neg (by simp[ql1,qeo])]at slow;simp only[List.map_cons,List.map_nil]at slow;rw[hp]at slow;simp only[T.norm]
 by_cases hb:qaP s f=true
 ·rw[if_pos hb]
  cases hq:flatK s f (T.norms s ks)with
  |nil=>
   rw[slow];have hz:qdp ([]:List T)=[]:=rfl;have hsn:=qwW (nB f v ks);simp only[nB]at hsn;simp[ql1,qeo,hb,hq,lk,nB,hz,hsn,splice,qaa,qae,qac,qan,qad];rw[T.qbP];rfl
  |cons x r=>
   rw[hq]at hcn;have hr:=qwV x r hcn;have:=qlW (X:=XV) (T:=XV.lin 169) (sf:=ql1) (ds:=[sg s,(T.node f v ks).enc .sub]) (x:=x.enc U) (xr:=r.map (T.enc U)) (y:=(.int .i64 f,.int .i64 v)) rfl hp (by simp[ql1,qeo,lk,hb]) (by simp[ql1,qeo,lk,hq]) (by simp[qgq,lk,nB,DV.flat,qaa]) hr;rw[this];simp only[Option.map_some];rw[T.qbP];rfl
 ·rw[if_neg hb,slow]
  have hb':qaP s f=false:=by simpa using hb
  simp[ql1,qeo,hb',lk,nB,splice,qaa,qae,qac,qan,qad]
theorem qdr(s:List SymL)(hs:s.length<=1099511627776)(t:T)(ht:t.inner<=1099511627776):qai XV 169 [.d (sg s),.d (t.enc .sub)] []=some (.d ((t.norm s).enc U),[]):=by
 match t,ht with
 | .node f v ks,ht=>
  rw[T.qcx]at ht;exact qoh s hs f v ks ht fun x hx=>qdr s hs x (by have:=qb2 hx;omega)
termination_by t
decreasing_by
 simp_wf
 have:=List.sizeOf_lt_of_mem hx;omega
end Go.Proofs.Ytfiakfiocdfpbaa.VS
namespace Go.Proofs.Ytfiakfiocdfpbaa.VS
abbrev ts(l:List Bd):List T:=l.map Bd.t
end Go.Proofs.Ytfiakfiocdfpbaa.VS
namespace Go.Proofs.Ytfiakfiocdfpbaa.VS
end Go.Proofs.Ytfiakfiocdfpbaa.VS
namespace Go.Proofs.Ytfiakfiocdfpbaa.VS
end Go.Proofs.Ytfiakfiocdfpbaa.VS
namespace Go.Proofs.Ytfiakfiocdfpbaa.VS
end Go.Proofs.Ytfiakfiocdfpbaa.VS
namespace Go.Proofs.Ytfiakfiocdfpbaa.VS
end Go.Proofs.Ytfiakfiocdfpbaa.VS
namespace Go.Proofs.Ytfiakfiocdfpbaa.VS
def IsV(d:DV)(a:T):Prop:=∃(g:Tag) (X:List DV),d= .agg [.int .i64 a.f,.int .i64 a.v,.sl g X]/\X.map DV.clr=a.kids.map (T.enc .sub)
theorem quR(s:List SymL)(t:T):IsV (nM s t) (t.norm s):=⟨U,qoT s t,by rw[qjy,qut,qur],qp2 s t⟩
theorem qlg(g:Tag)(t:T):IsV (t.enc g) t:=⟨g,t.kids.map (T.enc g),by rw[T.qbP],qcm g _⟩
theorem quI(ks:List T)(hl:qcJ ks<=1099511627776):qai XV 197 [.d (qau .sub ks)] []=some (.d (qau U ks),[]):=by
 have hlen:=qcD ks;have hc:∀t,t∈ks->qai XV 146 [.d (t.enc .sub)] []=some (.d (t.enc U),[]):=fun t ht=>qmO t (by have:=qb2 ht;omega)
 rw[qaE XV _ _ _ qBA rfl qr8 rfl];have hloop:=qa2 (X:=XV) (T:=XV.lin 197) (L:=0) (live:=[0,3,4]) (b:=qp8) (n:=ks.length) (γ:=Unit) (st:=fun(_:Unit) i=>⟨[(0,.d (qau .sub ks)),(3,.d (.sl U ((ks.take i).map (T.enc U)))),(4,.d (.int .i64 i))],[]⟩) (step:=fun _ _=> .inl ())
  (F:=fun _=>(.exit 0,⟨[(0,.d (qau .sub ks)),(3,.d (.sl U ((ks.take ks.length).map (T.enc U)))),(4,.d (.int .i64 ks.length)),(9,.d (.bool false))],[]⟩)) (R:=fun _=>(.ret,⟨[],[]⟩))
  (fun _=>⟨by simp,by simp[qp8,qo1,qo0,qoZ,qtb,qs9,qta,qoY]⟩)
  (fun _ i hi=>by
   have hw:=qaF (n:=i) (by omega);have hc':=hc _ (qaJ hi);have ha:=qlw ks i hi (by omega);generalize hl2:(ks.take (i+1)).map (T.enc U)=l2 at ha;generalize (ks.take i).map (T.enc U)=l1 at ha⊢
   exact⟨⟨[(0,.d (qau .sub ks)),(3,.d (.sl U l2)),(4,.d (.int .i64 (i+1:Nat)))],[]⟩,by simp[qp8,qo1,qo0,qoZ,qtb,qs9,qta,qoY,hi,hw,cut,qaO hi,hc',ha,splice,qaa,qae,qac,qan,qad],by simp[qal,qaf,<-hl2]⟩)
  ks.length () 0 ⟨[(0,.d (qau .sub ks)),(3,.d (.sl U [])),(4,.d (.int .i64 0))],[]⟩ (by omega) (by simp[qal,qaf])
 rw[qjN,List.take_length]at hloop;simp only[qAF]at hloop;simp[qBA,qo1,qo0,qoZ];rw[hloop];simp[qoY]
theorem qAO(f:Int)(ks:List T):qai XV 164 [.d (.int .i64 f),.d (qau .sub ks)] []=some (.d ((T.node f 0 ks).enc .sub),[]):=by
 rw[qaE XV _ _ _ qyb rfl qlP rfl];simp[qyb,qt9,qt8,splice,qaa,qae,qac,qan,qad]
def qcV(s:List SymL)(f:Int)(ks:List T):T:=
 if qaP s f=true/\ks.length=0 then .node 0 0 []
 else if qaP s f=true/\ks.length=1 then(tAt ks 0).norm s
 else if qfH s f=true then(T.node f 0 ks).norm s else .node f 0 ks
theorem qiI(s:List SymL)(f:Int)(ks:List T):(qcV s f ks).inner<=qcJ ks:=by
 unfold qcV;split
 ·simp[T.inner,T.inners]
 ·split
  ·rename_i h
   have h1:=qcO s (tAt ks 0);have h2:=qb2 (qaJ (l:=ks) (i:=0) (by omega));omega
  ·split
   ·have:=qcO s (T.node f 0 ks);rw[T.qcx]at this;exact this
   ·rw[T.qcx];omega
theorem qlC(g:Tag):(T.node 0 0 []).enc g= .agg [.int .i64 0,.int .i64 0,.sl g []]:=by rw[T.qbP];rfl
theorem qed(s:List SymL)(hs:s.length<=1099511627776)(f:Int)(ks:List T)(hl:qcJ ks<=1099511627776):qai XV 192 [.d (sg s),.d (.int .i64 f),.d (qau .sub ks)] []=some (.d ((qcV s f ks).enc U),[]):=by
 have hlen:=qcD ks;have hsy:=qpJ s hs f;have hcp:=qm5 ks hl;have hn:=qdr s hs (T.node f 0 ks) (by rw[T.qcx];exact hl);rw[qaE XV _ _ _ qwd rfl qsc rfl];unfold qcV
 by_cases c1:qfH s f=true
 ·obtain⟨g1,g2⟩:=qkD c1
  have hsa:=qhH g2;have hbl:qaP s f=(qjv s f.toNat).ac:=by unfold qaP;rw[c1];rfl
  rw[hbl];cases c2:(qjv s f.toNat).ac with
  |false=>
   simp only[Bool.false_eq_true,false_and,if_false,c1,if_true];generalize (T.node f 0 ks).norm s=a at*
   simp[qwd,qj4,qj3,qj2,qj1,qj0,qjZ,qjY,qjX,hsy,c1,c2,g1,g2,hsa,cut,hn,splice,qaa,qae,qac,qan,qad]
  |true=>
   simp only[true_and]
   by_cases c3:ks.length=0
   ·rw[if_pos c3]
    have c3':(ks.length:Int)=0:=by omega
    generalize hm:(ks.length:Int)=m at*
    rw[qlC];simp[qwd,qj4,qj3,qj2,qj1,qj0,qjZ,qjY,qjX,hsy,c1,c2,g1,g2,hsa,hm,c3',cut,splice,qaa,qae,qac,qan,qad]
   ·rw[if_neg c3]
    by_cases c4:ks.length=1
    ·rw[if_pos c4]
     have h0:0<ks.length:=by omega
     have hn2:=qdr s hs (tAt ks 0) (by have:=qb2 (qaJ h0);omega);have h5:ks[0]?=some (tAt ks 0):=qnI h0;have h6:ks[0]=tAt ks 0:=qaO h0;have c4':(ks.length:Int)=1:=by omega
     generalize (tAt ks 0).norm s=a at*
     generalize hm:(ks.length:Int)=m at*
     simp[qwd,qj4,qj3,qj2,qj1,qj0,qjZ,qjY,qjX,hsy,c1,c2,g1,g2,hsa,hm,c4',h0,cut,hn2,h5,h6,splice,qaa,qae,qac,qan,qad]
    ·rw[if_neg c4,if_pos c1]
     have e3:((ks.length:Int)==0)=false:=beq_false_of_ne (by omega);have e4:((ks.length:Int)==1)=false:=beq_false_of_ne (by omega);generalize (T.node f 0 ks).norm s=a at*
     generalize hm:(ks.length:Int)=m at*
     simp[qwd,qj4,qj3,qj2,qj1,qj0,qjZ,qjY,qjX,hsy,c1,c2,g1,g2,hsa,hm,e3,e4,cut,hn,splice,qaa,qae,qac,qan,qad]
 ·have hbl:qaP s f=false:=by unfold qaP;simp[c1]
  have c1':qfH s f=false:=by simpa using c1
  simp only[hbl,Bool.false_eq_true,false_and,if_false,c1'];simp only[qau]at*
  rw[T.qbP];simp[qwd,qj4,qj3,qj2,qj1,qj0,qjZ,qjY,qjX,hsy,c1',hcp,splice,qaa,qae,qac,qan,qad]
theorem IsV.clr{d:DV}{a:T}(h:IsV d a):d.clr=a.enc .sub:=by
 obtain⟨g,X,rfl,hX⟩:=h;simp only[DV.clr,DV.clrs];rw[DV.qap,hX,T.qbP]
theorem qnO(s:List SymL)(hs:s.length<=1099511627776)(f:Int)(ks:List T)(hl:qcJ ks<=1099511627776):∃d,qai XV 193 [.d (sg s),.d (.int .i64 f),.d (qau .sub ks)] []=some (.d d,[])/\IsV d (qcV s f ks):=by
 have hlen:=qcD ks;have hb:=qg1 s hs f;have hin:=quM f 0 (s.length-1);have hcp:=quI ks hl;have ho:=qAO f ks;have hn:=qdl s hs (T.node f 0 ks) (by rw[T.qcx];exact hl);have hw:IntKind.i64.wrap ((s.length:Int)-1)=s.length-1:=wrap_i64 (by omega) (by omega);rw[qaE XV _ _ _ qwc rfl qsb rfl];unfold qcV;cases c2:qaP s f with
 |false=>
  simp only[Bool.false_eq_true,false_and,if_false];cases c1:qfH s f with
  |true=>
   simp only[if_true];refine⟨_,?_,quR s _⟩;rw[qjy]at hn⊢
   generalize qoT s (T.node f 0 ks)=X at*
   rw[show inB f 0 (s.length-1)=true from c1]at hin;simp[qwc,qjW,qjV,qjU,qjT,qjS,qjR,qjQ,qjP,hb,c2,hw,hin,ho,hn,c1,splice,qaa,qae,qac,qan,qad]
  |false=>
   simp only[Bool.false_eq_true,if_false];refine⟨_,?_,qlg .sub _⟩;rw[show inB f 0 (s.length-1)=false from c1]at hin;simp[qwc,qjW,qjV,qjU,qjT,qjS,qjR,qjQ,qjP,hb,c2,hw,hin,ho,hcp,c1,splice,qaa,qae,qac,qan,qad]
 |true=>
  have c1:qfH s f=true:=by unfold qaP at c2;simp only[Bool.and_eq_true]at c2;exact c2.1
  simp only[true_and]
  by_cases c3:ks.length=0
  ·rw[if_pos c3]
   have c3':(ks.length:Int)=0:=by omega
   generalize hm:(ks.length:Int)=m at*
   refine⟨_,?_,qlg U _⟩;rw[qlC];simp[qwc,qjW,qjV,qjU,qjT,qjS,qjR,qjQ,qjP,hb,c2,hm,c3',splice,qaa,qae,qac,qan,qad]
  ·rw[if_neg c3]
   by_cases c4:ks.length=1
   ·rw[if_pos c4]
    have h0:0<ks.length:=by omega
    have hn2:=qdl s hs (tAt ks 0) (by have:=qb2 (qaJ h0);omega);have h5:ks[0]?=some (tAt ks 0):=qnI h0;have h6:ks[0]=tAt ks 0:=qaO h0;have c4':(ks.length:Int)=1:=by omega
    refine⟨_,?_,quR s _⟩;rw[qjy]at hn2⊢
    generalize qoT s (tAt ks 0)=X at*
    generalize hm:(ks.length:Int)=m at*
    simp[qwc,qjW,qjV,qjU,qjT,qjS,qjR,qjQ,qjP,hb,c2,hm,c4',h0,cut,hn2,h5,h6,splice,qaa,qae,qac,qan,qad]
   ·rw[if_neg c4,if_pos c1]
    have e3:((ks.length:Int)==0)=false:=beq_false_of_ne (by omega);have e4:((ks.length:Int)==1)=false:=beq_false_of_ne (by omega);refine⟨_,?_,quR s _⟩;rw[qjy]at hn⊢
    generalize qoT s (T.node f 0 ks)=X at*
    rw[show inB f 0 (s.length-1)=true from c1]at hin;generalize hm:(ks.length:Int)=m at*
    simp[qwc,qjW,qjV,qjU,qjT,qjS,qjR,qjQ,qjP,hb,c2,hw,hin,ho,hn,hm,e3,e4,splice,qaa,qae,qac,qan,qad]
end Go.Proofs.Ytfiakfiocdfpbaa.VS
namespace Go.Proofs.Ytfiakfiocdfpbaa.VS
def qhr(p:T×Tag):DV:=p.1.enc p.2
theorem qdf(p:T×Tag):(qhr p).cells.length=3/\(qhr p).cells.all DV.isCell=true:=by
 obtain⟨⟨f,v,ks⟩,g⟩:=p;unfold qhr;rw[T.qbP];simp[DV.cells,qaa,qae]
theorem qhU(p:T×Tag):(qhr p).clr=p.1.enc .sub:=by unfold qhr;exact IsV.clr (qlg p.2 p.1)
theorem qxX(l:List (T×Tag))(p:T×Tag)(h:l.length<=100):qbc 3 40 (.sl U (l.map qhr)) (.sl U [qhr p])=some (.sl U ((l++[p]).map qhr)):=by
 have h1:=qdf p;have h2:(l.map qhr).all (fun e=>decide (e.cells.length=3))=true:=by
  rw[List.all_eq_true];intro x hx;obtain⟨y,_,rfl⟩:=List.mem_map.1 hx;simpa using (qdf y).1
 unfold qbc;simp only[List.all_cons,List.all_nil,h1.1,h1.2,List.length_map,List.isEmpty_cons,h2];simp;omega
theorem qln(bs:List Int)(hl:bs.length<=1099511627776)(q L:Nat):∀(k i:Nat) (l:List (T×Tag)) (B:qak),i+k=3->l.length=i->(∀p,p∈l->p.1.inner<=6)->B.length=L->qbO bs q B->
 ∀s0,qal L [5,6,7] s0=some ⟨[(5,.ptr q 0),(6,.d (.sl U (l.map qhr))),(7,.d (.int .i64 i))],B⟩->
 ∃(l':List (T×Tag)) (i':Nat) (B':qak),l'.length<=3/\(∀p,p∈l'->p.1.inner<=6)/\qb7 bs q B B'/\qbp XV [2,4,6,10,17,19,20,21,22,26] L [5,6,7] qko s0=some (.exit 0,⟨[(5,.ptr q 0),(6,.d (.sl U (l'.map qhr))),(7,.d (.int .i64 i')),(14,.d (.bool false))],B'⟩):=by
 intro k
 induction k with
 |zero=>
  intro i l B hik hli hs hB hsd s0 h0;obtain⟨r,B1,hr,hT,hc⟩:=qbw bs hl B q hsd 4 (by omega) (by omega);refine⟨l,i,B1,by omega,hs,hT,qaG h0 ?_ (by simp)⟩;have hn:¬((i:Int)<r):=by omega
  simp[qko,qo2,hc,hn]
 |succ k ih=>
  intro i l B hik hli hs hB hsd s0 h0;obtain⟨r,B1,hr,hT,hc⟩:=qbw bs hl B q hsd 4 (by omega) (by omega);have hq:=hsd.lt
  by_cases hn:(i:Int)<r
  ·have hq1:qbO bs q B1:=hT.at hq
   obtain⟨t,g,B2,ht,hT2,hc2⟩:=qdt bs hl 2 (by omega) 2 (by omega) B1 q hq1;have hl2:B2.length=L:=by rw[hT2.len,hT.len,hB]
   have ha:=qxX l (t,g) (by omega);have hw:=qaF (n:=i) (by omega);have hb:qax XV [2,4,6,10,17,19,20,21,22,26] qko ⟨[(5,.ptr q 0),(6,.d (.sl U (l.map qhr))),(7,.d (.int .i64 i))],B⟩=some (.normal,⟨[(5,.ptr q 0),(6,.d (.sl U ((l++[(t,g)]).map qhr))),(7,.d (.int .i64 ((i+1:Nat):Int)))],B2⟩):=by
    generalize (l++[(t,g)]).map qhr=l3 at ha⊢
    generalize l.map qhr=l4 at ha⊢
    obtain⟨h5,h6⟩:=qdf (t,g);rw[show t.enc g=qhr (t,g)from rfl,show((2:Nat):Int)=2 from rfl]at hc2;generalize qhr (t,g)=e at*
    simp[qko,qtm,qtl,qtk,qtj,qo2,qyg,qyh,qti,hc,hn,hc2,ha,hw,qay,List.replicate,h5,h6]
   rw[qbg h0 hb];obtain⟨l',i',B',g1,g2,g3,g4⟩:=ih (i+1) (l++[(t,g)]) B2 (by omega) (by simp;omega) (fun y hy=>by
    rcases List.mem_append.1 hy with h|h
    ·exact hs y h
    ·simp at h;subst h;exact(by have:=ht.1;simp only;omega)) hl2 (hT2.at (by rw[hT.len];exact hq)) ⟨[(5,.ptr q 0),(6,.d (.sl U ((l++[(t,g)]).map qhr))),(7,.d (.int .i64 ((i+1:Nat):Int)))],B2⟩ (qee (e:=[]) (by simp) (by simp[qaf];omega) hl2 (by simp))
   exact⟨l',i',B',g1,g2,(hT.trans hT2).trans g3,g4⟩
  ·refine⟨l,i,B1,by omega,hs,hT,qaG h0 ?_ (by simp)⟩
   simp[qko,qo2,hc,hn]
theorem qot(bs:List Int)(hl:bs.length<=1099511627776):∃(f:Int) (l:List (T×Tag)),l.length<=3/\(∀p,p∈l->p.1.inner<=6)/\qai XV 191 [.d (.sl .sub (bs.map (.int .u8)))] []=some (.d (.tup [.sl U (qcB.map SymL.enc),.int .i64 f,.sl U (l.map qhr)]),[]):=by
 obtain⟨st,h1⟩:=qle bs hl [];obtain⟨l,i,B',g1,g2,⟨p2,s2,hp2,rfl⟩,g4⟩:=qln bs hl 0 1 3 0 [] [some (qaZ bs 0 st)] rfl (by simp) (fun x hx=>by simp at hx) rfl (qxd bs [] st) ⟨[(5,.ptr 0 0),(6,.d (.sl U [])),(7,.d (.int .i64 0))],[some (qaZ bs 0 st)]⟩ (qee (e:=[]) (by simp) (by simp[qaf]) rfl (by simp));obtain⟨j,hj,B3,⟨p3,s3,hp3,rfl⟩,hc3⟩:=qcX bs hl [some (qaZ bs p2 s2)] 0 ⟨p2,s2,hp2,rfl⟩ [5,5,6,4,3,1,-1,9] (by simp) (by simp);generalize ([5,5,6,4,3,1,-1,9]:List Int)[j]=f at hc3;refine⟨f,l,g1,g2,?_⟩;simp only[List.nil_append,List.length_nil,List.set_cons_zero,List.map_cons,List.map_nil]at h1 hc3 g4;have hs:=qfY;generalize hsq:qcB.map SymL.enc=sq at hs⊢
 have hqc:sq.map DV.clr=sq:=by rw[<-hsq];exact qdv _
 rw[qaE XV _ _ _ qBC rfl qsd rfl];generalize l.map qhr=lm at g4⊢
 simp[qBC,qtm,qtl,qtk,qtj,h1];rw[g4];simp[qti,hs,hc3,qay,List.replicate]
end Go.Proofs.Ytfiakfiocdfpbaa.VS
namespace Go.Proofs.Ytfiakfiocdfpbaa.VS
mutual
def T.nf(s:List SymL):T->Prop
 | .node f v ks=>T.nfs s ks/\(qaP s f=true->(∀k,k∈ks->k.f≠f)/\Srt ks)
def T.nfs(s:List SymL):List T->Prop
 | []=>True
 |t::r=>t.nf s/\T.nfs s r
end
theorem T.qjm(s:List SymL):∀l:List T,T.nfs s l↔∀t,t∈l->t.nf s
 | []=>by simp[T.nfs]
 |t::r=>by simp[T.nfs,T.qjm s r]
theorem qvd(s:List SymL)(f:Int)(l:List T)(t:T):t∈flatK s f l↔∃k,k∈l/\t∈qlx s f k:=by unfold flatK;simp
theorem qpP(s:List SymL)(f:Int):∀l:List T,(∀k,k∈l->k.f≠f)->flatK s f l=l
 | [],_=>rfl
 |k::l,h=>by
  rw[qbx,qpP s f l (fun x hx=>h x (by simp[hx]))];have hk:(k.f==f)=false:=by simpa using h k (by simp)
  simp[qlx,hk]
mutual
theorem qus(s:List SymL):∀t:T,(t.norm s).nf s
 | .node f v ks=>by
  have hN:=qpx s ks;rw[T.qjm]at hN;simp only[T.norm,T.nf]
  by_cases hb:qaP s f=true
  ·simp only[hb,if_true]
   have hK:∀e,e∈flatK s f (T.norms s ks)->e.nf s/\e.f≠f:=fun e he=>by
    obtain⟨k,h1,h2⟩:=(qvd s f _ e).1 he;have h3:=hN k h1;unfold qlx at h2
    by_cases hk:k.f=f
    ·have:(qaP s f&&k.f==f)=true:=by simp[hb,hk]
     rw[if_pos this]at h2;obtain⟨f',v',ks'⟩:=k;simp only[T.qdW]at hk;subst hk;simp only[T.nf,T.qa0]at h3 h2;exact⟨(T.qjm s ks').1 h3.1 e h2,(h3.2 hb).1 e h2⟩
    ·have:(qaP s f&&k.f==f)=false:=by simp[hk]
     rw[this]at h2;simp at h2;subst h2
     exact⟨h3,hk⟩
   refine⟨?_,fun _=>⟨fun e he=>(hK e ((qcb _).mem_iff.1 he)).2,qiR _⟩⟩;rw[T.qjm];exact fun e he=>(hK e ((qcb _).mem_iff.1 he)).1
  ·simp only[hb,Bool.false_eq_true,if_false]
   refine⟨?_,fun h=>absurd h id⟩;rw[T.qjm,qf6 s f hb];exact hN
theorem qpx(s:List SymL):∀l:List T,T.nfs s (T.norms s l)
 | []=>by simp[T.norms,T.nfs]
 |t::r=>by simp only[T.norms,T.nfs];exact⟨qus s t,qpx s r⟩
end
mutual
theorem quu(s:List SymL):∀t:T,t.nf s->t.norm s=t
 | .node f v ks,h=>by
  simp only[T.nf]at h;simp only[T.norm,qmL s ks h.1]
  by_cases hb:qaP s f=true
  ·obtain⟨h1,h2⟩:=h.2 hb
   simp only[hb,if_true];rw[qpP s f ks h1,<-qlf (List.Perm.refl ks) h2]
  ·simp only[hb,Bool.false_eq_true,if_false]
   rw[qf6 s f hb]
theorem qmL(s:List SymL):∀l:List T,T.nfs s l->T.norms s l=l
 | [],_=>by simp[T.norms]
 |t::r,h=>by simp only[T.norms];rw[quu s t h.1,qmL s r h.2]
end
theorem qmJ(s:List SymL)(t:T):(t.norm s).norm s=t.norm s:=quu s _ (qus s t)
end Go.Proofs.Ytfiakfiocdfpbaa.VS
namespace Go.Proofs.Ytfiakfiocdfpbaa.VS
theorem qqX(s:List SymL)(f:Int){a b:List T}(h:a.Perm b):(flatK s f a).Perm (flatK s f b):=by
 induction h with
 |nil=>exact .refl _
 |cons x _ ih=>rw[qbx,qbx];exact ih.append_left _
 |swap x y l=>
  rw[qbx,qbx,qbx,qbx,<-List.append_assoc,<-List.append_assoc];exact List.perm_append_comm.append_right _
 |trans _ _ h1 h2=>exact h1.trans h2
theorem qf1{a b:List T}(h:a.Perm b):qdp a=qdp b:=qlf ((qcb a).trans h) (qiR a)
theorem qxT{s:List SymL}{f:Int}(h:qaP s f=true):qfH s f=true:=by
 unfold qaP at h;simp only[Bool.and_eq_true]at h;exact h.1
theorem qdd(s:List SymL)(f:Int)(ks:List T)(hb:qaP s f=true)(h2:2<=ks.length):qcV s f ks= .node f 0 (qdp (flatK s f (ks.map (T.norm s)))):=by
 unfold qcV;rw[if_neg (fun h=>by omega),if_neg (fun h=>by omega),if_pos (qxT hb)];simp only[T.norm,hb,if_true,T.norms_map]
theorem qux(s:List SymL)(f:Int){a b:List T}(hb:qaP s f=true)(h2:2<=a.length)(h:a.Perm b):qcV s f a=qcV s f b:=by
 rw[qdd s f a hb h2,qdd s f b hb (by rw[<-h.length_eq];exact h2),qf1 (qqX s f (h.map _))]
theorem quy(s:List SymL)(f:Int)(a b:List T)(hb:qaP s f=true)(ha:2<=a.length)(h1:1<=b.length):qcV s f (qcV s f a::b)=qcV s f (a++b):=by
 have hn:(qcV s f a).norm s=qcV s f a:=by
  have e:qcV s f a=(T.node f 0 a).norm s:=by
   rw[qdd s f a hb ha];simp only[T.norm,hb,if_true,T.norms_map]
  rw[e,qmJ]
 have hk:qlx s f (qcV s f a)=qdp (flatK s f (a.map (T.norm s))):=by
  rw[qdd s f a hb ha];unfold qlx;simp[hb]
 rw[qdd s f (qcV s f a::b) hb (by simp;omega),qdd s f (a++b) hb (by simp;omega)];rw[List.map_cons,hn,qbx,hk,List.map_append,qho];rw[qf1 ((qcb _).append_right _)]
end Go.Proofs.Ytfiakfiocdfpbaa.VS
namespace Go.Proofs.Ytfiakfiocdfpbaa.VS
end Go.Proofs.Ytfiakfiocdfpbaa.VS
namespace Go.Proofs.Ytfiakfiocdfpbaa.VS
end Go.Proofs.Ytfiakfiocdfpbaa.VS
namespace Go.Proofs.Ytfiakfiocdfpbaa.VS
end Go.Proofs.Ytfiakfiocdfpbaa.VS
