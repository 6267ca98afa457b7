/- Contracts of the program's functions on the evaluator without names, and plain lemmas: part 2. -/
import Derived.Test.YtpcoohnjllclnaaXP1
set_option linter.unusedSimpArgs false
set_option linter.unusedVariables false
namespace Go.Proofs.Ytpcoohnjllclnaa.VS
def qps(a b x y:List Int):Bool:=W (qcm b y 0 0 b.length)==W (qcm a x 0 0 a.length)
def qf5(a b x:List Int)(right:List (List Int)):Nat->List (List Int)
 |0=>[]
 |k+1=>qf5 a b x right k++(if qps a b x (rAt right (k+1))then [x++rAt right (k+1)]else [])
theorem qkD(a b x:List Int)(right:List (List Int))(k:Nat):qf5 a b x right (k+1)=qf5 a b x right k++(if qps a b x (rAt right (k+1))then [x++rAt right (k+1)]else []):=rfl
theorem qm1(a b x:List Int)(right:List (List Int)):∀k,(qf5 a b x right k).length<=k
 |0=>Nat.le_refl _
 |k+1=>by
  have:=qm1 a b x right k;simp only[qf5,List.length_append];split<;>simp<;>omega
def qqi(a b x:List Int)(right acc:List (List Int))(k:Nat):List (List Int)⊕Unit:= .inl (acc++(if qps a b x (rAt right k)then [x++rAt right k]else []))
theorem qCF(a b x:List Int)(right acc:List (List Int)):∀(j k:Nat),runN (qqi a b x right) j (acc++qf5 a b x right k) (k+1)= .inl (acc++qf5 a b x right (k+j))
 |0,k=>rfl
 |j+1,k=>by
  simp only[runN,qqi];rw[List.append_assoc,<-qkD,qCF a b x right acc j (k+1)]
  congr 3;omega
theorem qpb(a b x:List Int)(left right acc:List (List Int))(i:Nat)(hi:i<left.length)(hxl:rAt left i=x)(ha:a.length<=1000)(hb:b.length<=1000)(hx:x.length=a.length)(hr:right.length<=1000)(hr0:0<right.length)(hl:left.length<=1000)(hacc:acc.length<=1000000)
 (hrl:∀i,i<right.length->(rAt right i).length=b.length):
 qdl XV (XV.lin 218) 0 [0,1,5,6,7,8,9,10] qlw ⟨[(0,.d (is a)),(1,.d (is b)),(5,.d (iss U acc)),(6,.d (iss .sub left)),(7,.d (iss .sub right)),(8,.d (.int .i64 i)),(9,.d (.int .i64 (W (qcm a x 0 0 a.length)))),(10,.d (.int .i64 1))],[]⟩=
  some (.exit 2,⟨[(0,.d (is a)),(1,.d (is b)),(5,.d (iss U (acc++qf5 a b x right (right.length-1)))),(6,.d (iss .sub left)),(7,.d (iss .sub right)),(8,.d (.int .i64 i)),(9,.d (.int .i64 (W (qcm a x 0 0 a.length)))),(10,.d (.int .i64 right.length)),(38,.d (.bool false))],[]⟩):=by
 have h:=qbC (X:=XV) (T:=XV.lin 218) (L:=0) (live:=[0,1,5,6,7,8,9,10]) (b:=qlw) (n:=right.length) (γ:=Unit) (st:=fun(A:List (List Int)) j=>⟨[(0,.d (is a)),(1,.d (is b)),(5,.d (iss U A)),(6,.d (iss .sub left)),(7,.d (iss .sub right)),(8,.d (.int .i64 i)),(9,.d (.int .i64 (W (qcm a x 0 0 a.length)))),(10,.d (.int .i64 j))],[]⟩) (step:=qqi a b x right)
  (F:=fun A=>(.exit 2,⟨[(0,.d (is a)),(1,.d (is b)),(5,.d (iss U A)),(6,.d (iss .sub left)),(7,.d (iss .sub right)),(8,.d (.int .i64 i)),(9,.d (.int .i64 (W (qcm a x 0 0 a.length)))),(10,.d (.int .i64 right.length)),(38,.d (.bool false))],[]⟩)) (R:=fun _=>(.ret,⟨[],[]⟩))
  (fun A j=>A.length<=1000000+j)
  (fun A _=>⟨by simp,by simp[qlw,qia,qh9,qh8,qh7,qh6,qh5,qh3,qh2,qh1,qfb,qfa,qe9,qfc,qh4,qe8]⟩)
  (fun A j hj hinv=>by
   have hw:=qah (n:=j) (by omega);have hyl:=hrl j hj;generalize hy:rAt right j=y at*
   have hg:right[j]=y:=by rw[qaS hj,hy]
   have hgx:left[i]=x:=by rw[qaS hi,hxl]
   have ht:=qiA b y 0 (by omega) (by omega) (by omega);have a1:=qec [] x .sub (by simp;omega);have a2:=qec x y .sub (by omega);have h4:qaC 1 24 (iss U A) (.sl U [.sl U ((x++y).map (.int .i64))])=some (iss U (A++[x++y])):=by
    have:=qgk A U U U (x++y) (by omega);rw[show iss U (A++[x++y])= .sl U (A.map (ints U)++[ints U (x++y)])by simp[iss]];exact this
   simp only[List.map_nil,List.nil_append]at a1;unfold qqi;rw[hy];generalize hz:x++y=z at*
   simp only[Int.natCast_zero]at ht;cases hq:qps a b x y with
   |true=>
    have hp:(W (qcm b y 0 0 b.length)==W (qcm a x 0 0 a.length))=true:=hq;generalize W (qcm b y 0 0 b.length)=d1 at*
    generalize W (qcm a x 0 0 a.length)=d2 at*
    refine⟨⟨_,by simp[qlw,qia,qh9,qh8,qh7,qh6,qh5,qh3,qh2,qh1,qfb,qfa,qe9,qfc,qh4,qe8,hj,hi,hw,cut,hg,hgx,ht,a1,a2,h4,hp];rfl,by simp[qac,qaa]⟩,fun a' h=>by simp at h;subst h;simp;omega⟩
   |false=>
    have hp:(W (qcm b y 0 0 b.length)==W (qcm a x 0 0 a.length))=false:=hq;generalize W (qcm b y 0 0 b.length)=d1 at*
    generalize W (qcm a x 0 0 a.length)=d2 at*
    refine⟨⟨_,by simp[qlw,qia,qh9,qh8,qh7,qh6,qh5,qh3,qh2,qh1,qfb,qfa,qe9,qfc,qh4,qe8,hj,hi,hw,cut,hg,hgx,ht,h4,hp];rfl,by simp[qac,qaa]⟩,fun a' h=>by simp at h;subst h;omega⟩)
  (right.length-1) acc 1 ⟨[(0,.d (is a)),(1,.d (is b)),(5,.d (iss U acc)),(6,.d (iss .sub left)),(7,.d (iss .sub right)),(8,.d (.int .i64 i)),(9,.d (.int .i64 (W (qcm a x 0 0 a.length)))),(10,.d (.int .i64 1))],[]⟩ (by omega) (by omega) (by simp[qac,qaa])
 have hr':=qCF a b x right acc (right.length-1) 0;simp only[qf5,List.append_nil,Nat.zero_add]at hr';rw[hr']at h;exact h
def qmC(a b:List Int):Nat->List (List Int)
 |0=>[]
 |k+1=>qmC a b k++qf5 a b (rAt (qay a b) (k+1)) (qap a b) ((qap a b).length-1)
theorem qoJ(a b:List Int)(k:Nat):qmC a b (k+1)=qmC a b k++qf5 a b (rAt (qay a b) (k+1)) (qap a b) ((qap a b).length-1):=rfl
theorem qrq(a b:List Int)(hR:(qap a b).length<=126):∀k,(qmC a b k).length<=126*k
 |0=>by simp[qmC]
 |k+1=>by
  have:=qrq a b hR k;have:=qm1 a b (rAt (qay a b) (k+1)) (qap a b) ((qap a b).length-1);simp only[qmC,List.length_append];omega
def qql(a b:List Int)(acc:List (List Int))(k:Nat):List (List Int)⊕Unit:= .inl (acc++qf5 a b (rAt (qay a b) k) (qap a b) ((qap a b).length-1))
theorem qCI(a b:List Int):∀(j k:Nat),runN (qql a b) j (qmC a b k) (k+1)= .inl (qmC a b (k+j))
 |0,k=>rfl
 |j+1,k=>by
  simp only[runN,qql];rw[<-qoJ,qCI a b j (k+1)]
  congr 2;omega
theorem qgt:∀(n m:Nat),0<(ways n m).length
 |0,m=>by simp[ways]
 |n+1,m=>by
  have:=qgt n (m-0);simp only[ways,List.range_succ_eq_map,List.flatMap_cons,List.length_append,List.length_map];omega
theorem qxz(a b:List Int)(ha:qbD a=true)(hb:qbD b=true):qau XV 218 [.d (is a),.d (is b)] []=some (.d (iss U (qmC a b ((qay a b).length-1))),[]):=by
 rw[qax XV _ _ _ qz1 rfl qtx rfl];have la:=qaZ ha;have lb:=qaZ hb;have ma:=qbe ha;have mb:=qbe hb;have hR:(qap a b).length<=126:=qcI _ _ (by omega) (by omega);have hL:(qay a b).length<=126:=qcI _ _ (by omega) (by omega);have hR0:0<(qap a b).length:=qgt _ _;have hL0:0<(qay a b).length:=qgt _ _;have hRr:∀i,i<(qap a b).length->(rAt (qap a b) i).length=b.length:=fun i hi=>qdA _ _ _ (qdi hi)
 have hLr:∀i,i<(qay a b).length->(rAt (qay a b) i).length=a.length:=fun i hi=>qdA _ _ _ (qdi hi)
 have h:=qbC (X:=XV) (T:=XV.lin 218) (L:=0) (live:=[0,1,5,6,7,8]) (b:=qrn) (n:=(qay a b).length) (γ:=Unit) (st:=fun(A:List (List Int)) j=>⟨[(0,.d (is a)),(1,.d (is b)),(5,.d (iss U A)),(6,.d (iss .sub (qay a b))),(7,.d (iss .sub (qap a b))),(8,.d (.int .i64 j))],[]⟩) (step:=qql a b)
  (F:=fun A=>(.exit 0,⟨[(0,.d (is a)),(1,.d (is b)),(5,.d (iss U A)),(6,.d (iss .sub (qay a b))),(7,.d (iss .sub (qap a b))),(8,.d (.int .i64 (qay a b).length)),(26,.d (.bool false))],[]⟩)) (R:=fun _=>(.ret,⟨[],[]⟩))
  (fun A j=>0<j/\A=qmC a b (j-1))
  (fun A _=>⟨by simp,by simp[qrn,qia,qh9,qh8,qh7,qh6,qh5,qh3,qh2,qh1,qfb,qfa,qe9,qfc,qh4,qe8]⟩)
  (fun A j hj hinv=>by
   obtain⟨hj0,hA⟩:=hinv;have hw:=qah (n:=j) (by omega);have hAl:=qrq a b hR (j-1);rw[<-hA]at hAl;have ht:=qiA a (rAt (qay a b) j) 0 (by omega) (by rw[hLr j hj];omega) (by rw[hLr j hj];omega);have hI:=qpb a b (rAt (qay a b) j) (qay a b) (qap a b) A j hj rfl (by omega) (by omega) (hLr j hj) (by omega) hR0 (by omega) (by omega) hRr;simp only[qvd]at hI;have hS:A++qf5 a b (rAt (qay a b) j) (qap a b) ((qap a b).length-1)=qmC a b (j+1-1):=by
    rw[hA];obtain⟨i,rfl⟩:∃i,j=i+1:=⟨j-1,by omega⟩;rfl
   unfold qql;rw[hS]at hI⊢
   generalize hg:rAt (qay a b) j=x at*
   have hgx:(qay a b)[j]=x:=by rw[qaS hj,hg]
   simp only[Int.natCast_zero]at ht;generalize W (qcm a x 0 0 a.length)=d2 at*
   generalize qmC a b (j+1-1)=q at hI⊢
   refine⟨⟨_,by simp[qrn,qia,qh9,qh8,qh7,qh6,qh5,qh3,qh2,qh1,qfb,qfa,qe9,qfc,qh4,qe8,hj,hw,cut,hgx,ht,hI];rfl,by simp[qac,qaa]⟩,fun a' h=>by simp at h;subst h;exact⟨by omega,rfl⟩⟩)
  ((qay a b).length-1) (qmC a b 0) 1 ⟨[(0,.d (is a)),(1,.d (is b)),(5,.d (iss U (qmC a b 0))),(6,.d (iss .sub (qay a b))),(7,.d (iss .sub (qap a b))),(8,.d (.int .i64 1))],[]⟩ (by omega) ⟨by omega,rfl⟩ (by simp[qac,qaa])
 rw[qCI a b _ 0,Nat.zero_add]at h;simp only[qvd]at h;have x1:=qyn a (by omega);have x2:=qyn b (by omega);rw[qqd ha]at x1;rw[qqd hb]at x2;have s1:=qo3 b.length (qgg a).toNat (by omega) (by omega);have s2:=qo3 a.length (qgg b).toNat (by omega) (by omega);rw[Int.toNat_of_nonneg (by omega)]at s1 s2;have e1:ways b.length (qgg a).toNat=qap a b:=rfl;have e2:ways a.length (qgg b).toNat=qay a b:=rfl;rw[e1]at s1;rw[e2]at s2;have hz2:iss U (qmC a b 0)=DV.sl U []:=rfl;rw[hz2]at h;generalize qmC a b ((qay a b).length-1)=q at*
 generalize qay a b=lf at*
 generalize qap a b=rt at*
 simp[qz1,qia,qh9,qh8,qh7,qh6,qh5,qh3,qh2,qh1,qfb,qfa,qe9,qfc,qh4,qe8,x1,x2,s1,s2];rw[h];simp[qz1,qia,qh9,qh8,qh7,qh6,qh5,qh3,qh2,qh1,qfb,qfa,qe9,qfc,qh4,qe8]
end Go.Proofs.Ytpcoohnjllclnaa.VS
namespace Go.Proofs.Ytpcoohnjllclnaa.VS
theorem qg9:∀n,n<6->∀m,m<5->(ways n m)[0]?=some (List.replicate n 0)/\(∀r,r∈ways n m->∀e,e∈r->(0:Int)<=e/\e<=4)/\(∀r,r∈(ways n m).drop 1->∃e,e∈r/\(0:Int)<e):=by decide+kernel
theorem qDv(r:List Int)(lo hi:Int)(h0:lo<=0)(h1:0<=hi)(h:∀e,e∈r->lo<=e/\e<=hi)(i:Nat):lo<=iAt r i/\iAt r i<=hi:=by
 unfold iAt;cases hq:r[i]? with
 |none=>simpa using ⟨h0,h1⟩
 |some e=>simpa using h e (List.mem_of_getElem? hq)
theorem qlp(a x:List Int)(o:Nat)(ha:∀i,i<a.length->1<=iAt a i/\iAt a i<=4)(hx:∀i,0<=iAt x i/\iAt x i<=4):∀(k i:Nat),i+k<=a.length->0<=qcm a x o i k/\qcm a x o i k<=16*k
 |0,i,_=>by simp[qcm]
 |k+1,i,h=>by
  have ih:=qlp a x o ha hx k (i+1) (by omega);have h1:=ha i (by omega);have h2:=hx (o+i);have h3:0<=iAt a i*iAt x (o+i):=Int.mul_nonneg (by omega) h2.1;have h4:iAt a i*iAt x (o+i)<=4*4:=Int.mul_le_mul h1.2 h2.2 h2.1 (by omega);simp only[qcm]
  push_cast
  omega
theorem qpM(a x:List Int)(o:Nat)(ha:∀i,i<a.length->1<=iAt a i/\iAt a i<=4)(hx:∀i,0<=iAt x i/\iAt x i<=4):∀(k i j:Nat),i+k<=a.length->i<=j->j<i+k->0<iAt x (o+j)->0<qcm a x o i k
 |0,i,j,_,h1,h2,_=>by omega
 |k+1,i,j,h,h1,h2,h3=>by
  have ih:=qlp a x o ha hx k (i+1) (by omega);have h4:=ha i (by omega);have h5:=hx (o+i);have h6:0<=iAt a i*iAt x (o+i):=Int.mul_nonneg (by omega) h5.1;simp only[qcm]
  by_cases he:j=i
  ·subst he
   have:0<iAt a j*iAt x (o+j):=Int.mul_pos (by omega) h3;omega
  ·have:=qpM a x o ha hx k (i+1) j (by omega) (by omega) (by omega) h3
   omega
theorem qrb(a x:List Int)(o:Nat):∀(k i:Nat),(∀j,i<=j->j<i+k->iAt x (o+j)=0)->qcm a x o i k=0
 |0,i,_=>rfl
 |k+1,i,h=>by
  simp only[qcm];rw[h i (Nat.le_refl _) (by omega),qrb a x o k (i+1) (fun j h1 h2=>h j (by omega) (by omega))];omega
theorem qgZ(a x y:List Int)(o o':Nat):∀(k i:Nat),(∀j,i<=j->j<i+k->iAt x (o+j)=iAt y (o'+j))->qcm a x o i k=qcm a y o' i k
 |0,i,_=>rfl
 |k+1,i,h=>by
  simp only[qcm];rw[h i (Nat.le_refl _) (by omega),qgZ a x y o o' k (i+1) (fun j h1 h2=>h j (by omega) (by omega))]
theorem qch(x y:List Int)(i:Nat)(h:i<x.length):iAt (x++y) i=iAt x i:=by
 unfold iAt;rw[List.getElem?_append_left h]
theorem qca(x y:List Int)(i:Nat):iAt (x++y) (x.length+i)=iAt y i:=by
 unfold iAt;rw[List.getElem?_append_right (by omega)];congr 2;omega
theorem qpC(n i:Nat):iAt (List.replicate n 0) i=0:=by
 unfold iAt;cases hq:(List.replicate n (0:Int))[i]? with
 |none=>rfl
 |some e=>have:=List.eq_of_mem_replicate (List.mem_of_getElem? hq);simp[this]
theorem qmE{x:Int}(h0:0<=x)(h1:x<=1000):W x=x:=wrap_i64 (by omega) (by omega)
theorem qyX(l:List Int):∀(k i:Nat) (m:Int),(0<m\/∃j,i<=j/\j<i+k/\0<iAt l j)->0<mxF l i k m
 |0,i,m,h=>by
  rcases h with h|⟨j,h1,h2,_⟩
  ·exact h
  ·omega
 |k+1,i,m,h=>by
  simp only[mxF];refine qyX l k (i+1) _ ?_;rcases h with h|⟨j,h1,h2,h3⟩
  ·left;split<;>omega
  ·by_cases he:j=i
   ·subst he;left;split<;>omega
   ·exact .inr ⟨j,by omega,by omega,h3⟩
theorem qu2(l:List Int)(hl:∀j,iAt l j=0):∀(k i:Nat),mxF l i k 0=0
 |0,i=>rfl
 |k+1,i=>by simp only[mxF,hl];exact qu2 l hl k (i+1)
structure Way(n:Nat)(x:List Int):Prop where
 len:x.length=n
 at_:∀i,0<=iAt x i/\iAt x i<=4
theorem qhB{n m:Nat}(hn:n<=5)(hm:m<=4){x:List Int}(h:x∈ways n m):Way n x:=
 ⟨qdA n m x h,fun i=>qDv x 0 4 (by omega) (by omega) (fun e he=>(qg9 n (by omega) m (by omega)).2.1 x h e he) i⟩
theorem qqb{n m:Nat}(hn:n<=5)(hm:m<=4):rAt (ways n m) 0=List.replicate n 0:=by
 have:=(qg9 n (by omega) m (by omega)).1;simp[rAt,this]
theorem qtX{n m:Nat}(hn:n<=5)(hm:m<=4){i:Nat}(hi:i+1<(ways n m).length):∃j,j<n/\0<iAt (rAt (ways n m) (i+1)) j:=by
 have hm':rAt (ways n m) (i+1)∈(ways n m).drop 1:=by
  rw[<-qaS hi];exact List.mem_iff_getElem?.2 ⟨i,by rw[List.getElem?_drop,Nat.add_comm 1 i];simp[hi]⟩
 obtain⟨e,he,hp⟩:=(qg9 n (by omega) m (by omega)).2.2 _ hm';obtain⟨j,hj⟩:=List.mem_iff_getElem?.1 he;have hl:=qiY n m (i+1) hi;refine⟨j,by rw[<-hl];exact(List.getElem?_eq_some_iff.1 hj).1,?_⟩;simp[iAt,hj,hp]
theorem qek{a b x y:List Int}(ha:qbD a=true)(hb:qbD b=true)(hx:Way a.length x)(hy:Way b.length y):qcK a b (x++y)=decide (qcm a x 0 0 a.length=qcm b y 0 0 b.length):=by
 have la:=qaZ ha;have lb:=qaZ hb;have hA:=qlp a x 0 (fun i hi=>qd1 ha i hi) hx.at_ a.length 0 (by omega);have hB:=qlp b y 0 (fun i hi=>qd1 hb i hi) hy.at_ b.length 0 (by omega);have e1:qcm a (x++y) 0 0 a.length=qcm a x 0 0 a.length:=qgZ a _ _ 0 0 _ _ (fun j h1 h2=>by
  have:=hx.len;simp only[Nat.zero_add];exact qch x y j (by omega))
 have e2:qcm b (x++y) a.length 0 b.length=qcm b y 0 0 b.length:=qgZ b _ _ a.length 0 _ _ (fun j h1 h2=>by
  rw[<-hx.len,qca,Nat.zero_add])
 have hneg:qaw (qgf (x++y)) (x++y).length 0=none:=by
  cases hq:qaw (qgf (x++y)) (x++y).length 0 with
  |none=>rfl
  |some j=>
   obtain⟨_,h2,h3⟩:=qfn _ _ _ _ hq;exfalso;unfold qgf at h3;simp only[decide_eq_true_eq]at h3
   by_cases hj:j<x.length
   ·rw[qch x y j hj]at h3
    have:=(hx.at_ j).1;omega
   ·obtain⟨i,rfl⟩:∃i,j=x.length+i:=⟨j-x.length,by omega⟩
    rw[qca]at h3;have:=(hy.at_ i).1;omega
 unfold qcK;rw[hneg,e1,e2,qmE hA.1 (by omega),qmE hB.1 (by omega)];have hl:(x++y).length=a.length+b.length:=by rw[List.length_append,hx.len,hy.len]
 simp[hl];rw[Bool.eq_iff_iff];simp
theorem qn0{a b x y:List Int}(ha:qbD a=true)(hb:qbD b=true)(hx:Way a.length x)(hy:Way b.length y):qps a b x y=decide (qcm a x 0 0 a.length=qcm b y 0 0 b.length):=by
 have la:=qaZ ha;have lb:=qaZ hb;have hA:=qlp a x 0 (fun i hi=>qd1 ha i hi) hx.at_ a.length 0 (by omega);have hB:=qlp b y 0 (fun i hi=>qd1 hb i hi) hy.at_ b.length 0 (by omega);unfold qps;rw[qmE hA.1 (by omega),qmE hB.1 (by omega),Bool.eq_iff_iff];simp only[beq_iff_eq,decide_eq_true_eq];constructor<;>exact fun h=>h.symm
end Go.Proofs.Ytpcoohnjllclnaa.VS
namespace Go.Proofs.Ytpcoohnjllclnaa.VS
theorem qqZ{x y:List Int}(h0:0<x.length)(h:∃j,j<x.length/\0<iAt x j):0<qgg (x++y):=by
 obtain⟨j,h1,h2⟩:=h;have hl:(x++y).length=x.length+y.length:=List.length_append;unfold qgg;refine qyX _ _ _ _ ?_
 by_cases hj:j=0
 ·subst hj
  left;rw[qch x y 0 h0];exact h2
 ·right
  exact⟨j,by omega,by omega,by rw[qch x y j h1];exact h2⟩
theorem qyb{a b:List Int}(ha:qbD a=true)(hb:qbD b=true):qfu a b=qmC a b ((qay a b).length-1):=by
 have la:=qaZ ha;have lb:=qaZ hb;have ma:=qbe ha;have mb:=qbe hb;have na:(qgg a).toNat<=4:=by omega
 have nb:(qgg b).toNat<=4:=by omega
 have hR0:0<(qap a b).length:=qgt _ _;have hL0:0<(qay a b).length:=qgt _ _;have wL:∀i,i<(qay a b).length->Way a.length (rAt (qay a b) i):=fun i hi=>qhB la.2 nb (qdi hi)
 have wR:∀i,i<(qap a b).length->Way b.length (rAt (qap a b) i):=fun i hi=>qhB lb.2 na (qdi hi)
 have zL:rAt (qay a b) 0=List.replicate a.length 0:=qqb la.2 nb;have zR:rAt (qap a b) 0=List.replicate b.length 0:=qqb lb.2 na;have pL:∀i,i+1<(qay a b).length->∃j,j<a.length/\0<iAt (rAt (qay a b) (i+1)) j:=fun i hi=>qtX la.2 nb hi
 have pR:∀i,i+1<(qap a b).length->∃j,j<b.length/\0<iAt (rAt (qap a b) (i+1)) j:=fun i hi=>qtX lb.2 na hi
 have dz:∀(c:List Int) (n:Nat),qcm c (List.replicate n 0) 0 0 c.length=0:=fun c n=>qrb c _ 0 _ _ (fun j _ _=>qpC _ _)
 have s0:∀k,k<=(qap a b).length->qb2 a b (rAt (qay a b) 0) (qap a b) k=[]:=by
  intro k
  induction k with
  |zero=>intro _;simp[qb2]
  |succ k ih=>
   intro hk;rw[qeB a b _ _ k (by omega),ih (by omega)];have hp:qff a b (rAt (qay a b) 0++rAt (qap a b) k)=false:=by
    have hs:=qek ha hb (wL 0 hL0) (wR k (by omega));unfold qff;rw[hs,zL,dz];cases k with
    |zero=>
     rw[zR];have:qgg (List.replicate a.length 0++List.replicate b.length 0)=0:=by
      rw[List.replicate_append_replicate];unfold qgg;rw[qpC];exact qu2 _ (fun j=>qpC _ j) _ _
     rw[this];rfl
    |succ k=>
     obtain⟨j,h1,h2⟩:=pR k (by omega);have:=qpM b (rAt (qap a b) (k+1)) 0 (fun i hi=>qd1 hb i hi) (wR (k+1) (by omega)).at_ b.length 0 j (by omega) (by omega) (by omega) (by rw[Nat.zero_add];exact h2);have hne:¬((0:Int)=qcm b (rAt (qap a b) (k+1)) 0 0 b.length):=by omega
     simp[hne]
   rw[hp];rfl
 have s1:∀i,i+1<(qay a b).length->∀k,k+1<=(qap a b).length->qb2 a b (rAt (qay a b) (i+1)) (qap a b) (k+1)=qf5 a b (rAt (qay a b) (i+1)) (qap a b) k:=by
  intro i hi k;have hw:=wL (i+1) hi;obtain⟨j,j1,j2⟩:=pL i hi;have hd:=qpM a (rAt (qay a b) (i+1)) 0 (fun i hi=>qd1 ha i hi) hw.at_ a.length 0 j (by omega) (by omega) (by omega) (by rw[Nat.zero_add];exact j2);have hm:∀y,0<qgg (rAt (qay a b) (i+1)++y):=fun y=>qqZ (by rw[hw.len];omega) ⟨j,by rw[hw.len];exact j1,j2⟩
  have hp:∀k,k<(qap a b).length->qff a b (rAt (qay a b) (i+1)++rAt (qap a b) k)=qps a b (rAt (qay a b) (i+1)) (rAt (qap a b) k):=fun k hk=>by
   unfold qff;rw[qek ha hb hw (wR k hk),qn0 ha hb hw (wR k hk)];simp[hm]
  induction k with
  |zero=>
   intro hk;rw[qeB a b _ _ 0 (by omega),hp 0 (by omega),qn0 ha hb hw (wR 0 (by omega)),zR,dz];have hne:¬(qcm a (rAt (qay a b) (i+1)) 0 0 a.length=0):=by omega
   simp[hne,qb2,qf5]
  |succ k ih=>
   intro hk;rw[qeB a b _ _ (k+1) (by omega),ih (by omega),hp (k+1) (by omega),qkD]
 have main:∀k,k+1<=(qay a b).length->qd7 a b (k+1)=qmC a b k:=by
  intro k
  induction k with
  |zero=>
   intro hk;rw[qet a b 0 (by omega),s0 _ (Nat.le_refl _)];simp[qd7,qmC]
  |succ k ih=>
   intro hk;rw[qet a b (k+1) (by omega),ih (by omega),qoJ];have:=s1 k (by omega) ((qap a b).length-1) (by omega);rw[show(qap a b).length-1+1=(qap a b).length by omega]at this;rw[this]
 have:=main ((qay a b).length-1) (by omega);rw[show(qay a b).length-1+1=(qay a b).length by omega]at this;exact this
theorem qhE(a b:List Int)(la:a.length<=1099511627776)(lb:b.length<=1099511627776):
 qau XV 208 [.d (is a),.d (is b)] []=some (.d (.tup (if qbD a=true/\qbD b=true/\(qar a b).length<=60 then [.sl U ((qar a b).map (ints .sub)),.bool true]else [.sl U [],.bool false])),[]):=by
 rw[qax XV _ _ _ qt1 rfl qtF rfl];have f1:=qvG a la;have f2:=qvG b lb;cases ha:qbD a with
 |false=>rw[ha]at f1;simp[qt1,qdZ,qdY,qdX,qdW,qdV,qdU,qdT,qdR,qdQ,qcA,qcP,qcz,qcy,qcx,qdS,qcw,qcv,qcu,f1]
 |true=>
  rw[ha]at f1;cases hb:qbD b with
  |false=>rw[hb]at f2;simp[qt1,qdZ,qdY,qdX,qdW,qdV,qdU,qdT,qdR,qdQ,qcA,qcP,qcz,qcy,qcx,qdS,qcw,qcv,qcu,f1,f2]
  |true=>
   rw[hb]at f2;have la:=qaZ ha;have lb:=qaZ hb;have ma:=qbe ha;have mb:=qbe hb;have hR:(qap a b).length<=126:=qcI _ _ (by omega) (by omega);have hL:(qay a b).length<=126:=qcI _ _ (by omega) (by omega);have hA:=qg7 a b hR (qay a b).length (Nat.le_refl _);have hI:=qxz a b ha hb;rw[<-qyb ha hb]at hI;have hJ:=qlT (qfu a b) (a.length+b.length) (by unfold qfu;omega) (by omega) (fun i hi=>qgl a b _ _ (qdi hi));simp only[qve]at hJ;have eB:qbg (qfu a b) (qfu a b).length=qar a b:=rfl;rw[eB]at hJ;generalize qfu a b=al at*
   by_cases h60:(qar a b).length<=60
   ·have h61:¬(60:Int)<(qar a b).length:=by omega
    generalize qar a b=bl at*
    simp[qt1,qdZ,qdY,qdX,qdW,qdV,qdU,qdT,qdR,qdQ,qcA,qcP,qcz,qcy,qcx,qdS,qcw,qcv,qcu,f1,f2,hI];rw[hJ];simp[qt1,qdZ,qdY,qdX,qdW,qdV,qdU,qdT,qdR,qdQ,qcA,qcP,qcz,qcy,qcx,qdS,qcw,qcv,qcu,h60,h61]
   ·have h61:(60:Int)<(qar a b).length:=by omega
    generalize qar a b=bl at*
    simp[qt1,qdZ,qdY,qdX,qdW,qdV,qdU,qdT,qdR,qdQ,qcA,qcP,qcz,qcy,qcx,qdS,qcw,qcv,qcu,f1,f2,hI];rw[hJ];simp[qt1,qdZ,qdY,qdX,qdW,qdV,qdU,qdT,qdR,qdQ,qcA,qcP,qcz,qcy,qcx,qdS,qcw,qcv,qcu,h60,h61]
end Go.Proofs.Ytpcoohnjllclnaa.VS
namespace Go.Proofs.Ytpcoohnjllclnaa.VS
def qrp(x:Int):Int:=IntKind.i64.wrap ((BitVec.ofInt 64 x&&&BitVec.ofInt 64 255).toNat:Int)
def qG3(x y:Int):Int:=IntKind.i64.wrap ((BitVec.ofInt 64 x^^^BitVec.ofInt 64 y).toNat:Int)
theorem qin(x:Int):qd3 .and .i64 x 255=some (.int .i64 (qrp x)):=rfl
theorem qoh(x y:Int):qd3 .xor .i64 x y=some (.int .i64 (qG3 x y)):=rfl
theorem qjO(x:Int):qd3 .shr .i64 x 33=some (.int .i64 (x.fdiv 8589934592)):=rfl
theorem qjN(x:Int):qd3 .shr .i64 x 45=some (.int .i64 (x.fdiv 35184372088832)):=rfl
theorem qoI(x:Int):0<=qrp x/\qrp x<=255:=by
 have h:(BitVec.ofInt 64 x&&&BitVec.ofInt 64 255).toNat<=255:=by
  rw[BitVec.toNat_and];exact Nat.le_trans Nat.and_le_right (by decide)
 unfold qrp;generalize (BitVec.ofInt 64 x&&&BitVec.ofInt 64 255).toNat=n at*
 rw[wrap_i64 (by omega) (by omega)];omega
def qcS(bs:List Int)(pos st:Int):List AV:=[.d (.sl .sub (bs.map (.int .u8))),.d (.int .i64 pos),.d (.int .i64 st)]
theorem qx4{B:qak}{i:Nat}{c:List AV}(h:i<B.length):qa2 (B.set i (some c)) i=some c:=by simp[qa2,h]
theorem qwp{B:qak}{i:Nat}{c:List AV}(h:qa2 B i=some c):i<B.length:=by
 rcases Nat.lt_or_ge i B.length with h1|h1
 ·exact h1
 ·simp[qa2,List.getElem?_eq_none h1]at h
theorem qri{B:qak}{i:Nat}{c:List AV}(h:qa2 B i=some c):B[i]?=some (some c):=by
 unfold qa2 at h;split at h
 ·rename_i c' hc;rw[hc];simpa using h
 ·simp at h
theorem qvk(bs:List Int)(hl:bs.length<=1099511627776)(B:qak)(i:Nat)(pos st:Int)(hB:qa2 B i=some (qcS bs pos st))(hp:0<=pos/\pos<=bs.length):
 ∃b pos' st':Int,(0<=b/\b<=255)/\(0<=pos'/\pos'<=bs.length)/\qau XV 165 [.ptr i 0] B=some (.d (.int .i64 b),B.set i (some (qcS bs pos' st'))):=by
 have hi:=qwp hB;have hnl:¬B.length<=i:=by omega
 have htake:∀c:Option (List AV),List.take B.length (B.set i c)=B.set i c:=fun c=>List.take_of_length_le (by simp)
 have hset:∀c:Option (List AV),(B.set i c)[i]?=some c:=fun c=>by simp[hi]
 rw[qax XV _ _ _ qz6 rfl qtK rfl];have hB:=qri hB;unfold qcS at hB⊢
 by_cases c:pos<bs.length
 ·have hw:IntKind.i64.wrap (pos+1)=pos+1:=wrap_i64 (by omega) (by omega)
  have hlt:pos.toNat<bs.length:=by omega
  refine⟨_,_,_,?_,?_,by simp[qz6,quU,quT,qy9,qy8,qy7,quP,quO,qai,hB,hset,splice,qin,qoh,qjO,qjN,qoi,hnl,c,hp,hlt,hw,cut,qam,qaD,qaG,qa8,qcn,htake];exact⟨rfl,rfl⟩⟩
  ·exact qoI _
  ·exact⟨by omega,by omega⟩
 ·refine⟨_,_,_,?_,?_,by simp[qz6,quU,quT,qy9,qy8,qy7,quP,quO,qai,hB,hset,splice,qin,qoh,qjO,qjN,qoi,hnl,c,cut,qam,qaD,qaG,qa8,qcn,htake];exact⟨rfl,rfl⟩⟩
  ·exact qoI _
  ·exact hp
def qdf(bs:List Int)(i:Nat)(B B':qak):Prop:=∃pos st:Int,(0<=pos/\pos<=bs.length)/\B'=B.set i (some (qcS bs pos st))
def qck(bs:List Int)(i:Nat)(B:qak):Prop:=∃pos st:Int,(0<=pos/\pos<=bs.length)/\qa2 B i=some (qcS bs pos st)
theorem qdf.at{bs:List Int}{i:Nat}{B B':qak}(hi:i<B.length)(h:qdf bs i B B'):qck bs i B':=by
 obtain⟨pos,st,hp,rfl⟩:=h;exact⟨pos,st,hp,qx4 hi⟩
theorem qdf.len{bs:List Int}{i:Nat}{B B':qak}(h:qdf bs i B B'):B'.length=B.length:=by
 obtain⟨pos,st,hp,rfl⟩:=h;simp
theorem qdf.trans{bs:List Int}{i:Nat}{B B' B'':qak}(h:qdf bs i B B')(h':qdf bs i B' B''):qdf bs i B B'':=by
 obtain⟨pos,st,hp,rfl⟩:=h;obtain⟨pos',st',hp',rfl⟩:=h';exact⟨pos',st',hp',by simp⟩
theorem qck.lt{bs:List Int}{i:Nat}{B:qak}(h:qck bs i B):i<B.length:=by
 obtain⟨_,_,_,h⟩:=h;exact qwp h
theorem qvl(bs:List Int)(hl:bs.length<=1099511627776)(B:qak)(i:Nat)(h:qck bs i B):∃(b:Int) (B':qak),(0<=b/\b<=255)/\qdf bs i B B'/\qau XV 165 [.ptr i 0] B=some (.d (.int .i64 b),B'):=by
 obtain⟨pos,st,hp,hB⟩:=h;obtain⟨b,pos',st',h1,h2,h3⟩:=qvk bs hl B i pos st hB hp;exact⟨b,_,h1,⟨pos',st',h2,rfl⟩,h3⟩
theorem qht(x n:Int)(h:n≠0):qd3 .rem .i64 x n=some (.int .i64 (x.tmod n)):=by simp[qd3,h]
theorem qbc(bs:List Int)(hl:bs.length<=1099511627776)(B:qak)(i:Nat)(h:qck bs i B)(n:Int)(hn:0<n)(hn2:n<=256):∃(r:Int) (B':qak),(0<=r/\r<n)/\qdf bs i B B'/\qau XV 159 [.ptr i 0,.d (.int .i64 n)] B=some (.d (.int .i64 r),B'):=by
 obtain⟨b,B',hb,hT,hc⟩:=qvl bs hl B i h;have hi:=h.lt;have hlen:=hT.len;have hm:b.tmod n=b%n:=Int.tmod_eq_emod_of_nonneg hb.1;have hr:=qht b n (by omega);have htake:List.take B.length B'=B':=List.take_of_length_le (by omega);refine⟨b%n,B',⟨Int.emod_nonneg _ (by omega),Int.emod_lt_of_pos _ hn⟩,hT,?_⟩;rw[qax XV _ _ _ qBN rfl qtM rfl];have c1:¬n<=0:=by omega
 simp[qBN,qyP,qyO,qyN,qyM,qyL,qyK,qyJ,qyI,qyH,qyG,c1,hn2,hc,hr,hm,htake,hi]
theorem qik(bs:List Int)(hl:bs.length<=1099511627776)(B:qak)(i:Nat)(h:qck bs i B)(l:List Int)(h0:0<l.length)(h1:l.length<=256):∃(j:Nat) (hj:j<l.length) (B':qak),qdf bs i B B'/\qau XV 160 [.ptr i 0,.d (.sl .sub (l.map (.int .i64)))] B=some (.d (.int .i64 l[j]),B'):=by
 obtain⟨r,B',hr,hT,hc⟩:=qbc bs hl B i h l.length (by omega) (by omega);have hi:=h.lt;have hlen:=hT.len;have htake:List.take B.length B'=B':=List.take_of_length_le (by omega);refine⟨r.toNat,by omega,B',hT,?_⟩;rw[qax XV _ _ _ qBM rfl qtL rfl];have hlt:r.toNat<l.length:=by omega
 simp[qBM,qyF,qyE,hc,hr,hlt,htake,hi,cut]
def qEW(x:Int):Int:=IntKind.i64.wrap ((BitVec.ofInt 64 x&&&BitVec.ofInt 64 1073741823).toNat:Int)
theorem qsm(x:Int):qd3 .and .i64 x 1073741823=some (.int .i64 (qEW x)):=rfl
def qyp(bs:List Int)(s:Int)(i:Nat):Int⊕Unit:= .inl (qEW (IntKind.i64.wrap (IntKind.i64.wrap (IntKind.i64.wrap (s*131)+IntKind.i64.wrap ((bs[i]?).getD 0))+7)))
theorem qqp{β:Type}(f:β->Nat->β):∀(k:Nat) (a:β) (i:Nat),∃b,runN (fun a i=>(.inl (f a i):β⊕Unit)) k a i= .inl b
 |0,a,i=>⟨a,rfl⟩
 |k+1,a,i=>by simp only[runN];exact qqp f k _ _
theorem qiN(bs:List Int)(hl:bs.length<=1099511627776)(B:qak):∃st:Int,qau XV 156 [.d (.sl .sub (bs.map (.int .u8)))] B=some (.ptr B.length 0,B++[some (qcS bs 0 st)]):=by
 have hn:min bs.length 4000<=bs.length:=Nat.min_le_left _ _;have h:=qas (X:=XV) (T:=XV.lin 156) (L:=B.length) (live:=[0,3,4]) (b:=qoG) (n:=min bs.length 4000) (γ:=Unit) (st:=fun(s:Int) i=>⟨[(0,.d (.sl .sub (bs.map (.int .u8)))),(3,.d (.int .i64 s)),(4,.d (.int .i64 i))],B⟩) (step:=qyp bs)
  (F:=fun s=>(.exit 0,⟨[(0,.d (.sl .sub (bs.map (.int .u8)))),(3,.d (.int .i64 s)),(4,.d (.int .i64 (min bs.length 4000:Nat))),(15,.d (.bool false))],B⟩)) (R:=fun _=>(.ret,⟨[],B⟩))
  (fun s=>⟨by simp,by
   by_cases c:bs.length<=4000
   ·rw[Nat.min_eq_left c];simp[qoG,qnY,qnX,qnW,qqQ,qqO,qqP,qnV]
   ·have c1:(4000:Int)<bs.length:=by omega
    rw[Nat.min_eq_right (by omega)];simp[qoG,qnY,qnX,qnW,qqQ,qqO,qqP,qnV,c1,show¬bs.length<=4000 from c]⟩)
  (fun s i hi=>by
   have hw:=qah (n:=i) (by omega);have h1:i<bs.length:=by omega
   have h2:(i:Int)<4000:=by omega
   refine⟨_,by simp[qoG,qnY,qnX,qnW,qqQ,qqO,qqP,qnV,h1,h2,hw,cut,qsm];rfl,by simp[qac,qaa,h1]⟩)
  (min bs.length 4000) (IntKind.i64.wrap (27064+bs.length)) 0 ⟨[(0,.d (.sl .sub (bs.map (.int .u8)))),(3,.d (.int .i64 (IntKind.i64.wrap (27064+bs.length)))),(4,.d (.int .i64 0))],B⟩ (by omega) (by simp[qac,qaa])
 obtain⟨st,hst⟩:=qqp (fun(s:Int) (i:Nat)=>qEW (IntKind.i64.wrap (IntKind.i64.wrap (IntKind.i64.wrap (s*131)+IntKind.i64.wrap ((bs[i]?).getD 0))+7))) (min bs.length 4000) (IntKind.i64.wrap (27064+bs.length)) 0;rw[show qyp bs=fun s i=>(.inl (qEW (IntKind.i64.wrap (IntKind.i64.wrap (IntKind.i64.wrap (s*131)+IntKind.i64.wrap ((bs[i]?).getD 0))+7))):Int⊕Unit)from rfl,hst]at h;refine⟨st,?_⟩;rw[qax XV _ _ _ qBO rfl qtN rfl];simp[qBO,qnY,qnX,qnW];simp only[qAP]at h;rw[h];simp[qnV,qcS,qam,qaD,qaG,qa8,splice,qai]
end Go.Proofs.Ytpcoohnjllclnaa.VS
namespace Go.Proofs.Ytpcoohnjllclnaa.VS
@[simp high] theorem qsG(l:List Int):(l.map (DV.int .u8)).map DV.clr=l.map (DV.int .u8):=by simp[List.map_map,Function.comp_def]
theorem qEc(bs:List Int):qau XV 133 [.d (.sl .sub (bs.map (.int .u8)))] []=some (.d (.bool (decide (1048576<bs.length))),[]):=by
 rw[qax XV _ _ _ qBP rfl qtO rfl];have h:decide ((1048576:Int)<bs.length)=decide (1048576<bs.length):=by congr 1;apply propext;omega
 simp[qBP,qyR,qyQ,h]
def qBD(l:List Int):Prop:=∀x,x∈l->-3<=x/\x<=9
theorem qmr(bs:List Int)(hl:bs.length<=1099511627776)(q L:Nat):∀(k i:Nat) (l:List Int) (B:qak),i+k=5->l.length<=i->qBD l->B.length=L->qck bs q B->
 ∀s0,qac L [0,3,4] s0=some ⟨[(0,.ptr q 0),(3,.d (.sl U (l.map (.int .i64)))),(4,.d (.int .i64 i))],B⟩->
 ∃(l':List Int) (i':Nat) (B':qak),l'.length<=5/\qBD l'/\qdf bs q B B'/\qdl XV [2,3,5,12,16,17,18] L [0,3,4] qlD s0=some (.exit 0,⟨[(0,.ptr q 0),(3,.d (.sl U (l'.map (.int .i64)))),(4,.d (.int .i64 i')),(9,.d (.bool false))],B'⟩):=by
 intro k
 induction k with
 |zero=>
  intro i l B hik hli hs hB hsd s0 h0;obtain⟨r,B1,hr,hT,hc⟩:=qbc bs hl B q hsd 6 (by omega) (by omega);refine⟨l,i,B1,by omega,hs,hT,qco h0 ?_ (by simp)⟩;have hn:¬((i:Int)<r):=by omega
  simp[qlD,qqN,hc,hn]
 |succ k ih=>
  intro i l B hik hli hs hB hsd s0 h0;obtain⟨r,B1,hr,hT,hc⟩:=qbc bs hl B q hsd 6 (by omega) (by omega);have hq:=hsd.lt
  by_cases hn:(i:Int)<r
  ·have hq1:qck bs q B1:=hT.at hq
   obtain⟨j,hj,B2,hT2,hc2⟩:=qik bs hl B1 q hq1 [0,1,2,5,9,-3] (by simp) (by simp);have hl2:B2.length=L:=by rw[hT2.len,hT.len,hB]
   have hall:∀x:Int,x∈([0,1,2,5,9,-3]:List Int)->-3<=x/\x<=9:=fun x hx=>by
    simp only[List.mem_cons,List.not_mem_nil,or_false]at hx;omega
   have hx:=hall _ (List.getElem_mem hj);generalize ([0,1,2,5,9,-3]:List Int)[j]=x at hc2 hx;have ha:=qec l [x] U (by simp;omega);have hw:=qah (n:=i) (by omega);simp only[List.map_cons,List.map_nil]at hc2 ha;have hb:qaN XV [2,3,5,12,16,17,18] qlD ⟨[(0,.ptr q 0),(3,.d (.sl U (l.map (.int .i64)))),(4,.d (.int .i64 i))],B⟩=some (.normal,⟨[(0,.ptr q 0),(3,.d (.sl U ((l++[x]).map (.int .i64)))),(4,.d (.int .i64 ((i+1:Nat):Int)))],B2⟩):=by
    generalize (l++[x]).map (DV.int .i64)=l3 at ha⊢
    generalize l.map (DV.int .i64)=l4 at ha⊢
    simp[qlD,quM,quL,quK,qqN,qyC,qyD,qqM,hc,hn,hc2,ha,hw,qav,List.replicate,qam]
   rw[qfE h0 hb];obtain⟨l',i',B',g1,g2,g3,g4⟩:=ih (i+1) (l++[x]) B2 (by omega) (by simp;omega) (fun y hy=>by
    rcases List.mem_append.1 hy with h|h
    ·exact hs y h
    ·simp at h;subst h;exact hx) hl2 (hT2.at (by rw[hT.len];exact hq)) ⟨[(0,.ptr q 0),(3,.d (.sl U ((l++[x]).map (.int .i64)))),(4,.d (.int .i64 ((i+1:Nat):Int)))],B2⟩ (qfF (e:=[]) (by simp) (by simp[qaa];omega) hl2 (by simp))
   exact⟨l',i',B',g1,g2,(hT.trans hT2).trans g3,g4⟩
  ·refine⟨l,i,B1,by omega,hs,hT,qco h0 ?_ (by simp)⟩
   simp[qlD,qqN,hc,hn]
theorem qeN(bs:List Int)(hl:bs.length<=1099511627776)(B:qak)(q:Nat)(h:qck bs q B):∃(l:List Int) (B':qak),l.length<=5/\qBD l/\qdf bs q B B'/\qau XV 203 [.ptr q 0] B=some (.d (.sl U (l.map (.int .i64))),B'):=by
 obtain⟨l,i,B',h1,h2,h3,h4⟩:=qmr bs hl q B.length 5 0 [] B rfl (by simp) (fun x hx=>by simp at hx) rfl h ⟨[(0,.ptr q 0),(3,.d (.sl U [])),(4,.d (.int .i64 0))],B⟩ (qfF (e:=[]) (by simp) (by simp[qaa];exact h.lt) rfl (by simp));refine⟨l,B',h1,h2,h3,?_⟩;have htk:List.take B.length B'=B':=List.take_of_length_le (by rw[h3.len];exact Nat.le_refl _);rw[qax XV _ _ _ qBL rfl qtJ rfl];have hq:=h.lt;simp[qBL,quM,quL,quK,qqM,qav,List.replicate,hq];rw[h4];simp[qqM,htk]
theorem qiJ(bs:List Int)(B:qak)(st:Int):qck bs B.length (B++[some (qcS bs 0 st)]):=by
 exact⟨0,st,⟨Int.le_refl _,by omega⟩,by simp[qa2]⟩
end Go.Proofs.Ytpcoohnjllclnaa.VS
namespace Go.Proofs.Ytpcoohnjllclnaa.VS
theorem qvi(bs:List Int)(hl:bs.length<=1099511627776)(B:qak)(i:Nat)(h:qck bs i B)(n:Int)(hn:0<n)(hn2:n<=256):∃(r:Bool) (B':qak),qdf bs i B B'/\qau XV 162 [.ptr i 0,.d (.int .i64 n)] B=some (.d (.bool r),B'):=by
 obtain⟨r,B',h1,h2,h3⟩:=qbc bs hl B i h n hn hn2;refine⟨r==0,B',h2,?_⟩;have htk:List.take B.length B'=B':=List.take_of_length_le (by rw[h2.len];exact Nat.le_refl _);have hq:=h.lt;rw[qax XV _ _ _ qym rfl qmQ rfl];simp[qym,quW,quV,h3,htk,hq]
theorem qmq(bs:List Int)(hl:bs.length<=1099511627776)(q L:Nat):∀(k i:Nat) (l:List Int) (B:qak),i+k=3->l.length<=i->B.length=L->qck bs q B->
 ∀s0,qac L [0,3,4] s0=some ⟨[(0,.ptr q 0),(3,.d (.sl U (l.map (.int .i64)))),(4,.d (.int .i64 i))],B⟩->
 ∃(l':List Int) (i':Nat) (B':qak),l'.length<=3/\qdf bs q B B'/\qdl XV (XV.lin 231) L [0,3,4] qlv s0=some (.exit 0,⟨[(0,.ptr q 0),(3,.d (.sl U (l'.map (.int .i64)))),(4,.d (.int .i64 i')),(10,.d (.bool false))],B'⟩):=by
 intro k
 induction k with
 |zero=>
  intro i l B hik hli hB hsd s0 h0;obtain⟨r,B1,hr,hT,hc⟩:=qbc bs hl B q hsd 3 (by omega) (by omega);refine⟨l,i,B1,by omega,hT,qco h0 ?_ (by simp)⟩;have hw:IntKind.i64.wrap (1+r)=1+r:=wrap_i64 (by omega) (by omega);have hn:¬((i:Int)<1+r):=by omega
  simp[qlv,qqA,hc,hn,hw]
 |succ k ih=>
  intro i l B hik hli hB hsd s0 h0;obtain⟨r,B1,hr,hT,hc⟩:=qbc bs hl B q hsd 3 (by omega) (by omega);have hw1:IntKind.i64.wrap (1+r)=1+r:=wrap_i64 (by omega) (by omega);have hq:=hsd.lt
  by_cases hn:(i:Int)<1+r
  ·have hq1:qck bs q B1:=hT.at hq
   obtain⟨x,B2,hx,hT2,hc2⟩:=qbc bs hl B1 q hq1 3 (by omega) (by omega);have hw2:IntKind.i64.wrap (1+x)=1+x:=wrap_i64 (by omega) (by omega);have hl2:B2.length=L:=by rw[hT2.len,hT.len,hB]
   have ha:=qec l [1+x] U (by simp;omega);have hw:=qah (n:=i) (by omega);simp only[List.map_cons,List.map_nil]at ha;have hb:qaN XV (XV.lin 231) qlv ⟨[(0,.ptr q 0),(3,.d (.sl U (l.map (.int .i64)))),(4,.d (.int .i64 i))],B⟩=some (.normal,⟨[(0,.ptr q 0),(3,.d (.sl U ((l++[1+x]).map (.int .i64)))),(4,.d (.int .i64 ((i+1:Nat):Int)))],B2⟩):=by
    generalize (l++[1+x]).map (DV.int .i64)=l3 at ha⊢
    generalize l.map (DV.int .i64)=l4 at ha⊢
    simp[qlv,qqD,qqC,qqB,qqA,qyq,qyr,qqz,qqy,qqx,hc,hn,hc2,ha,hw,hw1,hw2,qav,List.replicate,qam]
   rw[qfE h0 hb];obtain⟨l',i',B',g1,g3,g4⟩:=ih (i+1) (l++[1+x]) B2 (by omega) (by simp;omega) hl2 (hT2.at (by rw[hT.len];exact hq)) ⟨[(0,.ptr q 0),(3,.d (.sl U ((l++[1+x]).map (.int .i64)))),(4,.d (.int .i64 ((i+1:Nat):Int)))],B2⟩ (qfF (e:=[]) (by simp) (by simp[qaa];omega) hl2 (by simp));exact⟨l',i',B',g1,(hT.trans hT2).trans g3,g4⟩
  ·refine⟨l,i,B1,by omega,hT,qco h0 ?_ (by simp)⟩
   simp[qlv,qqA,hc,hn,hw1]
theorem qeM(bs:List Int)(hl:bs.length<=1099511627776)(B:qak)(q:Nat)(h:qck bs q B):∃(l:List Int) (B':qak),l.length<=4/\qdf bs q B B'/\qau XV 231 [.ptr q 0] B=some (.d (.sl U (l.map (.int .i64))),B'):=by
 obtain⟨l,i,B',h1,h3,h4⟩:=qmq bs hl q B.length 3 0 [] B rfl (by simp) rfl h ⟨[(0,.ptr q 0),(3,.d (.sl U [])),(4,.d (.int .i64 0))],B⟩ (qfF (e:=[]) (by simp) (by simp[qaa];exact h.lt) rfl (by simp));have hq:=h.lt;have hq':q<B'.length:=by rw[h3.len];exact hq
 have hB':B'.length=B.length:=h3.len;obtain⟨r,B2,hT2,h5⟩:=qvi bs hl B' q (h3.at hq) 12 (by omega) (by omega);have hB2:B2.length=B.length:=by rw[hT2.len,hB']
 cases r with
 |false=>
  refine⟨l,B2,by omega,h3.trans hT2,?_⟩;have htk:List.take B.length B2=B2:=List.take_of_length_le (by omega);rw[qax XV _ _ _ qyk rfl qmL rfl];simp only[qva]at h4;generalize l.map (DV.int .i64)=lm at h4⊢
  simp[qyk,qqD,qqC,qqB,qav,List.replicate,hq];rw[h4];simp[qqz,qqy,qqx,h5,htk,hB2,hB',hq]
 |true=>
  obtain⟨j,hj,B3,hT3,h6⟩:=qik bs hl B2 q (hT2.at hq') [0,4,5,-1] (by simp) (by simp);generalize ([0,4,5,-1]:List Int)[j]=x at h6;have hB3:B3.length=B.length:=by rw[hT3.len,hB2]
  have ha:=qec l [x] U (by simp;omega);refine⟨l++[x],B3,by simp;omega,(h3.trans hT2).trans hT3,?_⟩;have htk:List.take B.length B3=B3:=List.take_of_length_le (by omega);simp only[List.map_cons,List.map_nil]at h6 ha;rw[qax XV _ _ _ qyk rfl qmL rfl];simp only[qva]at h4;generalize (l++[x]).map (DV.int .i64)=l3 at ha⊢
  generalize l.map (DV.int .i64)=lm at h4 ha⊢
  simp[qyk,qqD,qqC,qqB,qav,List.replicate,hq];rw[h4];simp[qqz,qqy,qqx,h5,h6,ha,htk,hB2,hB',hB3,hq,qav,List.replicate,qam]
theorem qoo(bs:List Int)(hl:bs.length<=1099511627776):∃a b:List Int,a.length<=4/\b.length<=4/\qau XV 206 [.d (.sl .sub (bs.map (.int .u8)))] []=some (.d (.tup [.sl U (a.map (.int .i64)),.sl U (b.map (.int .i64))]),[]):=by
 obtain⟨st,h1⟩:=qiN bs hl [];have hs:=qiJ bs [] st;obtain⟨a,B1,g1,hT,h2⟩:=qeM bs hl _ 0 hs;obtain⟨b,B2,g2,hT2,h3⟩:=qeM bs hl B1 0 (hT.at hs.lt);refine⟨a,b,g1,g2,?_⟩;have hb1:B1.length=1:=by rw[hT.len];simp
 have hb2:B2.length=1:=by rw[hT2.len,hb1]
 simp only[List.nil_append,List.length_nil]at h1 h2;rw[qax XV _ _ _ qBK rfl qtH rfl];generalize a.map (DV.int .i64)=lm at h2⊢
 generalize b.map (DV.int .i64)=ln at h3⊢
 simp[qBK,qyB,qyA,qyz,qyy,h1,h2,h3,hb1,hb2]
theorem at_eq(bs:List Int)(i:Nat)(hl:bs.length<=1099511627776)(hi:i<=1099511627776):∃v:Int,qau XV 214 [.d (.sl .sub (bs.map (.int .u8))),.d (.int .i64 i)] []=some (.d (.int .i64 v),[]):=by
 by_cases h:i<bs.length
 ·refine⟨IntKind.i64.wrap (bs[i]),?_⟩
  rw[qax XV _ _ _ qyl rfl qmO rfl];simp[qyl,quE,quD,quC,quB,h,cut]
 ·have hw1:IntKind.i64.wrap ((i:Int)*7)=(i:Int)*7:=wrap_i64 (by omega) (by omega)
  have hw2:IntKind.i64.wrap ((i:Int)*7+bs.length)=(i:Int)*7+bs.length:=wrap_i64 (by omega) (by omega);have hr:=qht ((i:Int)*7+bs.length) 256 (by omega);refine⟨((i:Int)*7+bs.length).tmod 256,?_⟩;rw[qax XV _ _ _ qyl rfl qmO rfl];simp[qyl,quE,quD,quC,quB,h,cut,hw1,hw2,hr]
end Go.Proofs.Ytpcoohnjllclnaa.VS
namespace Go.Proofs.Ytpcoohnjllclnaa.VS
structure Sol(a b z:List Int):Prop where
 len:z.length=a.length+b.length
 at_:∀i,0<=iAt z i/\iAt z i<=4
 dot:qcm a z 0 0 a.length=qcm b z a.length 0 b.length
theorem qCB{a b z:List Int}(ha:qbD a=true)(hb:qbD b=true)(hz:z∈qar a b):Sol a b z:=by
 have la:=qaZ ha;have lb:=qaZ hb;have ma:=qbe ha;have mb:=qbe hb;have h1:z∈qfu a b:=List.mem_of_mem_take (List.mem_filter.1 hz).1;unfold qfu qd7 at h1;obtain⟨x,hx,h2⟩:=List.mem_flatMap.1 h1;unfold qb2 at h2;obtain⟨h3,h4⟩:=List.mem_filter.1 h2;obtain⟨y,hy,rfl⟩:=List.mem_map.1 h3;have wx:Way a.length x:=qhB la.2 (by omega) (List.mem_of_mem_take hx);have wy:Way b.length y:=qhB lb.2 (by omega) (List.mem_of_mem_take hy);unfold qff at h4;rw[qek ha hb wx wy]at h4;simp only[Bool.and_eq_true,decide_eq_true_eq]at h4;have e1:qcm a (x++y) 0 0 a.length=qcm a x 0 0 a.length:=qgZ a _ _ 0 0 _ _ (fun j h1 h2=>by
  have:=wx.len;simp only[Nat.zero_add];exact qch x y j (by omega))
 have e2:qcm b (x++y) a.length 0 b.length=qcm b y 0 0 b.length:=qgZ b _ _ a.length 0 _ _ (fun j h1 h2=>by
  rw[<-wx.len,qca,Nat.zero_add])
 refine⟨by rw[List.length_append,wx.len,wy.len],fun i=> ?_,by rw[e1,e2];exact h4.2⟩
 by_cases hi:i<x.length
 ·rw[qch x y i hi];exact wx.at_ i
 ·obtain⟨j,rfl⟩:∃j,i=x.length+j:=⟨i-x.length,by omega⟩
  rw[qca];exact wy.at_ j
theorem qmk{l:List Int}{i:Nat}(h:l.length<=i):iAt l i=0:=by
 unfold iAt;rw[List.getElem?_eq_none h];rfl
end Go.Proofs.Ytpcoohnjllclnaa.VS
namespace Go.Proofs.Ytpcoohnjllclnaa.VS
end Go.Proofs.Ytpcoohnjllclnaa.VS
namespace Go.Proofs.Ytpcoohnjllclnaa.VS
end Go.Proofs.Ytpcoohnjllclnaa.VS
namespace Go.Proofs.Ytpcoohnjllclnaa.VS
mutual
def T.nb:T->Nat
 | .node _ _ []=>0
 | .node _ _ (t::r)=>T.nbs (t::r)+1
def T.nbs:List T->Nat
 | []=>0
 |t::r=>t.nb+T.nbs r
end
def qHe(ks:List T):Nat:=if ks=[]then 0 else T.nbs ks+1
def qHd(b:Nat)(ks:List T):AV:=if ks=[]then .d (qdO .sub [])else .tsl true (b+T.nbs ks) 3 ks.length
def qyo(b:Nat):List T->List AV
 | []=>[]
 | .node f v ks::r=> .d (.int .i64 f):: .d (.int .i64 v)::qHd b ks::qyo (b+qHe ks) r
mutual
def T.bx(b:Nat):T->qak
 | .node _ _ []=>[]
 | .node _ _ (t::r)=>T.bxs b (t::r)++[some (qyo b (t::r))]
def T.bxs(b:Nat):List T->qak
 | []=>[]
 |t::r=>t.bx b++T.bxs (b+t.nb) r
end
end Go.Proofs.Ytpcoohnjllclnaa.VS
namespace Go.Proofs.Ytpcoohnjllclnaa.VS
end Go.Proofs.Ytpcoohnjllclnaa.VS
namespace Go.Proofs.Ytpcoohnjllclnaa.VS
end Go.Proofs.Ytpcoohnjllclnaa.VS
namespace Go.Proofs.Ytpcoohnjllclnaa.VS
end Go.Proofs.Ytpcoohnjllclnaa.VS
namespace Go.Proofs.Ytpcoohnjllclnaa.VS
end Go.Proofs.Ytpcoohnjllclnaa.VS
namespace Go.Proofs.Ytpcoohnjllclnaa.VS
end Go.Proofs.Ytpcoohnjllclnaa.VS
namespace Go.Proofs.Ytpcoohnjllclnaa.VS
def qAV(l:List SymL)(f v:Int)(n:Nat):Bool:=
 if qFy l f=true then
  if v=0 then(if(qAa l f.toNat).ac=true then decide ((n:Int)<2)else !decide ((n:Int)=(qAa l f.toNat).arity))
  else true
 else true
def qFC(l:List SymL)(f:Int)(ks:List T)(i:Nat):Bool:=
 if(qAa l f.toNat).ac=true then(if(tAt ks i).f=f then true else if i=0 then false else decide (T.cmp (tAt ks i) (tAt ks (i-1))<0))else false
mutual
def T.form(l:List SymL):T->Bool
 | .node f v ks=>
  if f= -1 then inB v 0 99&&decide (ks.length=0)
  else if qAV l f v ks.length=true then false
  else(qaw (fun i=> !((T.forms l ks)[i]?).getD false||qFC l f ks i) ks.length 0).isNone
def T.forms(l:List SymL):List T->List Bool
 | []=>[]
 |t::r=>T.form l t::T.forms l r
end
mutual
theorem qt7:∀t:T,T.sum (fun _=>1) t=t.inner+1
 | .node f v ks=>by simp only[T.sum,T.inner];rw[qqf ks];push_cast;omega
theorem qqf:∀l:List T,T.sums (fun _=>1) l=T.inners l+l.length
 | []=>by simp[T.sums,T.inners]
 |t::r=>by simp only[T.sums,T.inners,List.length_cons];rw[qt7 t,qqf r];push_cast;omega
end
end Go.Proofs.Ytpcoohnjllclnaa.VS
namespace Go.Proofs.Ytpcoohnjllclnaa.VS
structure Bd where
 v:Int
 t:T
def Bd.enc(g:Tag)(b:Bd):DV:= .agg [.int .i64 b.v,.int .i64 b.t.f,.int .i64 b.t.v,qdO g b.t.kids]
def Bd.ok(b:Bd):Prop:=(-9223372036854775808<=b.v/\b.v<=9223372036854775807)/\b.t.ok
abbrev binds(g:Tag)(l:List Bd):DV:= .sl g (l.map (Bd.enc g))
@[simp] theorem Bd.qoM(g:Tag)(x:Bd):(x.enc g).cells=[.int .i64 x.v,.int .i64 x.t.f,.int .i64 x.t.v,qdO g x.t.kids]:=rfl
@[simp] theorem Bd.qlJ(g:Tag)(x:Bd):(AV.d (x.enc g)).cells=[.d (.int .i64 x.v),.d (.int .i64 x.t.f),.d (.int .i64 x.t.v),.d (qdO g x.t.kids)]:=rfl
@[simp] theorem Bd.qlI(g:Tag)(x:Bd):(x.enc g).isCell=false:=rfl
@[simp] theorem Bd.qEh(g:Tag)(x:Bd):isAgg (x.enc g)=true:=rfl
@[simp] theorem Bd.qgp(g:Tag)(x:Bd):(x.enc g).clr=x.enc .sub:=by
 simp only[Bd.enc,DV.clr,DV.clrs,qdO,DV.qaz,qor]
@[simp high] theorem Bd.qeS(g:Tag)(l:List Bd):(l.map (Bd.enc g)).map DV.clr=l.map (Bd.enc .sub):=by simp[List.map_map,Function.comp_def]
@[simp] theorem Bd.agg_enc(g:Tag)(x:Bd):DV.agg [.int .i64 x.v,.int .i64 x.t.f,.int .i64 x.t.v,qdO g x.t.kids]=x.enc g:=rfl
end Go.Proofs.Ytpcoohnjllclnaa.VS
namespace Go.Proofs.Ytpcoohnjllclnaa.VS
end Go.Proofs.Ytpcoohnjllclnaa.VS
namespace Go.Proofs.Ytpcoohnjllclnaa.VS
theorem qjK(q:Nat->Bool):∀(k i:Nat),(∀j,qaw q k i=some j->∀m,i<=m->m<j->q m=false)/\(qaw q k i=none->∀m,i<=m->m<i+k->q m=false)
 |0,i=>⟨fun j h=>by simp[qaw]at h,fun _ m h1 h2=>by omega⟩
 |k+1,i=>by
  have ih:=qjK q k (i+1);simp only[qaw]
  by_cases h:q i=true
  ·simp only[h,if_true]
   exact⟨fun j hj m h1 h2=>by simp at hj;omega,fun h=>by simp at h⟩
  ·simp only[h,Bool.false_eq_true,if_false]
   refine⟨fun j hj m h1 h2=> ?_,fun hn m h1 h2=> ?_⟩
   ·by_cases e:m=i
    ·subst e;simpa using h
    ·exact ih.1 j hj m (by omega) h2
   ·by_cases e:m=i
    ·subst e;simpa using h
    ·exact ih.2 hn m (by omega) (by omega)
end Go.Proofs.Ytpcoohnjllclnaa.VS
namespace Go.Proofs.Ytpcoohnjllclnaa.VS
end Go.Proofs.Ytpcoohnjllclnaa.VS
namespace Go.Proofs.Ytpcoohnjllclnaa.VS
theorem qfm(q:Nat->Bool)(n:Nat)(h:(qaw q n 0).isNone=true):∀i,i<n->q i=false:=fun i hi=>by
 have:=(qjK q n 0).2 (by simpa using h) i (by omega) (by omega);exact this
end Go.Proofs.Ytpcoohnjllclnaa.VS
namespace Go.Proofs.Ytpcoohnjllclnaa.VS
mutual
def T.nodes:T->List T
 | .node f v ks=> .node f v ks::T.nodess ks
def T.nodess:List T->List T
 | []=>[]
 |t::r=>t.nodes++T.nodess r
end
mutual
theorem qgu(w:T->Int):∀t:T,T.sum w t=(t.nodes.map w).sum
 | .node f v ks=>by simp only[T.sum,T.nodes,List.map_cons,List.sum_cons,qky w ks]
theorem qky(w:T->Int):∀l:List T,T.sums w l=((T.nodess l).map w).sum
 | []=>by simp[T.sums,T.nodess]
 |t::r=>by simp only[T.sums,T.nodess,List.map_append,List.sum_append,qgu w t,qky w r]
end
theorem qmX{l:List T}{w w':T->Int}(h:∀x,x∈l->w x<=w' x):(l.map w).sum<=(l.map w').sum:=by
 induction l with
 |nil=>simp
 |cons x l ih=>
  simp only[List.map_cons,List.sum_cons];have:=h x (by simp);have:=ih fun y hy=>h y (by simp[hy])
  omega
theorem qFx(n:Int)(x:T):0<=wC n x:=by unfold wC;split<;>omega
theorem qlQ{α:Type}:∀l:List α,(l.map fun _=>(0:Int)).sum=0
 | []=>rfl
 |a::l=>by simp only[List.map_cons,List.sum_cons,qlQ l];omega
theorem qCA{l:List T}{w:T->Int}(h:∀x,x∈l->0<=w x):0<=(l.map w).sum:=by
 have:=qmX (l:=l) (w:=fun _=>0) (w':=w) h;have e:=qlQ l;omega
theorem qv7(t:T)(l:List Int)(hl:l.Pairwise (·<·)):(l.map fun n=>T.sum (wC n) t).sum<=T.sum (fun _=>1) t:=by
 have e:∀l:List Int,(l.map fun n=>T.sum (wC n) t).sum=(t.nodes.map fun x=>(l.map fun n=>wC n x).sum).sum:=by
  intro l
  induction l with
  |nil=>simp only[List.map_nil,List.sum_nil];exact(qlQ _).symm
  |cons n l ih=>
   have h:∀N:List T,(N.map (wC n)).sum+(N.map fun x=>(l.map fun n=>wC n x).sum).sum=(N.map fun x=>wC n x+(l.map fun n=>wC n x).sum).sum:=by
    intro N
    induction N with
    |nil=>rfl
    |cons a N ih=>simp only[List.map_cons,List.sum_cons];omega
   simp only[List.map_cons,List.sum_cons,ih];rw[<-h,qgu]
 rw[e,qgu];refine qmX fun x _=> ?_
 have hz:∀l:List Int,x.v∉l->(l.map fun n=>wC n x).sum=0:=by
  intro l
  induction l with
  |nil=>intro _;rfl
  |cons n l ih=>
   intro hx;simp only[List.mem_cons,not_or]at hx;simp only[List.map_cons,List.sum_cons,ih hx.2];unfold wC;rw[if_neg (fun h=>hx.1 h.2)];omega
 induction l with
 |nil=>simp
 |cons n l ih=>
  rw[List.pairwise_cons]at hl;simp only[List.map_cons,List.sum_cons]
  by_cases hv:x.v=n
  ·have hn:x.v∉l:=fun hm=>by have:=hl.1 _ hm;omega
   rw[hz l hn];unfold wC;split<;>omega
  ·have:=ih hl.2
   have e0:wC n x=0:=by unfold wC;rw[if_neg (fun h=>hv h.2)]
   omega
end Go.Proofs.Ytpcoohnjllclnaa.VS
namespace Go.Proofs.Ytpcoohnjllclnaa.VS
end Go.Proofs.Ytpcoohnjllclnaa.VS
namespace Go.Proofs.Ytpcoohnjllclnaa.VS
end Go.Proofs.Ytpcoohnjllclnaa.VS
namespace Go.Proofs.Ytpcoohnjllclnaa.VS
end Go.Proofs.Ytpcoohnjllclnaa.VS
namespace Go.Proofs.Ytpcoohnjllclnaa.VS
end Go.Proofs.Ytpcoohnjllclnaa.VS
namespace Go.Proofs.Ytpcoohnjllclnaa.VS
theorem qln(q:Nat->Bool)(n:Nat)(h:∀i,i<n->q i=false):(qaw q n 0).isNone=true:=by
 cases hq:qaw q n 0 with
 |none=>rfl
 |some j=>
  obtain⟨h1,h2,h3⟩:=qfn _ _ _ _ hq;rw[h j (by omega)]at h3;simp at h3
theorem count_le(t:T)(n:Int):0<=T.sum (wC n) t/\T.sum (wC n) t<=(t.inner:Int)+1:=by
 have h:=qv7 t [n] (List.pairwise_singleton _ _);simp only[List.map_cons,List.map_nil,List.sum_cons,List.sum_nil]at h;have h2:=qgu (wC n) t;have h3:=qCA (l:=t.nodes) (w:=wC n) (fun x _=>qFx n x);have h4:=qt7 t;omega
end Go.Proofs.Ytpcoohnjllclnaa.VS
