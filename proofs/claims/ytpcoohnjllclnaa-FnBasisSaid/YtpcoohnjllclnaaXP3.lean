/- Contracts of the program's functions on the evaluator without names, and plain lemmas: part 3. -/
import Derived.Test.YtpcoohnjllclnaaXP2
set_option linter.unusedSimpArgs false
set_option linter.unusedVariables false
namespace Go.Proofs.Ytpcoohnjllclnaa.VS
theorem qyV:∀(B m:Nat) (f:Nat->Nat),B<m->(∀k,k<m->f k<B)->∃k k',k<k'/\k'<m/\f k=f k'
 |0,m,f,h,hf=>absurd (hf 0 h) (by omega)
 |B+1,m,f,h,hf=>by
  by_cases hk:∃k,k<m-1/\f k=f (m-1)
  ·obtain⟨k,h1,h2⟩:=hk
   exact⟨k,m-1,h1,by omega,h2⟩
  ·have hne:∀k,k<m-1->f k≠f (m-1):=fun k h1 h2=>hk ⟨k,h1,h2⟩
   have hv:=hf (m-1) (by omega);obtain⟨k,k',h1,h2,h3⟩:=qyV B (m-1) (fun k=>if f k>f (m-1)then f k-1 else f k) (by omega) (fun k hk=>by
    have:=hf k (by omega);have:=hne k hk;split<;>omega)
   have e1:=hne k (by omega);have e2:=hne k' (by omega);exact⟨k,k',h1,by omega,by split at h3<;>split at h3<;>omega⟩
def qeo:List Int->Int->Nat
 | [],_=>0
 |x::v,s=>if s<=0 then 0 else qeo v (s-x)+1
theorem qqw:∀(v:List Int) (s:Int),qeo v s<=v.length
 | [],_=>by simp[qeo]
 |x::v,s=>by
  simp only[qeo,List.length_cons];split
  ·omega
  ·have:=qqw v (s-x);omega
theorem quj(v:List Int)(s:Int)(h:s<=0):qeo v s=0:=by cases v<;>simp[qeo,h]
theorem qkG:∀(v:List Int) (s s':Int),s<=s'->qeo v s<=qeo v s'
 | [],_,_,_=>by simp[qeo]
 |x::v,s,s',h=>by
  simp only[qeo];have:=qkG v (s-x) (s'-x) (by omega);split<;>split<;>omega
theorem qqv(M:Int)(hM:1<=M):∀(v:List Int) (s:Int),0<=s->s<=v.sum->(∀x,x∈v->1<=x/\x<=M)->s<=(v.take (qeo v s)).sum/\(v.take (qeo v s)).sum<s+M
 | [],s,h0,h1,_=>by simp[qeo]at h1⊢;omega
 |x::v,s,h0,h1,hx=>by
  simp only[List.sum_cons]at h1;have h2:=hx x (by simp);simp only[qeo]
  by_cases c:s<=0
  ·rw[if_pos c];simp;omega
  ·rw[if_neg c]
   simp only[List.take_succ_cons,List.sum_cons]
   by_cases c2:s-x<=0
   ·rw[quj v _ c2];simp;omega
   ·have:=qqv M hM v (s-x) (by omega) (by omega) (fun y hy=>hx y (by simp[hy]))
    omega
theorem qhb:∀v:List Int,(∀x,x∈v->1<=x)->(v.length:Int)<=v.sum
 | [],_=>by simp
 |x::v,h=>by
  have:=qhb v (fun y hy=>h y (by simp[hy]));have:=h x (by simp);simp only[List.length_cons,List.sum_cons];omega
theorem qqe(v:List Int)(k:Nat):v.sum=(v.take k).sum+(v.drop k).sum:=by
 rw[<-List.sum_append,List.take_append_drop]
theorem qpf(v:List Int){k k':Nat}(h:k<=k'):((v.take k').drop k).sum=(v.take k').sum-(v.take k).sum:=by
 have:=qqe (v.take k') k;rw[List.take_take,Nat.min_eq_left h]at this;omega
theorem qqo(u v:List Int)(M:Nat)(hu:∀x,x∈u->1<=x)(hv:∀x,x∈v->1<=x/\x<=(M:Int))(hs:u.sum=v.sum)(hm:M<u.length):
 ∃k k' l l',k<k'/\k'<u.length/\l<=l'/\l'<=v.length/\((u.take k').drop k).sum=((v.take l').drop l).sum:=by
 have hM:1<=(M:Int):=by
  have:=qhb u hu;cases v with
  |nil=>simp at hs;omega
  |cons y r=>have:=hv y (by simp);omega
 have hP:∀k,0<=(u.take k).sum/\(u.take k).sum<=v.sum:=fun k=>by
  have h1:=qhb (u.take k) (fun x hx=>hu x (List.mem_of_mem_take hx));have h2:=qhb (u.drop k) (fun x hx=>hu x (List.mem_of_mem_drop hx));have:=qqe u k;omega
 have hR:∀k,(u.take k).sum<=(v.take (qeo v (u.take k).sum)).sum/\(v.take (qeo v (u.take k).sum)).sum<(u.take k).sum+M:=fun k=>qqv M hM v _ (hP k).1 (hP k).2 hv
 obtain⟨k,k',h1,h2,h3⟩:=qyV M u.length (fun k=>((v.take (qeo v (u.take k).sum)).sum-(u.take k).sum).toNat) hm (fun k _=>by have:=hR k;omega);have e1:=hR k;have e2:=hR k';have hmono:(u.take k).sum<=(u.take k').sum:=by
  have:=qpf u (Nat.le_of_lt h1);have:=qhb ((u.take k').drop k) (fun x hx=>hu x (List.mem_of_mem_take (List.mem_of_mem_drop hx)));omega
 have hl:=qkG v _ _ hmono;refine⟨k,k',qeo v (u.take k).sum,qeo v (u.take k').sum,h1,h2,hl,qqw _ _,?_⟩;rw[qpf u (Nat.le_of_lt h1),qpf v hl];omega
theorem qi4{α:Type}(l:List α)(k k':Nat):((l.take k').drop k).Sublist l:=(List.drop_sublist _ _).trans (List.take_sublist _ _)
theorem qmd(a:Nat->Int)(l:List Nat)(k k':Nat):((l.take k').drop k).map a=((l.map a).take k').drop k:=by rw[List.map_drop,List.map_take]
theorem qu1{a:Nat->Int}{l:List Nat}(h:0<(l.map a).sum):l≠[]:=fun e=>by subst e;simp at h
theorem qkz{a:Nat->Int}{l:List Nat}(h:∀i,i∈l->1<=a i)(hne:l≠[]):0<(l.map a).sum:=by
 have:=qhb (l.map a) (fun x hx=>by obtain⟨i,hi,rfl⟩:=List.mem_map.1 hx;exact h i hi);have:0<l.length:=List.length_pos_iff.2 hne;rw[List.length_map]at*
 omega
theorem shrink(a b:Nat->Int)(A B:Nat):∀(N:Nat) (la lb:List Nat),la.length+lb.length<=N->(∀i,i∈la->1<=a i/\a i<=(A:Int))->(∀j,j∈lb->1<=b j/\b j<=(B:Int))->(la.map a).sum=(lb.map b).sum->la≠[]->
 ∃la' lb':List Nat,la'.Sublist la/\lb'.Sublist lb/\la'≠[]/\(la'.map a).sum=(lb'.map b).sum/\la'.length<=B/\lb'.length<=A
 |0,la,lb,hN,_,_,_,hne=>absurd (List.length_pos_iff.2 hne) (by omega)
 |N+1,la,lb,hN,ha,hb,hs,hne=>by
  have lift:∀(k k' l l':Nat),(((la.take k').drop k).length+((lb.take l').drop l).length<=N)->(la.take k').drop k≠[]->(((la.take k').drop k).map a).sum=(((lb.take l').drop l).map b).sum->
   ∃la' lb':List Nat,la'.Sublist la/\lb'.Sublist lb/\la'≠[]/\(la'.map a).sum=(lb'.map b).sum/\la'.length<=B/\lb'.length<=A:=fun k k' l l' h1 h2 h3=>by
   obtain⟨p,q,g1,g2,g3⟩:=shrink a b A B N _ _ h1 (fun i hi=>ha i ((qi4 la k k').subset hi)) (fun j hj=>hb j ((qi4 lb l l').subset hj)) h3 h2;exact⟨p,q,g1.trans (qi4 _ _ _),g2.trans (qi4 _ _ _),g3⟩
  by_cases c1:B<la.length
  ·obtain⟨k,k',l,l',h1,h2,h3,h4,h5⟩:=qqo (la.map a) (lb.map b) B (fun x hx=>by obtain⟨i,hi,rfl⟩:=List.mem_map.1 hx;exact(ha i hi).1) (fun x hx=>by obtain⟨i,hi,rfl⟩:=List.mem_map.1 hx;exact hb i hi) hs (by simpa using c1)
   rw[<-qmd,<-qmd]at h5;simp only[List.length_map]at h2 h4;have hne':(la.take k').drop k≠[]:=fun e=>by
    have:=congrArg List.length e;simp only[List.length_drop,List.length_take,List.length_nil]at this;omega
   exact lift k k' l l' (by simp only[List.length_drop,List.length_take];omega) hne' h5
  ·by_cases c2:A<lb.length
   ·obtain⟨k,k',l,l',h1,h2,h3,h4,h5⟩:=qqo (lb.map b) (la.map a) A (fun x hx=>by obtain⟨i,hi,rfl⟩:=List.mem_map.1 hx;exact(hb i hi).1) (fun x hx=>by obtain⟨i,hi,rfl⟩:=List.mem_map.1 hx;exact ha i hi) hs.symm (by simpa using c2)
    rw[<-qmd,<-qmd]at h5;simp only[List.length_map]at h2 h4;have hne':(lb.take k').drop k≠[]:=fun e=>by
     have:=congrArg List.length e;simp only[List.length_drop,List.length_take,List.length_nil]at this;omega
    have hp:=qkz (a:=b) (l:=(lb.take k').drop k) (fun i hi=>(hb i ((qi4 lb k k').subset hi)).1) hne';exact lift l l' k k' (by simp only[List.length_drop,List.length_take];omega) (qu1 (a:=a) (by omega)) h5.symm
   ·exact⟨la,lb,List.Sublist.refl _,List.Sublist.refl _,hne,hs,by omega,by omega⟩
def sumTo(f:Nat->Int):Nat->Int
 |0=>0
 |n+1=>sumTo f n+f n
theorem qmZ(f g:Nat->Int):∀n,sumTo (fun i=>f i+g i) n=sumTo f n+sumTo g n
 |0=>rfl
 |n+1=>by simp only[sumTo,qmZ f g n];omega
theorem sumTo_congr{f g:Nat->Int}:∀{n:Nat},(∀i,i<n->f i=g i)->sumTo f n=sumTo g n
 |0,_=>rfl
 |n+1,h=>by simp only[sumTo];rw[sumTo_congr (fun i hi=>h i (by omega)),h n (by omega)]
theorem qhc{f:Nat->Int}{n:Nat}(h:∀i,i<n->f i=0):sumTo f n=0:=by
 rw[sumTo_congr (g:=fun _=>0) h]
 induction n with
 |zero=>rfl
 |succ n ih=>simp only[sumTo];rw[ih (fun i hi=>h i (by omega))];omega
theorem qmY(f:Nat->Int)(j:Nat):∀n,sumTo (fun i=>if j=i then f i else 0) n=if j<n then f j else 0
 |0=>rfl
 |n+1=>by
  simp only[sumTo,qmY f j n]
  by_cases c:j=n
  ·subst c;simp
  ·by_cases c2:j<n
   ·simp[c,c2,show j<n+1 by omega]
   ·simp[c,c2,show¬j<n+1 by omega]
theorem sumTo_le{f g:Nat->Int}:∀{n:Nat},(∀i,i<n->f i<=g i)->sumTo f n<=sumTo g n
 |0,_=>Int.le_refl _
 |n+1,h=>by
  have:=sumTo_le (n:=n) (fun i hi=>h i (by omega));have:=h n (by omega);simp only[sumTo];omega
theorem qlR{f g:Nat->Int}:∀{n:Nat},(∀i,i<n->f i<=g i)->(∃i,i<n/\f i<g i)->sumTo f n<sumTo g n
 |0,_,⟨i,hi,_⟩=>absurd hi (by omega)
 |n+1,h,⟨i,hi,hlt⟩=>by
  have h1:=sumTo_le (n:=n) (fun i hi=>h i (by omega));have h2:=h n (by omega);simp only[sumTo]
  by_cases c:i=n
  ·subst c;omega
  ·have:=qlR (n:=n) (fun i hi=>h i (by omega)) ⟨i,by omega,hlt⟩
   omega
theorem qfr(a x:List Int)(o:Nat):∀(k i:Nat),sumTo (fun j=>iAt a j*iAt x (o+j)) i+qcm a x o i k=sumTo (fun j=>iAt a j*iAt x (o+j)) (i+k)
 |0,i=>by simp[qcm]
 |k+1,i=>by
  have:=qfr a x o k (i+1);rw[show i+1+k=i+(k+1)by omega]at this;rw[<-this];simp only[qcm,sumTo];omega
def qi1(x:List Int)(n:Nat):List Nat:=(List.range n).flatMap fun i=>List.replicate (iAt x i).toNat i
theorem qkv(x:List Int)(n:Nat):qi1 x (n+1)=qi1 x n++List.replicate (iAt x n).toNat n:=by unfold qi1;rw[List.range_succ,List.flatMap_append];simp
theorem qi0(x:List Int)(a:Nat->Int)(hx:∀i,0<=iAt x i):∀n,((qi1 x n).map a).sum=sumTo (fun i=>a i*iAt x i) n
 |0=>rfl
 |n+1=>by
  rw[qkv,List.map_append,List.sum_append,qi0 x a hx n];simp only[sumTo,List.map_replicate];have e:∀(m:Nat) (c:Int),(List.replicate m c).sum=c*m:=by
   intro m c
   induction m with
   |zero=>simp
   |succ m ih=>rw[List.replicate_succ,List.sum_cons,ih,Int.natCast_succ,Int.mul_add];omega
  rw[e,Int.toNat_of_nonneg (hx n)]
theorem qct(x:List Int)(i:Nat):∀n,(qi1 x n).count i=if i<n then(iAt x i).toNat else 0
 |0=>rfl
 |n+1=>by
  rw[qkv,List.count_append,qct x i n,List.count_replicate]
  by_cases c:n=i
  ·subst c;simp
  ·by_cases c2:i<n
   ·simp[c,c2,show i<n+1 by omega]
   ·simp[c,c2,show¬i<n+1 by omega]
def vec(l:List Nat)(n:Nat):List Int:=(List.range n).map fun i=>(l.count i:Int)
theorem qmV(l:List Nat)(n i:Nat):iAt (vec l n) i=if i<n then(l.count i:Int)else 0:=by
 unfold iAt vec
 by_cases c:i<n
 ·simp[c]
 ·simp[c]
theorem qiZ(a:Nat->Int)(n:Nat):∀l:List Nat,(∀i,i∈l->i<n)->sumTo (fun i=>a i*(l.count i:Int)) n=(l.map a).sum
 | [],_=>by rw[qhc (fun i _=>by simp)];rfl
 |j::l,h=>by
  have e:∀i,a i*((j::l).count i:Int)=a i*(l.count i:Int)+(if j=i then a i else 0):=fun i=>by
   rw[List.count_cons]
   by_cases c:j=i
   ·subst c
    simp only[beq_self_eq_true,if_true,Int.natCast_add,Int.mul_add];simp
   ·have:(j==i)=false:=by simpa using c
    simp[this,c]
  rw[sumTo_congr (fun i _=>e i),qmZ,qiZ a n l (fun i hi=>h i (by simp[hi])),qmY,if_pos (h j (by simp)),List.map_cons,List.sum_cons];omega
theorem qha(l:List Nat)(n:Nat):(vec l n).length=n:=by unfold vec;simp
theorem qmc:∀(n m:Nat) (r:List Int),r.length=n->(∀e,e∈r->0<=e)->r.sum<=(m:Int)->r∈ways n m
 |0,m,r,hl,_,_=>by
  have:r=[]:=List.eq_nil_of_length_eq_zero hl;subst this;simp[ways]
 |n+1,m,[],hl,_,_=>by simp at hl
 |n+1,m,e::r,hl,h0,hs=>by
  have he:=h0 e (by simp);have hr:0<=r.sum:=by
   have:∀l:List Int,(∀e,e∈l->0<=e)->0<=l.sum:=by
    intro l
    induction l with
    |nil=>simp
    |cons x l ih=>intro h;have:=ih (fun e he=>h e (by simp[he]));have:=h x (by simp);simp only[List.sum_cons];omega
   exact this r (fun e he=>h0 e (by simp[he]))
  simp only[List.sum_cons]at hs;simp only[ways,List.mem_flatMap,List.mem_range,List.mem_map];refine⟨e.toNat,by omega,r,qmc n (m-e.toNat) r (by simpa using hl) (fun x hx=>h0 x (by simp[hx])) (by omega),?_⟩;rw[Int.toNat_of_nonneg he]
theorem qmU(l:List Nat)(n:Nat)(h:∀i,i∈l->i<n):(vec l n).sum=l.length:=by
 have h1:=qiZ (fun _=>1) n l h;have h2:∀n,((List.range n).map fun i=>(l.count i:Int)).sum=sumTo (fun i=>1*(l.count i:Int)) n:=by
  intro n
  induction n with
  |zero=>rfl
  |succ n ih=>rw[List.range_succ,List.map_append,List.sum_append,ih];simp[sumTo]
 have h3:(l.map fun _=>(1:Int)).sum=l.length:=by
  induction l with
  |nil=>rfl
  |cons a l ih=>simp only[List.map_cons,List.sum_cons,List.length_cons];have:=ih (fun i hi=>h i (by simp[hi])) (qiZ (fun _=>1) n l (fun i hi=>h i (by simp[hi]))) (by
   intro n
   induction n with
   |zero=>rfl
   |succ n ih=>rw[List.range_succ,List.map_append,List.sum_append,ih];simp[sumTo]);omega
 unfold vec;rw[h2,h1,h3]
theorem qhn(x y:List Int):∀(k i:Nat) (b b':Bool),runN (qcT x y) k b i= .inl b'->(∀j,i<=j->j<i+k->iAt x j<=iAt y j)/\(b'=true->b=true\/∃j,i<=j/\j<i+k/\iAt x j<iAt y j)
 |0,i,b,b',h=>by
  simp only[runN,Sum.inl.injEq]at h;subst h;exact⟨fun j h1 h2=>by omega,fun h=> .inl h⟩
 |k+1,i,b,b',h=>by
  simp only[runN,qcT]at h
  by_cases c:iAt y i<iAt x i
  ·rw[if_pos c]at h;simp at h
  ·rw[if_neg c]at h
   obtain⟨h1,h2⟩:=qhn x y k (i+1) _ b' h;refine⟨fun j g1 g2=> ?_,fun hb=> ?_⟩
   ·by_cases e:j=i
    ·subst e;omega
    ·exact h1 j (by omega) (by omega)
   ·rcases h2 hb with h3|⟨j,g1,g2,g3⟩
    ·simp only[Bool.or_eq_true,decide_eq_true_eq]at h3
     rcases h3 with h3|h3
     ·exact .inl h3
     ·exact .inr ⟨i,by omega,by omega,h3⟩
    ·exact .inr ⟨j,by omega,by omega,g3⟩
theorem qjD{x y:List Int}(h:qdd x y=true):(∀i,i<x.length->iAt x i<=iAt y i)/\∃i,i<x.length/\iAt x i<iAt y i:=by
 unfold qdd at h;split at h
 ·rename_i b hb
  obtain⟨h1,h2⟩:=qhn x y _ _ _ _ hb;refine⟨fun i hi=>h1 i (by omega) (by omega),?_⟩;rcases h2 h with h3|⟨j,g1,g2,g3⟩
  ·simp at h3
  ·exact⟨j,by omega,g3⟩
 ·simp at h
theorem qpw(a b:List Int):∀(N:Nat) (z:List Int),z∈qfu a b->(∀i,0<=iAt z i)->sumTo (iAt z) (a.length+b.length)<=(N:Int)->(∀r,r∈qfu a b->∀i,0<=iAt r i)->∃z',z'∈qar a b/\∀i,iAt z' i<=iAt z i:=by
 intro N
 induction N with
 |zero=>
  intro z hz h0 hN hall;refine⟨z,?_,fun i=>Int.le_refl _⟩;unfold qar qbg;rw[List.take_length];refine List.mem_filter.2 ⟨hz,?_⟩;unfold qdm;refine qln _ _ fun i hi=> ?_
  unfold qcC;cases hb:qdd (rAt (qfu a b) i) z with
  |false=>rfl
  |true=>
   exfalso;have hr:=qdi hi;obtain⟨h1,h2⟩:=qjD hb;rw[qgl a b _ _ hr]at h1 h2;have:=qlR h1 h2;have h3:0<=sumTo (iAt (rAt (qfu a b) i)) (a.length+b.length):=by
    have:=sumTo_le (f:=fun _=>0) (g:=iAt (rAt (qfu a b) i)) (n:=a.length+b.length) (fun j _=>hall _ hr j);rw[qhc (fun _ _=>rfl)]at this;exact this
   omega
 |succ N ih=>
  intro z hz h0 hN hall
  by_cases c:qdm (qfu a b) z=true
  ·refine⟨z,?_,fun i=>Int.le_refl _⟩
   unfold qar qbg;rw[List.take_length];exact List.mem_filter.2 ⟨hz,c⟩
  ·have hex:∃i,i<(qfu a b).length/\qdd (rAt (qfu a b) i) z=true:=by
    cases hf:qaw (qcC (qfu a b) z) (qfu a b).length 0 with
    |none=>exact absurd (by unfold qdm;rw[hf];rfl) c
    |some i=>
     obtain⟨_,h2,h3⟩:=qfn _ _ _ _ hf;exact⟨i,by omega,h3⟩
   obtain⟨i,hi,hb⟩:=hex;have hr:=qdi hi;obtain⟨h1,h2⟩:=qjD hb;rw[qgl a b _ _ hr]at h1 h2;have hlt:=qlR h1 h2;obtain⟨z',g1,g2⟩:=ih _ hr (hall _ hr) (by omega) hall;refine⟨z',g1,fun j=> ?_⟩;have hzl:=qgl a b _ _ hr
   by_cases hj:j<a.length+b.length
   ·have:=g2 j;have:=h1 j hj;omega
   ·have:=g2 j
    rw[qmk (l:=rAt (qfu a b) i) (by omega)]at this;have:=h0 j;omega
theorem qyY(l:List Int):∀(k i:Nat) (m:Int),m<=mxF l i k m/\∀j,i<=j->j<i+k->iAt l j<=mxF l i k m
 |0,i,m=>⟨by simp[mxF],fun j h1 h2=>by omega⟩
 |k+1,i,m=>by
  simp only[mxF];obtain⟨h1,h2⟩:=qyY l k (i+1) (if iAt l i>m then iAt l i else m);have e0:m<=(if iAt l i>m then iAt l i else m)/\iAt l i<=(if iAt l i>m then iAt l i else m):=by split<;>omega
  generalize (if iAt l i>m then iAt l i else m)=m' at*
  refine⟨by omega,fun j g1 g2=> ?_⟩
  by_cases e:j=i
  ·subst e;omega
  ·exact h2 j (by omega) (by omega)
theorem qu6{l:List Int}{j:Nat}(h:j<l.length):iAt l j<=qgg l:=by
 unfold qgg;obtain⟨h1,h2⟩:=qyY l (l.length-1) 1 (iAt l 0)
 by_cases e:j=0
 ·subst e;exact h1
 ·exact h2 j (by omega) (by omega)
theorem que{a b:List Int}(ha:qbD a=true)(hb:qbD b=true)(x y:List Int)(hx:x.length=a.length)(hy:y.length=b.length)(x0:∀i,0<=iAt x i)(y0:∀i,0<=iAt y i)(hs:qcm a x 0 0 a.length=qcm b y 0 0 b.length)(hp:∃i,0<iAt (x++y) i):
 ∃z,z∈qar a b/\∀i,iAt z i<=iAt (x++y) i:=by
 have la:=qaZ ha;have lb:=qaZ hb;have ma:=qbe ha;have mb:=qbe hb;have fa:=qd1 ha;have fb:=qd1 hb;have eA:∀i,i∈qi1 x a.length->i<a.length:=fun i hi=>by
  have:=List.count_pos_iff.2 hi;rw[qct]at this;split at this
  ·assumption
  ·omega
 have eB:∀i,i∈qi1 y b.length->i<b.length:=fun i hi=>by
  have:=List.count_pos_iff.2 hi;rw[qct]at this;split at this
  ·assumption
  ·omega
 have d1:=qfr a x 0 a.length 0;have d2:=qfr b y 0 b.length 0;simp only[Nat.zero_add,sumTo,Int.zero_add]at d1 d2;have u1:=qi0 x (iAt a) x0 a.length;have u2:=qi0 y (iAt b) y0 b.length;have hA:∀i,i∈qi1 x a.length->1<=iAt a i/\iAt a i<=((qgg a).toNat:Int):=fun i hi=>by
  have:=fa i (eA i hi);have:=qu6 (eA i hi);omega
 have hB:∀i,i∈qi1 y b.length->1<=iAt b i/\iAt b i<=((qgg b).toNat:Int):=fun i hi=>by
  have:=fb i (eB i hi);have:=qu6 (eB i hi);omega
 have hne:qi1 x a.length≠[]:=fun e=>by
  rw[e]at u1;simp only[List.map_nil,List.sum_nil]at u1;have e2:qi1 y b.length=[]:=Classical.byContradiction fun h=>by
   have:=qkz (a:=iAt b) (fun i hi=>(hB i hi).1) h;omega
  obtain⟨i,hi⟩:=hp
  by_cases c:i<x.length
  ·rw[qch x y i c]at hi
   have:=qct x i a.length;rw[e,if_pos (by omega)]at this;simp at this;omega
  ·obtain⟨j,rfl⟩:∃j,i=x.length+j:=⟨i-x.length,by omega⟩
   rw[qca]at hi;have hj:j<b.length:=by
    rcases Nat.lt_or_ge j b.length with h|h
    ·exact h
    ·rw[qmk (l:=y) (by omega)]at hi;omega
   have:=qct y j b.length;rw[e2,if_pos hj]at this;simp at this;omega
 obtain⟨p,q,s1,s2,s3,s4,s5,s6⟩:=shrink (iAt a) (iAt b) (qgg a).toNat (qgg b).toNat _ _ _ (Nat.le_refl _) hA hB (by omega) hne;have pA:∀i,i∈p->i<a.length:=fun i hi=>eA i (s1.subset hi)
 have qB:∀i,i∈q->i<b.length:=fun i hi=>eB i (s2.subset hi)
 have nn:∀(l:List Nat) (n:Nat) (e:Int),e∈vec l n->0<=e:=fun l n e he=>by
  unfold vec at he;obtain⟨i,_,rfl⟩:=List.mem_map.1 he;omega
 have hxw:vec p a.length∈qay a b:=qmc _ _ _ (qha _ _) (nn _ _) (by rw[qmU p _ pA];omega);have hyw:vec q b.length∈qap a b:=qmc _ _ _ (qha _ _) (nn _ _) (by rw[qmU q _ qB];omega);have wx:Way a.length (vec p a.length):=qhB la.2 (by omega) hxw;have wy:Way b.length (vec q b.length):=qhB lb.2 (by omega) hyw;have c1:qcm a (vec p a.length) 0 0 a.length=(p.map (iAt a)).sum:=by
  have:=qfr a (vec p a.length) 0 a.length 0;simp only[Nat.zero_add,sumTo,Int.zero_add]at this;rw[this,<-qiZ (iAt a) a.length p pA];exact sumTo_congr fun i hi=>by rw[qmV,if_pos hi]
 have c2:qcm b (vec q b.length) 0 0 b.length=(q.map (iAt b)).sum:=by
  have:=qfr b (vec q b.length) 0 b.length 0;simp only[Nat.zero_add,sumTo,Int.zero_add]at this;rw[this,<-qiZ (iAt b) b.length q qB];exact sumTo_congr fun i hi=>by rw[qmV,if_pos hi]
 have hin:vec p a.length++vec q b.length∈qfu a b:=by
  unfold qfu qd7;rw[List.take_length];refine List.mem_flatMap.2 ⟨_,hxw,?_⟩;unfold qb2;rw[List.take_length];refine List.mem_filter.2 ⟨List.mem_map.2 ⟨_,hyw,rfl⟩,?_⟩;unfold qff;rw[qek ha hb wx wy];simp only[Bool.and_eq_true,decide_eq_true_eq];refine⟨qqZ (by rw[qha];omega) ?_,by rw[c1,c2,s4]⟩;obtain⟨j,r,hj⟩:=List.exists_cons_of_ne_nil s3;have hjp:j∈p:=by rw[hj];simp
  refine⟨j,by rw[qha];exact pA j hjp,?_⟩;rw[qmV,if_pos (pA j hjp)];have:=List.count_pos_iff.2 hjp;omega
 have h0:∀i,0<=iAt (vec p a.length++vec q b.length) i:=fun i=>by
  by_cases c:i<(vec p a.length).length
  ·rw[qch _ _ i c];exact(wx.at_ i).1
  ·obtain⟨j,rfl⟩:∃j,i=(vec p a.length).length+j:=⟨i-(vec p a.length).length,by omega⟩
   rw[qca];exact(wy.at_ j).1
 have hall:∀r,r∈qfu a b->∀i,0<=iAt r i:=fun r hr=>by
  unfold qfu qd7 at hr;obtain⟨x',hx',h2⟩:=List.mem_flatMap.1 hr;unfold qb2 at h2;obtain⟨h3,_⟩:=List.mem_filter.1 h2;obtain⟨y',hy',rfl⟩:=List.mem_map.1 h3;have wx':Way a.length x':=qhB la.2 (by omega) (List.mem_of_mem_take hx');have wy':Way b.length y':=qhB lb.2 (by omega) (List.mem_of_mem_take hy');intro i
  by_cases c:i<x'.length
  ·rw[qch _ _ i c];exact(wx'.at_ i).1
  ·obtain⟨j,rfl⟩:∃j,i=x'.length+j:=⟨i-x'.length,by omega⟩
   rw[qca];exact(wy'.at_ j).1
 have htot:0<=sumTo (iAt (vec p a.length++vec q b.length)) (a.length+b.length):=by
  have:=sumTo_le (f:=fun _=>0) (g:=iAt (vec p a.length++vec q b.length)) (n:=a.length+b.length) (fun j _=>h0 j);rw[qhc (fun _ _=>rfl)]at this;exact this
 obtain⟨z,g1,g2⟩:=qpw a b (sumTo (iAt (vec p a.length++vec q b.length)) (a.length+b.length)).toNat _ hin h0 (by omega) hall;refine⟨z,g1,fun i=>Int.le_trans (g2 i) ?_⟩
 by_cases c:i<x.length
 ·rw[qch x y i c,qch _ _ i (by rw[qha];omega),qmV,if_pos (by omega)]
  have:=s1.count_le i;rw[qct,if_pos (by omega)]at this;have:=x0 i;omega
 ·obtain⟨j,rfl⟩:∃j,i=x.length+j:=⟨i-x.length,by omega⟩
  rw[qca];have e:x.length+j=(vec p a.length).length+j:=by rw[qha];omega
  rw[e,qca,qmV];split
  ·have:=s2.count_le j
   rw[qct,if_pos (by assumption)]at this;have:=y0 j;omega
  ·exact y0 j
end Go.Proofs.Ytpcoohnjllclnaa.VS
namespace Go.Proofs.Ytpcoohnjllclnaa.VS
end Go.Proofs.Ytpcoohnjllclnaa.VS
namespace Go.Proofs.Ytpcoohnjllclnaa.VS
def dst(n:Int)(neg:Bool)(s:ByteArray):XS:=⟨[(0,.d (.int .i64 n)),(3,.d (.bool neg)),(4,.d (.str s))],[]⟩
end Go.Proofs.Ytpcoohnjllclnaa.VS
namespace Go.Proofs.Ytpcoohnjllclnaa.VS
end Go.Proofs.Ytpcoohnjllclnaa.VS
namespace Go.Proofs.Ytpcoohnjllclnaa.VS
end Go.Proofs.Ytpcoohnjllclnaa.VS
namespace Go.Proofs.Ytpcoohnjllclnaa.VS
structure SigD(l:List SymL):Prop where
 len:l.length<=9
 sym:∀s,s∈l->s.name.size<=9/\-1<=s.arity/\s.arity<=4
theorem SigD.ok{l:List SymL}(h:SigD l):∀s,s∈l->s.ok:=fun s hs=>by
 obtain⟨h1,h2,h3⟩:=h.sym s hs;exact⟨by unfold maxLen;omega,by omega,by omega⟩
theorem qAQ(x y:Int)(r:DV):(DV.int .u8 x).like r=(DV.int .u8 y).like r:=by cases r<;>rfl
theorem qxI(bs:List Int):(bs.map (DV.int .u8)).flatMap DV.cells=bs.map (DV.int .u8):=by
 induction bs with
 |nil=>rfl
 |cons b r ih=>simp only[List.map_cons,List.flatMap_cons,ih,DV.cells,List.singleton_append]
theorem qhy(rs:List DV):∀bs:List Int,DV.xrests rs (bs.map (.int .u8))=true
 | []=>by simp[DV.xrests]
 |b::r=>by simp[DV.xrests,DV.xrest,qhy rs r]
theorem qoV(rs:List DV)(h:rs.all (fun r=> !(DV.int .u8 0).like r)=true)(bs:List Int):DV.xrest rs (.sl .sub (bs.map (.int .u8)))=true:=by
 simp only[DV.xrest,qhy,Bool.and_true,qxI];cases bs with
 |nil=>rfl
 |cons b r=>
  have:(rs.all fun r=> !(DV.int .u8 b).like r)=true:=by
   rw[<-h];congr 1;funext r;rw[qAQ b 0]
  simp[this]
theorem qrA(rs:List DV)(h:rs.all (fun r=> !(DV.int .u8 0).like r)=true)(bs:List Int)(pos st:Int):qd5 rs (qcS bs pos st)=true:=by
 simp only[qd5,qcS,List.all_cons,List.all_nil,AV.xrest];rw[qoV rs h bs];simp only[DV.xrest,Bool.and_self]
@[simp] theorem qDt(s:SymL):qaJ s.enc=true:=rfl
@[simp] theorem qCa(rs:List DV)(s:SymL):DV.xrest rs s.enc=true:=by
 show DV.xrest rs (.agg [.str s.name,.int .i64 s.arity,.bool s.ac])=true;simp only[DV.xrest,DV.xrests,Bool.and_self]
theorem qaW(bs:List Int)(pos st:Int):AV.clrs (qcS bs pos st)=qcS bs pos st:=by simp[qcS]
end Go.Proofs.Ytpcoohnjllclnaa.VS
namespace Go.Proofs.Ytpcoohnjllclnaa.VS
mutual
def T.rng:T->Prop
 | .node _ v ks=>(-9223372036854775808<=v/\v<=9223372036854775807)/\T.rngs ks
def T.rngs:List T->Prop
 | []=>True
 |t::r=>t.rng/\T.rngs r
end
theorem T.qrr:∀l:List T,T.rngs l↔∀t,t∈l->t.rng
 | []=>by simp[T.rngs]
 |t::r=>by simp[T.rngs,T.qrr r]
end Go.Proofs.Ytpcoohnjllclnaa.VS
namespace Go.Proofs.Ytpcoohnjllclnaa.VS
theorem qck.app{bs:List Int}{q:Nat}{B:qak}(h:qck bs q B)(R:qak):qck bs q (B++R):=by
 have hq:=h.lt;obtain⟨pos,st,hp,hb⟩:=h;exact⟨pos,st,hp,by have:=qri hb;simp[qa2,List.getElem?_append_left hq,this]⟩
theorem qge(bs:List Int)(hl:bs.length<=1099511627776)(B:qak)(i:Nat)(h:qck bs i B)(n:Int)(hn:0<n)(hn2:n<=256):∃(b:Bool) (B':qak),qdf bs i B B'/\qau XV 162 [.ptr i 0,.d (.int .i64 n)] B=some (.d (.bool b),B'):=by
 obtain⟨r,B',hr,hT,hc⟩:=qbc bs hl B i h n hn hn2;have hi:=h.lt;have hlen:=hT.len;have htake:List.take B.length B'=B':=List.take_of_length_le (by omega);refine⟨r==0,B',hT,?_⟩;rw[qax XV _ _ _ qym rfl qmQ rfl];simp[qym,quW,quV,hc,htake,hi]
end Go.Proofs.Ytpcoohnjllclnaa.VS
namespace Go.Proofs.Ytpcoohnjllclnaa.VS
theorem qxn{a b:List T}(h1:T.rngs a)(h2:T.rngs b):T.rngs (a++b):=by
 rw[T.qrr]at*
 intro t ht;rcases List.mem_append.1 ht with h|h
 ·exact h1 t h
 ·exact h2 t h
end Go.Proofs.Ytpcoohnjllclnaa.VS
namespace Go.Proofs.Ytpcoohnjllclnaa.VS
def fc(l:List T):List DV:=l.flatMap fun t=>(t.enc U).cells
def fcs(l:List T):List DV:=l.flatMap fun t=>(t.enc .sub).cells
theorem qA2(t:T)(l:List T):fc (t::l)= .int .i64 t.f:: .int .i64 t.v:: .sl U (t.kids.map (T.enc U))::fc l:=by
 unfold fc;rw[List.flatMap_cons,T.qiu];rfl
theorem qgU(t:T)(l:List T):fcs (t::l)= .int .i64 t.f:: .int .i64 t.v:: .sl .sub (t.kids.map (T.enc .sub))::fcs l:=by
 unfold fcs;rw[List.flatMap_cons,T.qiu];rfl
theorem qvI(a b:List T):fcs (a++b)=fcs a++fcs b:=by unfold fcs;simp
theorem qog:∀l:List T,(fc l).map DV.clr=fcs l
 | []=>rfl
 |t::l=>by rw[qA2,qgU,List.map_cons,List.map_cons,List.map_cons,qog l];simp
theorem qvH:∀l:List T,(fcs l).length=l.length*3
 | []=>rfl
 |t::l=>by rw[qgU];simp[qvH l];omega
theorem qgR(f:AV->Option DV):∀(a b:List AV) {x y:List DV},qde f a=some x->qde f b=some y->qde f (a++b)=some (x++y)
 | [],b,x,y,h1,h2=>by simp[qde]at h1;subst h1;simpa using h2
 |v::a,b,x,y,h1,h2=>by
  simp only[qde]at h1;obtain⟨d,e1,h1⟩:=Option.bind_eq_some_iff.1 h1;obtain⟨x',e2,rfl⟩:=Option.map_eq_some_iff.1 h1;simp only[List.cons_append,qde,e1,qgR f a b e2 h2,Option.bind_some,Option.map_some]
theorem qll(M:qak)(n:Nat):∀l:List DV,qde (AV.frzC M n) (l.map .d)=some l
 | []=>rfl
 |d::l=>by
  simp only[List.map_cons,qde,qy3,qll M n l,Option.bind_some,Option.map_some]
theorem qjT{d:DV}{k:IntKind}{n:Int}(h:d.clr= .int k n):d= .int k n:=by
 cases d<;>simp[DV.clr]at h⊢<;>exact h
theorem qsE{d:DV}{l:List DV}(h:d.clr= .sl .sub l):∃g xs,d= .sl g xs/\DV.clrs xs=l:=by
 cases d<;>simp[DV.clr]at h
 exact⟨_,_,rfl,h⟩
theorem qA1{t:T}{l:List T}{ds:List DV}(h:ds.map DV.clr=fcs (t::l)):∃g xs r,ds= .int .i64 t.f:: .int .i64 t.v:: .sl g xs::r/\DV.clrs xs=t.kids.map (T.enc .sub)/\r.map DV.clr=fcs l:=by
 rw[qgU]at h
 match ds,h with
 | [],h=>simp at h
 | [_],h=>simp at h
 | [_,_],h=>simp at h
 |d0::d1::d2::r,h=>
  simp only[List.map_cons,List.cons.injEq]at h;obtain⟨h0,h1,h2,h3⟩:=h;obtain⟨g,xs,rfl,hx⟩:=qsE h2;exact⟨g,xs,r,by rw[qjT h0,qjT h1],hx,h3⟩
theorem qlo:∀(l:List T) (ds:List DV),ds.map DV.clr=fcs l->∃xs,chunks true 3 l.length ds=some xs/\xs.map DV.clr=l.map (T.enc .sub)
 | [],ds,h=>⟨[],rfl,rfl⟩
 |t::l,ds,h=>by
  obtain⟨g,xs,r,rfl,hx,hr⟩:=qA1 h;obtain⟨ys,h1,h2⟩:=qlo l r hr;refine⟨.agg [.int .i64 t.f,.int .i64 t.v,.sl g xs]::ys,?_,?_⟩
  ·simp[chunks,cut,qam,qaD,h1,DV.cells]
  ·rw[List.map_cons,List.map_cons,h2,T.qiu]
   simp only[DV.clr,DV.clrs,hx]
theorem qBu(B:qak)(i:Nat)(h:2<=i):qa2 (qbf 2 B) i=qa2 B i:=by
 unfold qa2 qbf;rw[List.getElem?_append_right (by simp;exact h),List.length_replicate,List.getElem?_drop,show 2+(i-2)=i by omega]
def Ctx(j:Nat)(B:qak)(A D:List T)(N:Nat):Prop:=
 ∀(B':qak) (cs:List AV) (u:T) (ds:List DV),B'.length=6->(∀i,j<i->B'[i]?=B[i]?)->B'[j]?=some (some cs)->qde (AV.frzC (qbf 2 B') (j+1)) cs=some ds->ds.map DV.clr=fcs (A++u::D)->
  ∃(c5:List AV) (ds5:List DV) (t':T),B'[5]?=some (some c5)/\qde (AV.frzC (qbf 2 B') 6) c5=some ds5/\ds5.map DV.clr=fcs [t']/\t'.inner<=N+u.inner/\(u.rng->t'.rng)
theorem Ctx.base(B:qak):Ctx 5 B [] [] 0:=fun B' cs u ds h1 h2 h3 h4 h5=>⟨cs,ds,u,h3,h4,h5,by omega,id⟩
theorem qli:∀a b:List T,T.inners (a++b)=T.inners a+T.inners b
 | [],b=>by simp[T.inners]
 |t::a,b=>by simp only[List.cons_append,T.inners,qli a b];omega
theorem Ctx.step{j:Nat}{B B1:qak}{A D A' D':List T}{N m:Nat}{f v:Int}(hj:2<=j)(h:Ctx (j+1) B A D N)(hag:∀i,j+1<i->B1[i]?=B[i]?)
 (hat:B1[j+1]?=some (some ((fc A).map .d++([.d (.int .i64 f),.d (.int .i64 v),.tsl true j 3 m]++(fc D).map .d)))) (hm:A'.length+1+D'.length=m) (hv: -9223372036854775808<=v/\v<=9223372036854775807) (hA:T.rngs A') (hD:T.rngs D'):Ctx j B1 A' D' (N+(m+T.inners A'+T.inners D')):=by
 intro B' cs u ds h1 h2 h3 h4 h5;have hlen:ds.length=m*3:=by
  have:=congrArg List.length h5;rw[List.length_map,qvH]at this;rw[this];simp only[List.length_append,List.length_cons];rw[<-hm];congr 1;omega
 obtain⟨xs,hx1,hx2⟩:=qlo _ _ h5;have hm':(A'++u::D').length=m:=by simp only[List.length_append,List.length_cons];omega
 rw[hm']at hx1;have htsl:AV.frzC (qbf 2 B') (j+1+1) (.tsl true j 3 m)=some (.sl .sub xs):=by
  simp only[AV.frzC];rw[qBu _ _ hj];simp only[qa2,h3,Option.bind_some,h4,hlen,if_true,hx1,Option.map_some]
 have hmid:qde (AV.frzC (qbf 2 B') (j+1+1)) [.d (.int .i64 f),.d (.int .i64 v),.tsl true j 3 m]=some [.int .i64 f,.int .i64 v,.sl .sub xs]:=by
  simp only[qde,htsl,qy3,Option.bind_some,Option.map_some]
 have hfr:=qgR _ _ _ (qll (qbf 2 B') (j+1+1) (fc A)) (qgR _ _ _ hmid (qll (qbf 2 B') (j+1+1) (fc D)));have hclr:(fc A++([DV.int .i64 f,DV.int .i64 v,DV.sl .sub xs]++fc D)).map DV.clr=fcs (A++(T.node f v (A'++u::D'))::D):=by
  rw[List.map_append,List.map_append,qog,qog,qvI,qgU];simp only[List.map_cons,List.map_nil,DV.clr,DV.qaz,hx2,T.qzf,T.qze,T.qj2,List.cons_append,List.nil_append]
 obtain⟨c5,ds5,t',e1,e2,e3,e4,e4r⟩:=h B' _ _ _ h1 (fun i hi=>by rw[h2 i (by omega),hag i hi]) (by rw[h2 (j+1) (by omega),hat]) hfr hclr;refine⟨c5,ds5,t',e1,e2,e3,?_,fun hu=>e4r ⟨hv,qxn hA ⟨hu,hD⟩⟩⟩;have e5:(T.node f v (A'++u::D')).inner=m+(T.inners A'+(u.inner+T.inners D')):=by rw[T.qyf,T.qj2,hm',qli];rfl
 omega
end Go.Proofs.Ytpcoohnjllclnaa.VS
namespace Go.Proofs.Ytpcoohnjllclnaa.VS
def qFA(A:List T)(x0 x1 x2:AV)(D:List T):List AV:=(fc A).map .d++([x0,x1,x2]++(fc D).map .d)
def TR(rs:List DV):Prop:=rs.all (fun r=> !(DV.int .u8 0).like r)=true
structure WS(bs:List Int)(j k:Nat)(B:qak)(A D:List T)(f v:Int)(ks:List T)(N:Nat):Prop where
 jk:j+k=5
 j2:2<=j
 len:B.length=6
 seed:qck bs 0 B
 one:B[1]?=some (some [.d (.int .i64 0),.d (.int .i64 0),.d (.sl U [])])
 free:∀i,2<=i->i<j->B[i]?=some none
 at_:B[j]?=some (some (qFA A (.d (.int .i64 f)) (.d (.int .i64 v)) (.d (.sl U (ks.map (T.enc U)))) D))
 rest:∀rs,TR rs->qbd rs B=true
 ctx:Ctx j B A D N
 siz:N+(T.node f v ks).inner<=6
 rg:(T.node f v ks).rng
end Go.Proofs.Ytpcoohnjllclnaa.VS
namespace Go.Proofs.Ytpcoohnjllclnaa.VS
end Go.Proofs.Ytpcoohnjllclnaa.VS
namespace Go.Proofs.Ytpcoohnjllclnaa.VS
end Go.Proofs.Ytpcoohnjllclnaa.VS
namespace Go.Proofs.Ytpcoohnjllclnaa.VS
theorem WS.read{bs:List Int}{j k:Nat}{B:qak}{A D:List T}{f v:Int}{ks:List T}{N:Nat}(h:WS bs j k B A D f v ks N){B':qak}(hl:B'.length=6)(hi:∀i,j<i->B'[i]?=B[i]?)(u:T)(g:Tag)(X:List DV)(hX:X.map DV.clr=u.kids.map (T.enc .sub))
 (hj:B'[j]?=some (some (qFA A (.d (.int .i64 u.f)) (.d (.int .i64 u.v)) (.d (.sl g X)) D))):
 ∃(c5:List AV) (ds5:List DV) (t':T),B'[5]?=some (some c5)/\qde (AV.frzC (qbf 2 B') 6) c5=some ds5/\ds5.map DV.clr=fcs [t']/\t'.inner<=N+u.inner/\(u.rng->t'.rng):=by
 refine h.ctx B' _ u (fc A++([.int .i64 u.f,.int .i64 u.v,.sl g X]++fc D)) hl hi hj ?_ ?_
 ·unfold qFA
  exact qgR _ _ _ (qll _ _ _) (qgR _ _ _ (qll _ _ [.int .i64 u.f,.int .i64 u.v,.sl g X]) (qll _ _ _))
 ·rw[List.map_append,List.map_append,qog,qog,qvI,qgU]
  simp only[List.map_cons,List.map_nil,DV.clr,DV.qaz,hX,List.cons_append,List.nil_append]
end Go.Proofs.Ytpcoohnjllclnaa.VS
namespace Go.Proofs.Ytpcoohnjllclnaa.VS
end Go.Proofs.Ytpcoohnjllclnaa.VS
namespace Go.Proofs.Ytpcoohnjllclnaa.VS
end Go.Proofs.Ytpcoohnjllclnaa.VS
namespace Go.Proofs.Ytpcoohnjllclnaa.VS
theorem qaL(bs:List Int)(pos st:Int):qat (qcS bs pos st)=some [.sl .sub (bs.map (.int .u8)),.int .i64 pos,.int .i64 st]:=by simp[qcS]
end Go.Proofs.Ytpcoohnjllclnaa.VS
namespace Go.Proofs.Ytpcoohnjllclnaa.VS
end Go.Proofs.Ytpcoohnjllclnaa.VS
namespace Go.Proofs.Ytpcoohnjllclnaa.VS
end Go.Proofs.Ytpcoohnjllclnaa.VS
namespace Go.Proofs.Ytpcoohnjllclnaa.VS
theorem qgw(l:List Int)(hl:l.length<=4398046511104):qau XV 188 [.d (is l),.d (is l)] []=some (.d (.bool true),[]):=by
 rw[qax XV _ _ _ qw7 rfl qmP rfl];have hloop:=qas (X:=XV) (T:=[]) (L:=0) (live:=[0,1,5]) (b:=qit) (n:=l.length) (γ:=Unit) (st:=fun(_:Unit) i=>⟨[(0,.d (is l)),(1,.d (is l)),(5,.d (.int .i64 i))],[]⟩) (step:=fun _ _=> .inl ())
  (F:=fun _=>(.exit 0,⟨[(0,.d (is l)),(1,.d (is l)),(5,.d (.int .i64 l.length)),(14,.d (.bool false))],[]⟩)) (R:=fun _=>(.ret,⟨[],[]⟩))
  (fun _=>⟨by simp,by simp[qit,qgJ,qgI,qii,qgH,qih,qjQ,qif,qig,qgG]⟩)
  (fun _ i hi=>by
   have hw:=qah (n:=i) (by omega);exact⟨_,by simp[qit,qgJ,qgI,qii,qgH,qih,qjQ,qif,qig,qgG,hi,hw,cut,qaH hi];rfl,by simp[qac,qaa]⟩)
  l.length () 0 ⟨[(0,.d (is l)),(1,.d (is l)),(5,.d (.int .i64 0))],[]⟩ (by omega) (by simp[qac,qaa])
 rw[qgx]at hloop;simp[qw7,qgJ,qgI,qii,qgH,qih,qjQ,qif,qig,qgG];rw[hloop];simp[qw7,qgJ,qgI,qii,qgH,qih,qjQ,qif,qig,qgG]
end Go.Proofs.Ytpcoohnjllclnaa.VS
namespace Go.Proofs.Ytpcoohnjllclnaa.VS
end Go.Proofs.Ytpcoohnjllclnaa.VS
namespace Go.Proofs.Ytpcoohnjllclnaa.VS
theorem qon(bs:List Int)(hl:bs.length<=1099511627776):∃(x y:List Int) (g:Tag),x.length<=5/\y.length<=5/\qau XV 210 [.d (.sl .sub (bs.map (.int .u8)))] []=some (.d (.tup [.sl U (x.map (.int .i64)),.sl g (y.map (.int .i64))]),[]):=by
 obtain⟨st,h1⟩:=qiN bs hl [];obtain⟨x,B1,hx,_,⟨p1,s1,hp1,rfl⟩,hc1⟩:=qeN bs hl _ 0 (qiJ bs [] st);simp only[List.nil_append,List.length_nil,List.set_cons_zero]at h1 hc1;have hsd:∀p s:Int,(0<=p/\p<=bs.length)->qck bs 0 [some (qcS bs p s)]:=fun p s h=>⟨p,s,h,rfl⟩
 rw[qzt XV _ _ _ qj5 rfl qtE rfl (m:=0) rfl rfl];have hbc:(bs.map (DV.int .u8)).map DV.clr=bs.map (.int .u8):=qsG bs;have hgo:∀(p s:Int),(0<=p/\p<=bs.length)->∃(b:Bool) (p' s':Int),(0<=p'/\p'<=bs.length)/\qau XV 162 [.ptr 0 0,.d (.int .i64 4)] [some (qcS bs p s)]=some (.d (.bool b),[some (qcS bs p' s')]):=fun p s h=>by
  obtain⟨b,B,⟨p',s',hp',rfl⟩,hc⟩:=qge bs hl _ 0 (hsd p s h) 4 (by omega) (by omega);exact⟨b,p',s',hp',hc⟩
 have fin:∀(p s:Int) (hp:0<=p/\p<=bs.length),∃(p' s':Int) (z:List Int),z.length<=5/\(0<=p'/\p'<=bs.length)/\qau XV 203 [.ptr 0 0] [some (qcS bs p s)]=some (.d (.sl U (z.map (.int .i64))),[some (qcS bs p' s')]):=fun p s hp=>by
  obtain⟨z,B,hz,_,⟨p',s',hp',rfl⟩,hc⟩:=qeN bs hl _ 0 (hsd p s hp);exact⟨p',s',z,hz,hp',hc⟩
 have hs1:∀(p s:Int) rs,rs.all (fun r=> !(DV.int .u8 0).like r)=true->qd5 rs (qcS bs p s)=true:=fun p s rs h=>qrA rs h bs p s
 match x,hx,hc1 with
 | [],hx,hc1=>
  obtain⟨b3,p3,s3,hp3,hc3⟩:=hgo p1 s1 hp1;obtain⟨p4,s4,z,hz,hp4,hc4⟩:=fin p3 s3 hp3;simp only[List.map_nil]at hc1;cases b3 with
  |true=>
   refine⟨[],z,U,hx,hz,?_⟩;generalize z.map (DV.int .i64)=zm at*
   simp[qj5,qc2,qc1,qc0,qcZ,qcY,qcX,qcW,qcV,qcU,h1,hc1,hc3,hc4,splice,qam,qaD,qaG,qa8,qaa,qbf,AV.frz,AV.frzC,qde,chunks,cut,qaJ,qai,qaC,qaL,qaW]
  |false=>
   refine⟨[],[],.sub,hx,hx,?_⟩;simp[qj5,qc2,qc1,qc0,qcZ,qcY,qcX,qcW,qcV,qcU,h1,hc1,hc3,splice,qam,qaD,qaG,qa8,qaa,qbf,AV.frz,AV.frzC,qde,chunks,cut,qaJ,qai,qaC,qaL,qaW]
 | [na],hx,hc1=>
  obtain⟨b,B2,⟨p2,s2,hp2,rfl⟩,hc2⟩:=qge bs hl _ 0 (hsd p1 s1 hp1) 2 (by omega) (by omega);obtain⟨b3,p3,s3,hp3,hc3⟩:=hgo p2 s2 hp2;obtain⟨p4,s4,z,hz,hp4,hc4⟩:=fin p3 s3 hp3;simp only[List.map_cons,List.map_nil,List.set_cons_zero]at hc1 hc2;have hs2:=hs1 p2 s2;cases b3 with
  |true=>
   refine⟨[na],z,U,hx,hz,?_⟩;generalize z.map (DV.int .i64)=zm at*
   cases b<;>simp[qj5,qc2,qc1,qc0,qcZ,qcY,qcX,qcW,qcV,qcU,h1,hc1,hc2,hc3,hc4,hs2,DV.like,splice,qam,qaD,qaG,qa8,qaa,qbf,AV.frz,AV.frzC,qde,chunks,cut,qaJ,qai,qaC,qaL,qaW]
  |false=>
   cases b with
   |true=>
    refine⟨[na],[IntKind.i64.wrap (na+1)],.sub,hx,hx,?_⟩;simp[qj5,qc2,qc1,qc0,qcZ,qcY,qcX,qcW,qcV,qcU,h1,hc1,hc2,hc3,hs2,DV.like,splice,qam,qaD,qaG,qa8,qaa,qbf,AV.frz,AV.frzC,qde,chunks,cut,qaJ,qai,qaC,qaL,qaW]
   |false=>
    refine⟨[na],[na],.sub,hx,hx,?_⟩;simp[qj5,qc2,qc1,qc0,qcZ,qcY,qcX,qcW,qcV,qcU,h1,hc1,hc2,hc3,splice,qam,qaD,qaG,qa8,qaa,qbf,AV.frz,AV.frzC,qde,chunks,cut,qaJ,qai,qaC,qaL,qaW]
 | [na,nb],hx,hc1=>
  obtain⟨b,B2,⟨p2,s2,hp2,rfl⟩,hc2⟩:=qge bs hl _ 0 (hsd p1 s1 hp1) 2 (by omega) (by omega);obtain⟨b3,p3,s3,hp3,hc3⟩:=hgo p2 s2 hp2;obtain⟨p4,s4,z,hz,hp4,hc4⟩:=fin p3 s3 hp3;simp only[List.map_cons,List.map_nil,List.set_cons_zero]at hc1 hc2;have hs2:=hs1 p2 s2;cases b3 with
  |true=>
   refine⟨[na,nb],z,U,hx,hz,?_⟩;generalize z.map (DV.int .i64)=zm at*
   cases b<;>simp[qj5,qc2,qc1,qc0,qcZ,qcY,qcX,qcW,qcV,qcU,h1,hc1,hc2,hc3,hc4,hs2,DV.like,splice,qam,qaD,qaG,qa8,qaa,qbf,AV.frz,AV.frzC,qde,chunks,cut,qaJ,qai,qaC,qaL,qaW]
  |false=>
   cases b with
   |true=>
    refine⟨[na,nb],[IntKind.i64.wrap (na+1),nb],.sub,hx,hx,?_⟩;simp[qj5,qc2,qc1,qc0,qcZ,qcY,qcX,qcW,qcV,qcU,h1,hc1,hc2,hc3,hs2,DV.like,splice,qam,qaD,qaG,qa8,qaa,qbf,AV.frz,AV.frzC,qde,chunks,cut,qaJ,qai,qaC,qaL,qaW]
   |false=>
    refine⟨[na,nb],[na,nb],.sub,hx,hx,?_⟩;simp[qj5,qc2,qc1,qc0,qcZ,qcY,qcX,qcW,qcV,qcU,h1,hc1,hc2,hc3,splice,qam,qaD,qaG,qa8,qaa,qbf,AV.frz,AV.frzC,qde,chunks,cut,qaJ,qai,qaC,qaL,qaW]
 | [na,nb,nc],hx,hc1=>
  obtain⟨b,B2,⟨p2,s2,hp2,rfl⟩,hc2⟩:=qge bs hl _ 0 (hsd p1 s1 hp1) 2 (by omega) (by omega);obtain⟨b3,p3,s3,hp3,hc3⟩:=hgo p2 s2 hp2;obtain⟨p4,s4,z,hz,hp4,hc4⟩:=fin p3 s3 hp3;simp only[List.map_cons,List.map_nil,List.set_cons_zero]at hc1 hc2;have hs2:=hs1 p2 s2;cases b3 with
  |true=>
   refine⟨[na,nb,nc],z,U,hx,hz,?_⟩;generalize z.map (DV.int .i64)=zm at*
   cases b<;>simp[qj5,qc2,qc1,qc0,qcZ,qcY,qcX,qcW,qcV,qcU,h1,hc1,hc2,hc3,hc4,hs2,DV.like,splice,qam,qaD,qaG,qa8,qaa,qbf,AV.frz,AV.frzC,qde,chunks,cut,qaJ,qai,qaC,qaL,qaW]
  |false=>
   cases b with
   |true=>
    refine⟨[na,nb,nc],[IntKind.i64.wrap (na+1),nb,nc],.sub,hx,hx,?_⟩;simp[qj5,qc2,qc1,qc0,qcZ,qcY,qcX,qcW,qcV,qcU,h1,hc1,hc2,hc3,hs2,DV.like,splice,qam,qaD,qaG,qa8,qaa,qbf,AV.frz,AV.frzC,qde,chunks,cut,qaJ,qai,qaC,qaL,qaW]
   |false=>
    refine⟨[na,nb,nc],[na,nb,nc],.sub,hx,hx,?_⟩;simp[qj5,qc2,qc1,qc0,qcZ,qcY,qcX,qcW,qcV,qcU,h1,hc1,hc2,hc3,splice,qam,qaD,qaG,qa8,qaa,qbf,AV.frz,AV.frzC,qde,chunks,cut,qaJ,qai,qaC,qaL,qaW]
 | [na,nb,nc,nd],hx,hc1=>
  obtain⟨b,B2,⟨p2,s2,hp2,rfl⟩,hc2⟩:=qge bs hl _ 0 (hsd p1 s1 hp1) 2 (by omega) (by omega);obtain⟨b3,p3,s3,hp3,hc3⟩:=hgo p2 s2 hp2;obtain⟨p4,s4,z,hz,hp4,hc4⟩:=fin p3 s3 hp3;simp only[List.map_cons,List.map_nil,List.set_cons_zero]at hc1 hc2;have hs2:=hs1 p2 s2;cases b3 with
  |true=>
   refine⟨[na,nb,nc,nd],z,U,hx,hz,?_⟩;generalize z.map (DV.int .i64)=zm at*
   cases b<;>simp[qj5,qc2,qc1,qc0,qcZ,qcY,qcX,qcW,qcV,qcU,h1,hc1,hc2,hc3,hc4,hs2,DV.like,splice,qam,qaD,qaG,qa8,qaa,qbf,AV.frz,AV.frzC,qde,chunks,cut,qaJ,qai,qaC,qaL,qaW]
  |false=>
   cases b with
   |true=>
    refine⟨[na,nb,nc,nd],[IntKind.i64.wrap (na+1),nb,nc,nd],.sub,hx,hx,?_⟩;simp[qj5,qc2,qc1,qc0,qcZ,qcY,qcX,qcW,qcV,qcU,h1,hc1,hc2,hc3,hs2,DV.like,splice,qam,qaD,qaG,qa8,qaa,qbf,AV.frz,AV.frzC,qde,chunks,cut,qaJ,qai,qaC,qaL,qaW]
   |false=>
    refine⟨[na,nb,nc,nd],[na,nb,nc,nd],.sub,hx,hx,?_⟩;simp[qj5,qc2,qc1,qc0,qcZ,qcY,qcX,qcW,qcV,qcU,h1,hc1,hc2,hc3,splice,qam,qaD,qaG,qa8,qaa,qbf,AV.frz,AV.frzC,qde,chunks,cut,qaJ,qai,qaC,qaL,qaW]
 | [na,nb,nc,nd,ne],hx,hc1=>
  obtain⟨b,B2,⟨p2,s2,hp2,rfl⟩,hc2⟩:=qge bs hl _ 0 (hsd p1 s1 hp1) 2 (by omega) (by omega);obtain⟨b3,p3,s3,hp3,hc3⟩:=hgo p2 s2 hp2;obtain⟨p4,s4,z,hz,hp4,hc4⟩:=fin p3 s3 hp3;simp only[List.map_cons,List.map_nil,List.set_cons_zero]at hc1 hc2;have hs2:=hs1 p2 s2;cases b3 with
  |true=>
   refine⟨[na,nb,nc,nd,ne],z,U,hx,hz,?_⟩;generalize z.map (DV.int .i64)=zm at*
   cases b<;>simp[qj5,qc2,qc1,qc0,qcZ,qcY,qcX,qcW,qcV,qcU,h1,hc1,hc2,hc3,hc4,hs2,DV.like,splice,qam,qaD,qaG,qa8,qaa,qbf,AV.frz,AV.frzC,qde,chunks,cut,qaJ,qai,qaC,qaL,qaW]
  |false=>
   cases b with
   |true=>
    refine⟨[na,nb,nc,nd,ne],[IntKind.i64.wrap (na+1),nb,nc,nd,ne],.sub,hx,hx,?_⟩;simp[qj5,qc2,qc1,qc0,qcZ,qcY,qcX,qcW,qcV,qcU,h1,hc1,hc2,hc3,hs2,DV.like,splice,qam,qaD,qaG,qa8,qaa,qbf,AV.frz,AV.frzC,qde,chunks,cut,qaJ,qai,qaC,qaL,qaW]
   |false=>
    refine⟨[na,nb,nc,nd,ne],[na,nb,nc,nd,ne],.sub,hx,hx,?_⟩;simp[qj5,qc2,qc1,qc0,qcZ,qcY,qcX,qcW,qcV,qcU,h1,hc1,hc2,hc3,splice,qam,qaD,qaG,qa8,qaa,qbf,AV.frz,AV.frzC,qde,chunks,cut,qaJ,qai,qaC,qaL,qaW]
 |_::_::_::_::_::_::_,hx,_=>exact absurd hx (by simp)
end Go.Proofs.Ytpcoohnjllclnaa.VS
namespace Go.Proofs.Ytpcoohnjllclnaa.VS
theorem qom(bs:List Int)(hl:bs.length<=1099511627776)(q L:Nat):∀(k i:Nat) (ps:List (List Int)) (B:qak),i+k=3->ps.length=i->(∀r,r∈ps->r.length<=5)->B.length=L->qck bs q B->
 ∀s0,qac L [4,5,6] s0=some ⟨[(4,.ptr q 0),(5,.d (.sl U (ps.map (ints U)))),(6,.d (.int .i64 i))],B⟩->
 ∃(ps':List (List Int)) (i':Nat) (B':qak),ps'.length<=3/\(∀r,r∈ps'->r.length<=5)/\qdf bs q B B'/\qdl XV (XV.lin 211) L [4,5,6] qlA s0=some (.exit 0,⟨[(4,.ptr q 0),(5,.d (.sl U (ps'.map (ints U)))),(6,.d (.int .i64 i')),(13,.d (.bool false))],B'⟩):=by
 intro k
 induction k with
 |zero=>
  intro i ps B hik hli hs hB hsd s0 h0;obtain⟨r,B1,hr,hT,hc⟩:=qbc bs hl B q hsd 4 (by omega) (by omega);refine⟨ps,i,B1,by omega,hs,hT,qco h0 ?_ (by simp)⟩;have hn:¬((i:Int)<r):=by omega
  simp[qlA,qqL,hc,hn]
 |succ k ih=>
  intro i ps B hik hli hs hB hsd s0 h0;obtain⟨r,B1,hr,hT,hc⟩:=qbc bs hl B q hsd 4 (by omega) (by omega);have hq:=hsd.lt
  by_cases hn:(i:Int)<r
  ·obtain⟨z,B2,hz,_,hT2,hc2⟩:=qeN bs hl B1 q (hT.at hq)
   have hl2:B2.length=L:=by rw[hT2.len,hT.len,hB]
   have ha:=qgk ps U U U z (by omega);have hw:=qah (n:=i) (by omega);have he:ps.map (ints U)++[ints U z]=(ps++[z]).map (ints U):=by simp
   have hb:qaN XV (XV.lin 211) qlA ⟨[(4,.ptr q 0),(5,.d (.sl U (ps.map (ints U)))),(6,.d (.int .i64 i))],B⟩=some (.normal,⟨[(4,.ptr q 0),(5,.d (.sl U ((ps++[z]).map (ints U)))),(6,.d (.int .i64 ((i+1:Nat):Int)))],B2⟩):=by
    rw[<-he];have ha':qaC 1 24 (.sl U (ps.map (ints U))) (.sl U [.sl U (z.map (.int .i64))])=some (.sl U (ps.map (ints U)++[ints U z])):=ha;generalize ps.map (ints U)++[ints U z]=l3 at*
    generalize ps.map (ints U)=l4 at*
    generalize z.map (DV.int .i64)=zm at*
    simp[qlA,quJ,quI,quH,quG,qqL,qyw,qyx,quF,hc,hn,hc2,ha',hw,qav,List.replicate,qam,qaD]
   rw[qfE h0 hb];obtain⟨ps',i',B',g1,g2,g3,g4⟩:=ih (i+1) (ps++[z]) B2 (by omega) (by simp;omega) (fun y hy=>by
    rcases List.mem_append.1 hy with h|h
    ·exact hs y h
    ·simp at h;subst h;exact hz) hl2 (hT2.at (by rw[hT.len];exact hq)) ⟨[(4,.ptr q 0),(5,.d (.sl U ((ps++[z]).map (ints U)))),(6,.d (.int .i64 ((i+1:Nat):Int)))],B2⟩ (qfF (e:=[]) (by simp) (by simp[qaa];omega) hl2 (by simp))
   exact⟨ps',i',B',g1,g2,(hT.trans hT2).trans g3,g4⟩
  ·refine⟨ps,i,B1,by omega,hs,hT,qco h0 ?_ (by simp)⟩
   simp[qlA,qqL,hc,hn]
theorem qst(bs:List Int)(hl:bs.length<=1099511627776):∃(ps:List (List Int)) (n:Int),ps.length<=3/\(∀r,r∈ps->r.length<=5)/\n<=5/\qau XV 211 [.d (.sl .sub (bs.map (.int .u8)))] []=some (.d (.tup [iss U ps,.int .i64 n]),[]):=by
 obtain⟨st,h1⟩:=qiN bs hl [];obtain⟨ps,i,B',g1,g2,⟨p2,s2,hp2,rfl⟩,g4⟩:=qom bs hl 0 1 3 0 [] [some (qcS bs 0 st)] rfl (by simp) (fun x hx=>by simp at hx) rfl (qiJ bs [] st) ⟨[(4,.ptr 0 0),(5,.d (.sl U [])),(6,.d (.int .i64 0))],[some (qcS bs 0 st)]⟩ (qfF (e:=[]) (by simp) (by simp[qaa]) rfl (by simp));obtain⟨r,B3,hr,⟨p3,s3,hp3,rfl⟩,hc3⟩:=qbc bs hl [some (qcS bs p2 s2)] 0 ⟨p2,s2,hp2,rfl⟩ 6 (by omega) (by omega);have hw:IntKind.i64.wrap (r-1)=r-1:=wrap_i64 (by omega) (by omega);refine⟨ps,r-1,g1,g2,by omega,?_⟩;simp only[List.nil_append,List.length_nil,List.set_cons_zero,qAN]at h1 hc3 g4;rw[qax XV _ _ _ qBJ rfl qtD rfl];show _=some (AV.d (DV.tup [.sl U (ps.map (ints U)),.int .i64 (r-1)]),_);generalize ps.map (ints U)=lm at g4⊢
 simp[qBJ,quJ,quI,quH,quG,qav,List.replicate,h1];rw[g4];simp[quF,hc3,hw]
theorem qmp(bs:List Int)(hl:bs.length<=1099511627776):∃(a b x:List Int),a.length<=4/\b.length<=4/\x.length<=10/\qau XV 209 [.d (.sl .sub (bs.map (.int .u8)))] []=some (.d (.tup [.sl U (a.map (.int .i64)),.sl U (b.map (.int .i64)),.sl U (x.map (.int .i64))]),[]):=by
 obtain⟨st,h1⟩:=qiN bs hl [];obtain⟨a,B1,g1,⟨p1,s1,hp1,rfl⟩,h2⟩:=qeM bs hl _ 0 (qiJ bs [] st);simp only[List.nil_append,List.length_nil,List.set_cons_zero]at h1 h2;obtain⟨b,B2,g2,⟨p2,s2,hp2,rfl⟩,h3⟩:=qeM bs hl [some (qcS bs p1 s1)] 0 ⟨p1,s1,hp1,rfl⟩;simp only[List.set_cons_zero]at h3;have hB:=qhE a b (by omega) (by omega);simp only[is]at hB;have hsd:∀p s:Int,(0<=p/\p<=bs.length)->qck bs 0 [some (qcS bs p s)]:=fun p s h=>⟨p,s,h,rfl⟩
 have fin:∀(p s:Int) (hp:0<=p/\p<=bs.length),∃(p' s':Int) (z:List Int),z.length<=5/\(0<=p'/\p'<=bs.length)/\qau XV 203 [.ptr 0 0] [some (qcS bs p s)]=some (.d (.sl U (z.map (.int .i64))),[some (qcS bs p' s')]):=fun p s hp=>by
  obtain⟨z,B,hz,_,⟨p',s',hp',rfl⟩,hc⟩:=qeN bs hl _ 0 (hsd p s hp);exact⟨p',s',z,hz,hp',hc⟩
 have hac:(a.map (DV.int .i64)).map DV.clr=a.map (.int .i64):=by simp[List.map_map,Function.comp_def]
 have hbc:(b.map (DV.int .i64)).map DV.clr=b.map (.int .i64):=by simp[List.map_map,Function.comp_def]
 by_cases hcnd:qbD a=true/\qbD b=true/\(qar a b).length<=60
 ·rw[if_pos hcnd]at hB
  by_cases h0:(qar a b).length=0
  ·have e0:qar a b=[]:=List.eq_nil_of_length_eq_zero h0
   rw[e0]at hB;simp only[List.map_nil]at hB;obtain⟨p3,s3,z,hz,hp3,hc3⟩:=fin p2 s2 hp2;refine⟨a,b,z,g1,g2,by omega,?_⟩;rw[qax XV _ _ _ qs4 rfl qgr rfl];generalize a.map (DV.int .i64)=am at*
   generalize b.map (DV.int .i64)=bm at*
   generalize z.map (DV.int .i64)=zm at*
   simp[qs4,qnN,qnM,qnL,qnK,qnJ,qnI,qnH,qnG,h1,h2,h3,hB,hc3,hac,hbc]
  ·obtain⟨o,B3,⟨p3,s3,hp3,rfl⟩,hc3⟩:=qge bs hl _ 0 (hsd p2 s2 hp2) 3 (by omega) (by omega)
   simp only[List.set_cons_zero]at hc3;have hrow:∀z,z∈qar a b->z.length<=10:=fun z hz=>by
    have:=(qCB hcnd.1 hcnd.2.1 hz).len;omega
   have hpos:(qar a b).length>0:=by omega
   have hposI:((qar a b).length:Int)>0:=by omega
   cases o with
   |true=>
    obtain⟨p4,s4,z,hz,hp4,hc4⟩:=fin p3 s3 hp3;refine⟨a,b,z,g1,g2,by omega,?_⟩;have hlm:((qar a b).map (ints .sub)).length=(qar a b).length:=by simp
    rw[qax XV _ _ _ qs4 rfl qgr rfl];generalize (qar a b).map (ints .sub)=L at*
    generalize (qar a b).length=N at*
    generalize a.map (DV.int .i64)=am at*
    generalize b.map (DV.int .i64)=bm at*
    generalize z.map (DV.int .i64)=zm at*
    simp[qs4,qnN,qnM,qnL,qnK,qnJ,qnI,qnH,qnG,h1,h2,h3,hB,hc3,hc4,hac,hbc,hlm,hpos,hposI]
   |false=>
    obtain⟨r,B4,hr,⟨p4,s4,hp4,rfl⟩,hc4⟩:=qbc bs hl _ 0 (hsd p3 s3 hp3) (qar a b).length (by omega) (by omega);simp only[List.set_cons_zero]at hc4;have hrl:r.toNat<(qar a b).length:=by omega
    have hz:=hrow _ (qdi hrl);refine⟨a,b,rAt (qar a b) r.toNat,g1,g2,hz,?_⟩;have hlm:((qar a b).map (ints .sub)).length=(qar a b).length:=by simp
    have hclr:((qar a b).map (ints .sub)).map DV.clr=(qar a b).map (ints .sub):=by
     rw[List.map_map];exact List.map_congr_left fun x _=>by simp[Function.comp_def]
    have hget:((qar a b).map (ints .sub))[r.toNat]?=some (ints .sub (rAt (qar a b) r.toNat)):=by simp[hrl,qaS hrl]
    have hcells:(ints .sub (rAt (qar a b) r.toNat)).cells=[ints .sub (rAt (qar a b) r.toNat)]:=rfl;have hap:=qec [] (rAt (qar a b) r.toNat) .sub (by simp;omega);simp only[List.map_nil,List.nil_append]at hap;rw[qax XV _ _ _ qs4 rfl qgr rfl];have hget':((qar a b).map (ints .sub))[r.toNat]?=some (.sl .sub ((rAt (qar a b) r.toNat).map (.int .i64))):=hget;have hzc:((rAt (qar a b) r.toNat).map (DV.int .i64)).map DV.clr=(rAt (qar a b) r.toNat).map (.int .i64):=by simp[List.map_map,Function.comp_def]
    generalize (qar a b).map (ints .sub)=L at*
    generalize (qar a b).length=N at*
    generalize (rAt (qar a b) r.toNat).map (DV.int .i64)=zm at*
    generalize a.map (DV.int .i64)=am at*
    generalize b.map (DV.int .i64)=bm at*
    have hr0:=hr.1;simp[qs4,qnN,qnM,qnL,qnK,qnJ,qnI,qnH,qnG,h1,h2,h3,hB,hc3,hc4,hac,hbc,hlm,hclr,hpos,hposI,hr0,hget',hap,hzc,cut,qav,List.replicate]
 ·rw[if_neg hcnd]at hB
  obtain⟨p3,s3,z,hz,hp3,hc3⟩:=fin p2 s2 hp2;refine⟨a,b,z,g1,g2,by omega,?_⟩;rw[qax XV _ _ _ qs4 rfl qgr rfl];generalize a.map (DV.int .i64)=am at*
  generalize b.map (DV.int .i64)=bm at*
  generalize z.map (DV.int .i64)=zm at*
  simp[qs4,qnN,qnM,qnL,qnK,qnJ,qnI,qnH,qnG,h1,h2,h3,hB,hc3,hac,hbc]
end Go.Proofs.Ytpcoohnjllclnaa.VS
namespace Go.Proofs.Ytpcoohnjllclnaa.VS
theorem qoa(x y:List Int)(hx:x.length<=1099511627776)(hy:y.length<=1099511627776)(hxy:x.length≠y.length):qau XV 51 [.d (is x),.d (is y)] []=some (.d (.bool false),[]):=by
 rw[qax XV _ _ _ v51 rfl qp2 rfl];have h1:((x.length:Int) !=y.length)=true:=by simp;omega
 simp[v51,qnf,qne,qnd,qnc,qnb,qna,qm9,qpO,qm8,qpN,qhG,qhF,h1]
theorem qm5(x y:List Int):∀k b i,(∃b',runN (qcT x y) k b i= .inl b')\/runN (qcT x y) k b i= .inr ()
 |0,b,i=> .inl ⟨b,rfl⟩
 |k+1,b,i=>by
  simp only[runN,qcT]
  by_cases c:iAt y i<iAt x i
  ·rw[if_pos c];exact .inr rfl
  ·rw[if_neg c];exact qm5 x y k _ _
theorem qm0(x y:List Int)(hx:x.length<=1099511627776)(hy:y.length<=1099511627776)(hxy:x.length≠y.length):qau XV 50 [.d (is x),.d (is y)] []=some (.d (.bool false),[]):=by
 rw[qax XV _ _ _ v50 rfl qp3 rfl];have hm1:min x.length y.length<=x.length:=Nat.min_le_left _ _;have hm2:min x.length y.length<=y.length:=Nat.min_le_right _ _;have h:=qas (X:=XV) (T:=XV.lin 50) (L:=0) (live:=[0,1,5,6]) (b:=qiw) (n:=min x.length y.length) (γ:=Unit) (st:=fun(b:Bool) i=>⟨[(0,.d (is x)),(1,.d (is y)),(5,.d (.bool b)),(6,.d (.int .i64 i))],[]⟩) (step:=qcT x y)
  (F:=fun b=>(.exit 0,⟨[(0,.d (is x)),(1,.d (is y)),(5,.d (.bool b)),(6,.d (.int .i64 (min x.length y.length:Nat))),(16,.d (.bool false))],[]⟩)) (R:=fun _=>(.ret,⟨[(4,.d (.bool false))],[]⟩))
  (fun _=>⟨by simp,by
   by_cases c:x.length<=y.length
   ·rw[Nat.min_eq_left c];simp[qiw,qfQ,qfP,qfO,qfN,qgj,qfL,qgi,qfM,qfK]
   ·have c1:y.length<x.length:=by omega
    have c2:(y.length:Int)<x.length:=by omega
    rw[Nat.min_eq_right (by omega)];simp[qiw,qfQ,qfP,qfO,qfN,qgj,qfL,qgi,qfM,qfK,c1,c2]⟩)
  (fun b i hi=>by
   have hw:=qah (n:=i) (by omega);have hi1:i<x.length:=by omega
   have hi2:i<y.length:=by omega
   unfold qcT
   by_cases h1:iAt y i<iAt x i
   ·simp only[h1,if_true]
    exact⟨by simp,by simp[qiw,qfQ,qfP,qfO,qfN,qgj,qfL,qgi,qfM,qfK,hi1,hi2,hw,cut,qaH hi1,qaH hi2,h1]⟩
   ·simp only[h1,if_false]
    cases b with
    |true=>exact⟨_,by simp[qiw,qfQ,qfP,qfO,qfN,qgj,qfL,qgi,qfM,qfK,hi1,hi2,hw,cut,qaH hi1,qaH hi2,h1];rfl,by simp[qac,qaa]⟩
    |false=>exact⟨_,by simp[qiw,qfQ,qfP,qfO,qfN,qgj,qfL,qgi,qfM,qfK,hi1,hi2,hw,cut,qaH hi1,qaH hi2,h1];rfl,by simp[qac,qaa]⟩)
  (min x.length y.length) false 0 ⟨[(0,.d (is x)),(1,.d (is y)),(5,.d (.bool false)),(6,.d (.int .i64 0))],[]⟩ (by omega) (by simp[qac,qaa])
 simp only[qyZ]at h;have hne:((x.length:Int)==y.length)=false:=by simp;omega
 simp[v50,qfQ,qfP,qfO,qfN,qgj,qfL,qgi,qfM,qfK];rw[h];rcases qm5 x y (min x.length y.length) false 0 with⟨b,hq⟩|hq
 ·rw[hq];cases b<;>simp[v50,qfQ,qfP,qfO,qfN,qgj,qfL,qgi,qfM,qfK,hne]
 ·rw[hq];simp[v50,qfQ,qfP,qfO,qfN,qgj,qfL,qgi,qfM,qfK]
theorem qsa(x y:List Int)(hx:x.length<=1099511627776)(hy:y.length<=1099511627776):∃b,qau XV 51 [.d (is x),.d (is y)] []=some (.d (.bool b),[])/\qau XV 50 [.d (is x),.d (is y)] []=some (.d (.bool b),[]):=by
 by_cases h:x.length=y.length
 ·exact⟨_,qfi x y hx h,qeZ x y hx h⟩
 ·exact⟨false,qoa x y hx hy h,qm0 x y hx hy h⟩
def qBg(a b:List Int)(i:Nat):Bool:= !(iAt a i==iAt b i)
def qBQ(a b:List Int):Bool:=(qaw (qBg a b) a.length 0).isNone
theorem qpg(a b:List Int)(ha:a.length<=1099511627776)(hab:a.length=b.length):qau XV 188 [.d (is a),.d (is b)] []=some (.d (.bool (qBQ a b)),[]):=by
 rw[qax XV _ _ _ qw7 rfl qmP rfl];have hloop:=qas (X:=XV) (T:=XV.lin 188) (L:=0) (live:=[0,1,5]) (b:=qit) (n:=a.length) (γ:=Nat) (st:=fun(_:Unit) i=>⟨[(0,.d (is a)),(1,.d (is b)),(5,.d (.int .i64 i))],[]⟩) (step:=qeW (qBg a b))
  (F:=fun _=>(.exit 0,⟨[(0,.d (is a)),(1,.d (is b)),(5,.d (.int .i64 a.length)),(14,.d (.bool false))],[]⟩)) (R:=fun _=>(.ret,⟨[(4,.d (.bool false))],[]⟩))
  (fun _=>⟨by simp,by simp[qit,qgJ,qgI,qii,qgH,qih,qjQ,qif,qig,qgG]⟩)
  (fun _ i hi=>by
   have hi2:i<b.length:=by omega
   have hw:=qah (n:=i) (by omega);unfold qeW;cases hq:qBg a b i with
   |true=>
    simp only[if_true];unfold qBg at hq;have e:(iAt a i !=iAt b i)=true:=by simpa using hq
    exact⟨by simp,by simp[qit,qgJ,qgI,qii,qgH,qih,qjQ,qif,qig,qgG,hi,hi2,cut,qaH hi,qaH hi2,e]⟩
   |false=>
    simp only[Bool.false_eq_true,if_false];unfold qBg at hq;have e:(iAt a i !=iAt b i)=false:=by simpa using hq
    exact⟨_,by simp[qit,qgJ,qgI,qii,qgH,qih,qjQ,qif,qig,qgG,hi,hi2,hw,cut,qaH hi,qaH hi2,e];rfl,by simp[qac,qaa]⟩)
  a.length () 0 ⟨[(0,.d (is a)),(1,.d (is b)),(5,.d (.int .i64 0))],[]⟩ (by omega) (by simp[qac,qaa])
 rw[qxm]at hloop;simp only[qAO]at hloop;have hl:(a.length:Int)=b.length:=by omega
 unfold qBQ;simp[qw7,qgJ,qgI,qgH,hl];rw[hl]at hloop;rw[hloop];cases qaw (qBg a b) a.length 0 with
 |none=>simp[qgG]
 |some j=>simp
def qu0(a:List Int)(i:Nat):Bool:= !(iAt a i==0)
theorem qzg(a:List Int)(ha:a.length<=1099511627776):qau XV 216 [.d (is a)] []=some (.d (.bool (qaw (qu0 a) a.length 0).isNone),[]):=by
 rw[qax XV _ _ _ qBH rfl qtz rfl];have hloop:=qas (X:=XV) (T:=XV.lin 216) (L:=0) (live:=[0,3]) (b:=qoB) (n:=a.length) (γ:=Nat) (st:=fun(_:Unit) i=>⟨[(0,.d (is a)),(3,.d (.int .i64 i))],[]⟩) (step:=qeW (qu0 a))
  (F:=fun _=>(.exit 0,⟨[(0,.d (is a)),(3,.d (.int .i64 a.length)),(7,.d (.bool false))],[]⟩)) (R:=fun _=>(.ret,⟨[(2,.d (.bool false))],[]⟩))
  (fun _=>⟨by simp,by simp[qoB,qny,qnx,qqH,qqF,qqE,qqG,qnw]⟩)
  (fun _ i hi=>by
   have hw:=qah (n:=i) (by omega);unfold qeW;cases hq:qu0 a i with
   |true=>
    simp only[if_true];unfold qu0 at hq;have e:(iAt a i !=0)=true:=by simpa using hq
    exact⟨by simp,by simp[qoB,qny,qnx,qqH,qqF,qqE,qqG,qnw,hi,cut,qaH hi,e]⟩
   |false=>
    simp only[Bool.false_eq_true,if_false];unfold qu0 at hq;have e:(iAt a i !=0)=false:=by simpa using hq
    exact⟨_,by simp[qoB,qny,qnx,qqH,qqF,qqE,qqG,qnw,hi,hw,cut,qaH hi,e];rfl,by simp[qac,qaa]⟩)
  a.length () 0 ⟨[(0,.d (is a)),(3,.d (.int .i64 0))],[]⟩ (by omega) (by simp[qac,qaa])
 rw[qxm]at hloop;simp only[qAL]at hloop;simp[qBH,qny,qnx];rw[hloop];cases qaw (qu0 a) a.length 0 with
 |none=>simp[qnw]
 |some j=>simp
def qfV(L:List (List Int))(w:List Int)(i:Nat):Bool:=qBQ (rAt L i) w||qdd (rAt L i) w
theorem qsX(L:List (List Int))(w:List Int)(hL:L.length<=1099511627776)(hw:w.length<=1099511627776)(hr:∀i,i<L.length->(rAt L i).length=w.length):qau XV 215 [.d (iss .sub L),.d (is w)] []=some (.d (.bool (qaw (qfV L w) L.length 0).isSome),[]):=by
 rw[qax XV _ _ _ qBI rfl qtA rfl];have hloop:=qas (X:=XV) (T:=XV.lin 215) (L:=0) (live:=[0,1,5]) (b:=qlx) (n:=L.length) (γ:=Nat) (st:=fun(_:Unit) i=>⟨[(0,.d (iss .sub L)),(1,.d (is w)),(5,.d (.int .i64 i))],[]⟩) (step:=qeW (qfV L w))
  (F:=fun _=>(.exit 0,⟨[(0,.d (iss .sub L)),(1,.d (is w)),(5,.d (.int .i64 L.length)),(9,.d (.bool false))],[]⟩)) (R:=fun _=>(.ret,⟨[(4,.d (.bool true))],[]⟩))
  (fun _=>⟨by simp,by simp[qlx,qkZ,qkY,qnC,qnA,qnz,qnB,qkX]⟩)
  (fun _ i hi=>by
   have hwr:=qah (n:=i) (by omega);have hlen:=hr i hi;have h1:=qpg (rAt L i) w (by omega) hlen;have h2:=qeZ (rAt L i) w (by omega) hlen;unfold qeW qfV;simp only[is]at h1 h2⊢
   cases e1:qBQ (rAt L i) w with
   |true=>
    rw[e1]at h1;simp only[Bool.true_or,if_true];exact⟨by simp,by simp[qlx,qkZ,qkY,qnC,qnA,qnz,qnB,qkX,hi,cut,qaS hi,h1]⟩
   |false=>
    rw[e1]at h1;cases e2:qdd (rAt L i) w with
    |true=>
     rw[e2]at h2;simp only[Bool.or_true,if_true];exact⟨by simp,by simp[qlx,qkZ,qkY,qnC,qnA,qnz,qnB,qkX,hi,cut,qaS hi,h1,h2]⟩
    |false=>
     rw[e2]at h2;simp only[Bool.or_false,Bool.false_eq_true,if_false];exact⟨_,by simp[qlx,qkZ,qkY,qnC,qnA,qnz,qnB,qkX,hi,hwr,cut,qaS hi,h1,h2];rfl,by simp[qac,qaa]⟩)
  L.length () 0 ⟨[(0,.d (iss .sub L)),(1,.d (is w)),(5,.d (.int .i64 0))],[]⟩ (by omega) (by simp[qac,qaa])
 rw[qxm]at hloop;simp only[qAM]at hloop;simp[qBI,qkZ,qkY];rw[hloop];cases qaw (qfV L w) L.length 0 with
 |none=>simp[qkX]
 |some j=>simp
theorem qqq(x y:List Int):∀k b i,(∀j,i<=j->j<i+k->iAt x j<=iAt y j)->∃b',runN (qcT x y) k b i= .inl b'/\(b'=false->∀j,i<=j->j<i+k->iAt x j=iAt y j)
 |0,b,i,_=>⟨b,rfl,fun _ j h1 h2=>by omega⟩
 |k+1,b,i,h=>by
  have h0:=h i (by omega) (by omega);have hc:¬iAt y i<iAt x i:=by omega
  obtain⟨b',h1,h2⟩:=qqq x y k (b||decide (iAt x i<iAt y i)) (i+1) (fun j g1 g2=>h j (by omega) (by omega));refine⟨b',by simp only[runN,qcT];rw[if_neg hc];exact h1,fun hb j g1 g2=> ?_⟩
  by_cases e:j=i
  ·subst e
   have:=(qhn x y _ _ _ _ h1).1;subst hb
   by_cases c:iAt x j<iAt y j
   ·exfalso
    have hT:∀(k i:Nat) (b':Bool),runN (qcT x y) k true i= .inl b'->b'=true:=by
     intro k
     induction k with
     |zero=>intro i b' h;simpa[runN]using h.symm
     |succ k ih=>
      intro i b' h;simp only[runN,qcT]at h
      by_cases c2:iAt y i<iAt x i
      ·rw[if_pos c2]at h;exact absurd h (by simp)
      ·rw[if_neg c2,Bool.true_or]at h
       exact ih _ _ h
    have e1:(b||decide (iAt x j<iAt y j))=true:=by simp[c]
    rw[e1]at h1;exact absurd (hT _ _ _ h1) (by simp)
   ·omega
  ·exact h2 hb j (by omega) (by omega)
theorem qxa{L:List (List Int)}{w:List Int}{i:Nat}(hi:i<L.length)(hlen:(rAt L i).length=w.length)(h:∀j,iAt (rAt L i) j<=iAt w j):qfV L w i=true:=by
 unfold qfV;obtain⟨b',h1,h2⟩:=qqq (rAt L i) w (rAt L i).length false 0 (fun j _ _=>h j);cases b' with
 |true=>
  have:qdd (rAt L i) w=true:=by unfold qdd;rw[h1]
  rw[this];simp
 |false=>
  have h3:=h2 rfl;have:qBQ (rAt L i) w=true:=by
   unfold qBQ;refine qln _ _ fun j hj=> ?_
   unfold qBg;rw[h3 j (by omega) (by omega)];simp
  rw[this];simp
end Go.Proofs.Ytpcoohnjllclnaa.VS
namespace Go.Proofs.Ytpcoohnjllclnaa.VS
theorem qpr{a b z:List Int}(h:z∈qfu a b):qcK a b z=true:=by
 unfold qfu qd7 at h;obtain⟨x',_,h2⟩:=List.mem_flatMap.1 h;unfold qb2 at h2;have h3:=(List.mem_filter.1 h2).2;unfold qff at h3;simp only[Bool.and_eq_true]at h3;exact h3.2
theorem qg4{a b z:List Int}(h:z∈qar a b):z∈qfu a b/\qdm (qfu a b) z=true:=by
 unfold qar qbg at h;rw[List.take_length]at h;exact List.mem_filter.1 h
theorem qu4{L:List (List Int)}{z:List Int}(h:z∈L):∃i,i<L.length/\rAt L i=z:=by
 obtain⟨i,hi,rfl⟩:=List.getElem_of_mem h;exact⟨i,hi,(qaS hi).symm⟩
theorem qpW{a b y z:List Int}(hy:y∈qar a b)(hz:z∈qar a b):qdd y z=false:=by
 have h1:=(qg4 hz).2;unfold qdm at h1;obtain⟨i,hi,rfl⟩:=qu4 (qg4 hy).1;exact qfm _ _ h1 i hi
theorem qpV{a b w:List Int}(ha:qbD a=true)(hb:qbD b=true)(hlen:w.length=a.length+b.length)(h4:∀i,iAt w i<=4)(hs:qcK a b w=true)(hz:(qaw (qu0 w) w.length 0).isNone=false):
 (qaw (qfV (qar a b) w) (qar a b).length 0).isSome=true:=by
 have hs0:=hs;unfold qcK at hs;simp only[Bool.and_eq_true]at hs;have hnn:=qfm _ _ hs.2.1;have h0:∀i,0<=iAt w i:=fun i=>by
  by_cases c:i<w.length
  ·have:=hnn i c
   unfold qgf at this;simpa using this
  ·rw[qmk (by omega)];omega
 obtain⟨x,y,rfl,hx,hy⟩:∃x y,w=x++y/\x.length=a.length/\y.length=b.length:=⟨w.take a.length,w.drop a.length,(List.take_append_drop _ _).symm,by simp;omega,by simp;omega⟩;have ax:∀i,0<=iAt x i/\iAt x i<=4:=fun i=>by
  by_cases c:i<x.length
  ·have e:=qch x y i c
   have g1:=h0 i;have g2:=h4 i
   omega
  ·rw[qmk (by omega)];omega
 have ay:∀i,0<=iAt y i/\iAt y i<=4:=fun i=>by
  have e:=qca x y i;have g1:=h0 (x.length+i);have g2:=h4 (x.length+i)
  omega
 have hsw:=qek ha hb ⟨hx,ax⟩ ⟨hy,ay⟩;rw[hs0]at hsw;have hdot:qcm a x 0 0 a.length=qcm b y 0 0 b.length:=by simpa using hsw.symm
 have hp:∃i,0<iAt (x++y) i:=by
  cases hf:qaw (qu0 (x++y)) (x++y).length 0 with
  |none=>rw[hf]at hz;simp at hz
  |some i=>
   have:=(qfn _ _ _ _ hf).2.2;unfold qu0 at this;have g:=h0 i;refine⟨i,?_⟩;have:¬iAt (x++y) i=0:=by simpa using this
   omega
 obtain⟨z,g1,g2⟩:=que ha hb x y hx hy (fun i=>(ax i).1) (fun i=>(ay i).1) hdot hp;obtain⟨i,hi,rfl⟩:=qu4 g1;have hlz:=qgl a b _ _ (qg4 g1).1;have hu:=qxa hi (by omega) g2;cases hf:qaw (qfV (qar a b) (x++y)) (qar a b).length 0 with
 |some j=>rfl
 |none=>
  have:=qfm _ _ (by rw[hf];rfl) i hi;rw[hu]at this;simp at this
theorem qAl(v:Int):v.tmod 4<4:=Int.tmod_lt_of_pos v (by omega)
structure BasL(a b:List Int)(L:List (List Int))(ok:Bool):Prop where
 la:a.length<=4
 lb:b.length<=4
 len:L.length<=60
 row:∀i,i<L.length->(rAt L i).length=a.length+b.length
 sol:∀i,i<L.length->qcK a b (rAt L i)=true
 least:∀i k,i<L.length->k<L.length->qdd (rAt L k) (rAt L i)=false
 under:ok=true->∀w:List Int,w.length=a.length+b.length->(∀i,iAt w i<=4)->qcK a b w=true->(qaw (qu0 w) w.length 0).isNone=false->(qaw (qfV L w) L.length 0).isSome=true
 nil:ok=false->L=[]
def qko(D:DV)(a b:List Int)(L:List (List Int))(ok:Bool):List (Nat×AV):=[(0,.d D),(3,.d (is a)),(4,.d (is b)),(5,.d (iss .sub L)),(6,.d (.bool ok)),(7,.d (iss .sub L))]
theorem qEe{a b:List Int}{L:List (List Int)}{ok:Bool}(h:BasL a b L ok)(D:DV)(i:Nat)(hi:i<L.length):
 qdl XV (XV.lin 205) 0 [0,3,4,5,6,7,16,17] qoE ⟨qko D a b L ok++[(16,.d (.int .i64 i)),(17,.d (.int .i64 0))],[]⟩=some (.exit 2,⟨qko D a b L ok++[(16,.d (.int .i64 i)),(17,.d (.int .i64 L.length)),(125,.d (.bool false))],[]⟩):=by
 have hlen:=h.len;have hloop:=qas (X:=XV) (T:=XV.lin 205) (L:=0) (live:=[0,3,4,5,6,7,16,17]) (b:=qoE) (n:=L.length) (γ:=Unit) (st:=fun(_:Unit) k=>⟨qko D a b L ok++[(16,.d (.int .i64 i)),(17,.d (.int .i64 k))],[]⟩) (step:=fun _ _=> .inl ())
  (F:=fun _=>(.exit 2,⟨qko D a b L ok++[(16,.d (.int .i64 i)),(17,.d (.int .i64 L.length)),(125,.d (.bool false))],[]⟩)) (R:=fun _=>(.ret,⟨[],[]⟩))
  (fun _=>⟨by simp,by simp[qoE,qk9,qk8,qk7,qnU,qnT,qnS,qnR,qnQ,qnP,qnO,qjs,qjr,qhi,qmw,qjp,qjo,ql6,qpP,ql4,ql5,qjq,qjn,qeG,qgc,qgb,qjm,ql2,ql3,qga,qf9,qgd,qhh,qko]⟩)
  (fun _ k hk=>by
   have hw:=qah (n:=k) (by omega);have hl:=qfi (rAt L k) (rAt L i) (by rw[h.row k hk];have:=h.la;have:=h.lb;omega) (by rw[h.row k hk,h.row i hi]);rw[h.least i k hi hk]at hl;simp only[is]at hl;refine⟨_,by simp[qoE,qk9,qk8,qk7,qnU,qnT,qnS,qnR,qnQ,qnP,qnO,qjs,qjr,qhi,qmw,qjp,qjo,ql6,qpP,ql4,ql5,qjq,qjn,qeG,qgc,qgb,qjm,ql2,ql3,qga,qf9,qgd,qhh,qko,hi,hk,hw,cut,qaS hi,qaS hk,hl];rfl,by simp[qac,qaa,qko]⟩)
  L.length () 0 ⟨qko D a b L ok++[(16,.d (.int .i64 i)),(17,.d (.int .i64 0))],[]⟩ (by omega) (by simp[qac,qaa,qko])
 rw[qgx]at hloop;exact hloop
theorem qBw{a b:List Int}{L:List (List Int)}{ok:Bool}(h:BasL a b L ok)(D:DV):
 qdl XV (XV.lin 205) 0 [0,3,4,5,6,7,16] qoF ⟨qko D a b L ok++[(16,.d (.int .i64 0))],[]⟩=some (.exit 0,⟨qko D a b L ok++[(16,.d (.int .i64 L.length)),(99,.d (.bool false))],[]⟩):=by
 have hlen:=h.len;have hloop:=qas (X:=XV) (T:=XV.lin 205) (L:=0) (live:=[0,3,4,5,6,7,16]) (b:=qoF) (n:=L.length) (γ:=Unit) (st:=fun(_:Unit) i=>⟨qko D a b L ok++[(16,.d (.int .i64 i))],[]⟩) (step:=fun _ _=> .inl ())
  (F:=fun _=>(.exit 0,⟨qko D a b L ok++[(16,.d (.int .i64 L.length)),(99,.d (.bool false))],[]⟩)) (R:=fun _=>(.ret,⟨[],[]⟩))
  (fun _=>⟨by simp,by simp[qoF,qhi,qko]⟩)
  (fun _ i hi=>by
   have hw:=qah (n:=i) (by omega);have hr:=h.row i hi;have la:=h.la;have lb:=h.lb;have h1:=qgw (rAt L i) (by omega);have h2:=qdB a b (rAt L i) (by omega) (by omega) (by omega);rw[h.sol i hi]at h2;have hin:=qEe h D i hi;simp only[is,qmg]at h1 h2 hin;simp only[qko,List.cons_append,List.nil_append]at hin;refine⟨⟨qko D a b L ok++[(16,.d (.int .i64 ((i+1:Nat):Int)))],[]⟩,?_,by simp[qac,qaa,qko]⟩;simp[qoF,qhi,qmw,qjp,qjo,qko,hi,cut,qaS hi,h1,h2];simp only[is]at hin;rw[hin];simp[qjq,hw])
  L.length () 0 ⟨qko D a b L ok++[(16,.d (.int .i64 0))],[]⟩ (by omega) (by simp[qac,qaa,qko])
 rw[qgx]at hloop;exact hloop
def qiR(bs:List Int)(a b:List Int)(L:List (List Int))(ok:Bool):List (Nat×AV):=[(0,.d (.sl .sub (bs.map (.int .u8)))),(3,.d (is a)),(4,.d (is b)),(5,.d (iss .sub L)),(6,.d (.bool ok))]
theorem qxD(l:List Int)(x:Int)(j:Nat):iAt (l++[x]) j=if j<l.length then iAt l j else if j=l.length then x else 0:=by
 by_cases c:j<l.length
 ·rw[if_pos c,qch _ _ _ c]
 ·rw[if_neg c]
  obtain⟨m,rfl⟩:∃m,j=l.length+m:=⟨j-l.length,by omega⟩;rw[qca];cases m with
  |zero=>simp[iAt]
  |succ m=>rw[if_neg (by omega)];simp[iAt]
theorem qGC(bs:List Int)(hl:bs.length<=1099511627776)(a b:List Int)(L:List (List Int))(ok:Bool)(la:a.length<=4)(lb:b.length<=4)(i:Nat)(hi:i<=100):∀(m k:Nat) (l:List Int),k+m=a.length+b.length->l.length=k->(∀j,iAt l j<=4)->
 ∃w:List Int,w.length=a.length+b.length/\(∀j,iAt w j<=4)/\
 qdl XV (XV.lin 205) 0 [0,3,4,5,6,18,19,20] qoD ⟨qiR bs a b L ok++[(18,.d (.int .i64 i)),(19,.d (.sl U (l.map (.int .i64)))),(20,.d (.int .i64 k))],[]⟩=some (.exit 6,⟨qiR bs a b L ok++[(18,.d (.int .i64 i)),(19,.d (.sl U (w.map (.int .i64)))),(20,.d (.int .i64 ((a.length+b.length:Nat):Int))),(151,.d (.bool false))],[]⟩):=by
 intro m
 induction m with
 |zero=>
  intro k l hk hll h4;have hk':k=a.length+b.length:=by omega
  subst hk';refine⟨l,hll,h4,qco (s0:=⟨qiR bs a b L ok++[(18,.d (.int .i64 i)),(19,.d (.sl U (l.map (.int .i64)))),(20,.d (.int .i64 ((a.length+b.length:Nat):Int)))],[]⟩) (by simp[qac,qaa,qiR]) ?_ (by simp)⟩;have hw:IntKind.i64.wrap ((a.length:Int)+b.length)=(a.length:Int)+b.length:=wrap_i64 (by omega) (by omega);simp[qoD,qjm,qiR,hw]
 |succ m ih=>
  intro k l hk hll h4;have hw:IntKind.i64.wrap ((a.length:Int)+b.length)=(a.length:Int)+b.length:=wrap_i64 (by omega) (by omega);have hlt:(k:Int)<(a.length:Int)+b.length:=by omega
  have hw1:=qah (n:=k) (by omega);have hw2:IntKind.i64.wrap ((i:Int)+k)=((i+k:Nat):Int):=by rw[wrap_i64 (by omega) (by omega)];omega
  obtain⟨v,hv⟩:=at_eq bs (i+k) hl (by omega);have hr:=qht v 4 (by omega);have h3:=qAl v;have ha:=qec l [v.tmod 4] U (by simp;omega);simp only[List.map_cons,List.map_nil]at ha;have hb:qaN XV (XV.lin 205) qoD ⟨qiR bs a b L ok++[(18,.d (.int .i64 i)),(19,.d (.sl U (l.map (.int .i64)))),(20,.d (.int .i64 k))],[]⟩=some (.normal,⟨qiR bs a b L ok++[(18,.d (.int .i64 i)),(19,.d (.sl U ((l++[v.tmod 4]).map (.int .i64)))),(20,.d (.int .i64 ((k+1:Nat):Int)))],[]⟩):=by
   generalize (l++[v.tmod 4]).map (DV.int .i64)=l3 at ha⊢
   generalize l.map (DV.int .i64)=l4 at ha⊢
   generalize ((i+k:Nat):Int)=ik at hw2 hv;simp[qoD,qk9,qk8,qk7,qnU,qnT,qnS,qnR,qnQ,qnP,qnO,qjs,qjr,qhi,qmw,qjp,qjo,ql6,qpP,ql4,ql5,qjq,qjn,qeG,qgc,qgb,qjm,ql2,ql3,qga,qf9,qgd,qhh,qiR,hw,hlt,hw1,hw2,hv,hr,ha,qav,List.replicate,qam]
  rw[qfE (s0:=⟨qiR bs a b L ok++[(18,.d (.int .i64 i)),(19,.d (.sl U (l.map (.int .i64)))),(20,.d (.int .i64 k))],[]⟩) (by simp[qac,qaa,qiR]) hb];exact ih (k+1) (l++[v.tmod 4]) (by omega) (by simp;omega) (fun j=>by
   rw[qxD];split
   ·exact h4 j
   ·split<;>omega)
theorem qBv(bs:List Int)(hl:bs.length<=1099511627776){a b:List Int}{L:List (List Int)}(h:BasL a b L true):
 qdl XV (XV.lin 205) 0 [0,3,4,5,6,18] qg6 ⟨qiR bs a b L true++[(18,.d (.int .i64 0))],[]⟩=some (.exit 4,⟨qiR bs a b L true++[(18,.d (.int .i64 12)),(141,.d (.bool false))],[]⟩):=by
 have hloop:=qas (X:=XV) (T:=XV.lin 205) (L:=0) (live:=[0,3,4,5,6,18]) (b:=qg6) (n:=12) (γ:=Unit) (st:=fun(_:Unit) i=>⟨qiR bs a b L true++[(18,.d (.int .i64 i))],[]⟩) (step:=fun _ _=> .inl ())
  (F:=fun _=>(.exit 4,⟨qiR bs a b L true++[(18,.d (.int .i64 12)),(141,.d (.bool false))],[]⟩)) (R:=fun _=>(.ret,⟨[],[]⟩))
  (fun _=>⟨by simp,by simp[qg6,qeG,qiR]⟩)
  (fun _ i hi=>by
   have hw:=qah (n:=i) (by omega);have hi12:(i:Int)<12:=by omega
   obtain⟨w,hwl,hw4,hlp⟩:=qGC bs hl a b L true h.la h.lb i (by omega) (a.length+b.length) 0 [] (by omega) rfl (fun j=>by simp[iAt]);have la:=h.la;have lb:=h.lb;have s1:=qdB a b w (by omega) (by omega) (by omega);have b1:=qsX L w (by have:=h.len;omega) (by omega) (fun j hj=>by rw[h.row j hj];omega);have z1:=qzg w (by omega);have hu:=h.under rfl w hwl hw4;simp only[is,qmg,List.map_nil]at s1 b1 z1 hlp;simp only[qiR,List.cons_append,List.nil_append,is]at hlp;rw[show((0:Nat):Int)=0 from rfl]at hlp;refine⟨⟨qiR bs a b L true++[(18,.d (.int .i64 ((i+1:Nat):Int)))],[]⟩,?_,by simp[qac,qaa,qiR]⟩;have hwc:(w.map (DV.int .i64)).map DV.clr=w.map (.int .i64):=by simp[List.map_map,Function.comp_def]
   generalize w.map (DV.int .i64)=wm at*
   generalize (qaw (qfV L w) L.length 0).isSome=un at*
   generalize (qaw (qu0 w) w.length 0).isNone=ze at*
   cases hs:qcK a b w with
   |false=>
    rw[hs]at s1;simp[qg6,qeG,qgc,qgb,qiR,hi12,qav,List.replicate];simp only[is];rw[hlp];simp[qga,qf9,qgd,hw,s1,hwc]
   |true=>
    rw[hs]at s1;have hu':=hu hs;cases un with
    |true=>
     simp[qg6,qeG,qgc,qgb,qiR,hi12,qav,List.replicate];simp only[is];rw[hlp];simp[qga,qf9,qgd,hw,s1,b1,hwc]
    |false=>
     cases ze with
     |false=>exact absurd (hu' rfl) (by simp)
     |true=>
      simp[qg6,qeG,qgc,qgb,qiR,hi12,qav,List.replicate];simp only[is];rw[hlp];simp[qga,qf9,qgd,hw,s1,b1,z1,hwc])
  12 () 0 ⟨qiR bs a b L true++[(18,.d (.int .i64 0))],[]⟩ (by omega) (by simp[qac,qaa,qiR])
 rw[qgx]at hloop;exact hloop
theorem qwA(bs:List Int)(hl:bs.length<=maxLen):∃B,qau XV 205 [.d (.sl .sub (bs.map (.int .u8)))] []=some (.d (.bool true),B):=by
 rw[qax XV _ _ _ qz5 rfl qtI rfl];have hbig:=qEc bs
 by_cases h1:1048576<bs.length
 ·simp only[h1,decide_true]at hbig
  simp[qz5,qk9,qk8,qk7,hbig]
 have hls:bs.length<=1099511627776:=by omega
 simp only[h1,decide_false]at hbig;obtain⟨a,b,la,lb,d1⟩:=qoo bs hls;obtain⟨c,d,x,lc,ld,lx,d2⟩:=qmp bs hls;obtain⟨y,z,g,ly,lz,d3⟩:=qon bs hls;obtain⟨ps,n,lp,hps,hn,d4⟩:=qst bs hls;have b1:=qob a b (by omega) (by omega);have b2:=qhE a b (by omega) (by omega);have s1:=qdB c d x (by omega) (by omega) (by omega);have s2:=qlS c d x (by omega) (by omega) (by omega);obtain⟨lt,l1,l2⟩:=qsa y z (by omega) (by omega);have hpl:∀i,i<ps.length->(rAt ps i).length<=1099511627776:=fun i hi=>by have:=hps _ (qdi hi);omega
 have m1:=qsi ps n (by omega) hpl;have m2:=qrO ps n (by omega);have hsl:(qqg ps n).length<=4398046511104:=by
  have:=qxe ps n;omega
 have m3:=qgw (qqg ps n) hsl;obtain⟨L,ok,hL,e1,e2⟩:∃(L:List (List Int)) (ok:Bool),BasL a b L ok/\
  qau XV 207 [.d (is a),.d (is b)] []=some (.d (.tup [.sl U (L.map (ints U)),.bool ok]),[])/\qau XV 208 [.d (is a),.d (is b)] []=some (.d (.tup [.sl U (L.map (ints .sub)),.bool ok]),[]):=by
  by_cases hc:qbD a=true/\qbD b=true/\(qar a b).length<=60
  ·rw[if_pos hc]at b1 b2
   have hm:∀i,i<(qar a b).length->rAt (qar a b) i∈qar a b:=fun i hi=>qdi hi
   exact⟨qar a b,true,⟨la,lb,hc.2.2,fun i hi=>qgl a b _ _ (qg4 (hm i hi)).1,fun i hi=>qpr (qg4 (hm i hi)).1,fun i k hi hk=>qpW (hm k hk) (hm i hi),
    fun _ w h1 h2 h3 h4=>qpV hc.1 hc.2.1 h1 h2 h3 h4,fun h=>by simp at h⟩,b1,b2⟩
  ·rw[if_neg hc]at b1 b2
   exact⟨[],false,⟨la,lb,by simp,fun i hi=>by simp at hi,fun i hi=>by simp at hi,fun i k hi=>by simp at hi,fun h=>by simp at h,fun _=>rfl⟩,b1,b2⟩
 clear b1 b2;have ho:=qBw hL (.sl .sub (bs.map (.int .u8)));have ht:ok=true->_:=fun h=>qBv bs hls (by rw[h]at hL;exact hL)
 have hnil:=hL.nil;have q1:(L.map (ints U)).map DV.clr=L.map (ints .sub):=by simp[List.map_map,Function.comp_def]
 have q2:(L.map (ints .sub)).map DV.clr=L.map (ints .sub):=by simp[List.map_map,Function.comp_def]
 have q3:(ps.map (ints U)).map DV.clr=ps.map (ints .sub):=by simp[List.map_map,Function.comp_def]
 have q4:(ps.map (ints .sub)).map DV.clr=ps.map (ints .sub):=by simp[List.map_map,Function.comp_def]
 have qi:∀l:List Int,(l.map (DV.int .i64)).map DV.clr=l.map (.int .i64):=fun l=>by simp[List.map_map,Function.comp_def]
 simp only[is,qko,List.cons_append,List.nil_append,qmg,iss]at*
 refine⟨[],?_⟩;have hlm:(L.map (ints .sub)).length=L.length:=by simp
 have e0:qdl XV [19,144,154,161,162] 0 [0,3,4,5,6,18] qg6 ⟨[(0,.d (.sl .sub (bs.map (.int .u8)))),(3,.d (.sl .sub (a.map (.int .i64)))),(4,.d (.sl .sub (b.map (.int .i64)))),(5,.d (.sl .sub (L.map (ints .sub)))),(6,.d (.bool false)),(18,.d (.int .i64 0))],[]⟩=
  some (.exit 4,⟨[(0,.d (.sl .sub (bs.map (.int .u8)))),(3,.d (.sl .sub (a.map (.int .i64)))),(4,.d (.sl .sub (b.map (.int .i64)))),(5,.d (.sl .sub (L.map (ints .sub)))),(6,.d (.bool false)),(18,.d (.int .i64 0)),(141,.d (.bool false))],[]⟩):=
  qco (s0:=⟨[(0,.d (.sl .sub (bs.map (.int .u8)))),(3,.d (.sl .sub (a.map (.int .i64)))),(4,.d (.sl .sub (b.map (.int .i64)))),(5,.d (.sl .sub (L.map (ints .sub)))),(6,.d (.bool false)),(18,.d (.int .i64 0))],[]⟩) (by simp[qac,qaa]) (by simp[qg6,qeG]) (by simp)
 have e3:ok=false->L.length=0:=fun h=>by rw[hnil h];rfl
 simp only[qiR,List.cons_append,List.nil_append,is,iss,qmg]at ht;simp only[ints]at m1 m2 q3 q4;generalize hLm:L.map (ints .sub)=Lm at*
 generalize L.map (ints U)=LU at*
 generalize ham:a.map (DV.int .i64)=am at*
 generalize hbm:b.map (DV.int .i64)=bm at*
 generalize hcm:c.map (DV.int .i64)=cm at*
 generalize hdm:d.map (DV.int .i64)=dm at*
 generalize hxm:x.map (DV.int .i64)=xm at*
 generalize hym:y.map (DV.int .i64)=ym at*
 generalize hzm:z.map (DV.int .i64)=zm at*
 have qc:cm.map DV.clr=cm:=by rw[<-hcm];exact qi c
 have qd:dm.map DV.clr=dm:=by rw[<-hdm];exact qi d
 have qx:xm.map DV.clr=xm:=by rw[<-hxm];exact qi x
 have qy:ym.map DV.clr=ym:=by rw[<-hym];exact qi y
 have qz:zm.map DV.clr=zm:=by rw[<-hzm];exact qi z
 have qa:am.map DV.clr=am:=by rw[<-ham];exact qi a
 have qb:bm.map DV.clr=bm:=by rw[<-hbm];exact qi b
 simp[qz5,qk9,qk8,qk7,qnU,qnT,qnS,qnR,qnQ,qnP,qnO,qjs,qjr,hbig,d1,d2,d3,d4,e1,e2,s1,s2,l1,l2,m1,m2,m3,q1,q2,q3,q4,qa,qb,qc,qd,qx,qy,qz,hlm];rw[ho];simp[qjn];cases ok with
 |false=>
  rw[e0];have:=e3 rfl;simp[qhh,hlm,this]
 |true=>
  rw[ht rfl];simp[qhh]
end Go.Proofs.Ytpcoohnjllclnaa.VS
namespace Go.Proofs.Ytpcoohnjllclnaa.VS
mutual
def TT.erase:TT->T
 | .node f v g ks=> .node f v (TT.erases ks)
def TT.erases:List TT->List T
 | []=>[]
 |t::r=>t.erase::TT.erases r
end
mutual
theorem TT.qcR:∀t:TT,DV.clrs t.cells=[.int .i64 t.erase.f,.int .i64 t.erase.v,qdO .sub t.erase.kids]
 | .node f v g ks=>by
  simp only[TT.cells,DV.clrs,DV.clr,TT.erase,T.qzf,T.qze,T.qj2,qdO];rw[TT.qeS ks]
theorem TT.qeS:∀l:List TT,DV.clrs (TT.encs l)=(TT.erases l).map (T.enc .sub)
 | []=>by simp[TT.encs,DV.clrs,TT.erases]
 |t::r=>by
  simp only[TT.encs,DV.clrs,DV.clr,TT.erases,List.map_cons];rw[TT.qcR t,TT.qeS r,T.qiu]
end
theorem TT.qgp(t:TT):t.enc.clr=t.erase.enc .sub:=by
 simp only[TT.enc,DV.clr];rw[TT.qcR,T.qiu]
theorem qr2(hX:XOK XV){k:Nat}{vs:List DV}(h:∃B,qau XV k ((DV.clrs vs).map .d) []=some (.d (.bool true),B)):∃A B,qsR E [] k (vs.map .d) [] Ids.none=some ⟨.d (.bool true),A,B⟩:=by
 obtain⟨B,h⟩:=h;obtain⟨u,A,Bv,h1,h2⟩:=qxy hX (DV.qcq vs) (DV.qcp vs) (d:= .bool true) (by simp[DV.clr]) h;simp only[DV.fit]at h2;subst h2
 exact⟨A,Bv,h1⟩
theorem qGD{P:Program}{a:TypeId}:∀{xs:List (List DV)},qBT P [a] xs->∃x,xs=[x]
 | [x],_=>⟨x,rfl⟩
 | [],h=>h.elim
 |_::_::_,h=>h.2.elim
end Go.Proofs.Ytpcoohnjllclnaa.VS
namespace Go.Proofs.Ytpcoohnjllclnaa.VS
structure L where
 p:Bool
 a:T
 b:T
def L.enc(g:Tag)(x:L):DV:= .agg [.bool x.p,.int .i64 x.a.f,.int .i64 x.a.v,qdO g x.a.kids,.int .i64 x.b.f,.int .i64 x.b.v,qdO g x.b.kids]
def L.ok(x:L):Prop:=x.a.ok/\x.b.ok
@[simp] theorem L.qoM(g:Tag)(x:L):(x.enc g).cells=[.bool x.p,.int .i64 x.a.f,.int .i64 x.a.v,qdO g x.a.kids,.int .i64 x.b.f,.int .i64 x.b.v,qdO g x.b.kids]:=rfl
@[simp] theorem L.qlJ(g:Tag)(x:L):(AV.d (x.enc g)).cells=[.d (.bool x.p),.d (.int .i64 x.a.f),.d (.int .i64 x.a.v),.d (qdO g x.a.kids),.d (.int .i64 x.b.f),.d (.int .i64 x.b.v),.d (qdO g x.b.kids)]:=rfl
@[simp] theorem L.qlI(g:Tag)(x:L):(x.enc g).isCell=false:=rfl
@[simp] theorem L.qgp(g:Tag)(x:L):(x.enc g).clr=x.enc .sub:=by
 simp only[L.enc,DV.clr,DV.clrs,qdO,DV.qaz,qor]
theorem L.agg_enc(g:Tag)(x:L):DV.agg [.bool x.p,.int .i64 x.a.f,.int .i64 x.a.v,qdO g x.a.kids,.int .i64 x.b.f,.int .i64 x.b.v,qdO g x.b.kids]=x.enc g:=rfl
def L.cmp(x y:L):Int:=if !x.p&&y.p then-1 else if x.p&& !y.p then 1 else if T.cmp x.a y.a≠0 then T.cmp x.a y.a else T.cmp x.b y.b
def L.same(x y:L):Bool:=x.p==y.p&&(T.cmp x.a y.a==0)&&(T.cmp x.b y.b==0)
end Go.Proofs.Ytpcoohnjllclnaa.VS
namespace Go.Proofs.Ytpcoohnjllclnaa.VS
variable {P:Program}
structure LL where
 p:Bool
 a:TT
 b:TT
def LL.cells(x:LL):List DV:= .bool x.p::(x.a.cells++x.b.cells)
def LL.enc(x:LL):DV:= .agg x.cells
def LL.ok(x:LL):Prop:=x.a.ok/\x.b.ok
def LL.erase(x:LL):L:=⟨x.p,x.a.erase,x.b.erase⟩
theorem LL.qgp(x:LL):x.enc.clr=x.erase.enc .sub:=by
 have ha:=TT.qcR x.a;have hb:=TT.qcR x.b;rw[DV.qaz]at ha hb;simp only[LL.enc,LL.cells,DV.clr,DV.qaz,List.map_cons,List.map_append,ha,hb,LL.erase,L.enc];rfl
theorem qm2{α:Type}(c:α->List DV)(ok:α->Prop){t e:TypeId}{x:List DV}(hu:P.underlying t=some (.slice e))(hE:∀y:List DV,Shape P e y->∃s:α,y=c s/\ok s)(h:Shape P t x):
 ∃(g:Tag) (l:List α),x=[.sl g (l.map fun s=>qbE P e (c s))]/\l.length<=maxLen/\∀s,s∈l->ok s:=by
 obtain⟨g,xs,rfl,q1,q2,q3,q4⟩:=qpc hu h;have key:∀xs:List DV,(∀y:DV,y∈xs->y=qbE P e y.cells)->(∀y:DV,y∈xs->Shape P e y.cells)->∃l:List α,xs=(l.map fun s=>qbE P e (c s))/\∀s,s∈l->ok s:=by
  intro xs
  induction xs with
  |nil=>intro _ _;exact⟨[],rfl,by simp⟩
  |cons y r ih=>
   intro p1 p2;obtain⟨l,rfl,hl⟩:=ih (fun z hz=>p1 z (by simp[hz])) (fun z hz=>p2 z (by simp[hz]));obtain⟨s,hs,hok⟩:=hE _ (p2 y (by simp));refine⟨s::l,?_,by simpa[hok]using hl⟩;have:=p1 y (by simp);rw[hs]at this;rw[List.map_cons,<-this]
 obtain⟨l,rfl,hl⟩:=key xs q3 q4;exact⟨g,l,rfl,by simpa using q1,hl⟩
structure BB where
 v:Int
 t:TT
def BB.cells(x:BB):List DV:= .int .i64 x.v::x.t.cells
def BB.enc(x:BB):DV:= .agg x.cells
def BB.ok(x:BB):Prop:=(-9223372036854775808<=x.v/\x.v<=9223372036854775807)/\x.t.ok
def BB.erase(x:BB):Bd:=⟨x.v,x.t.erase⟩
theorem BB.qgp(x:BB):x.enc.clr=x.erase.enc .sub:=by
 have ha:=TT.qcR x.t;rw[DV.qaz]at ha;simp only[BB.enc,BB.cells,DV.clr,DV.qaz,List.map_cons,ha,BB.erase,Bd.enc]
def qot(g:Tag)(l:List Int):DV:= .sl g (l.map (.int .u8))
theorem qsF(g:Tag)(l:List Int):(qot g l).clr= .sl .sub (l.map (.int .u8)):=by
 simp only[qot,qza,List.map_map,Function.comp_def,qpT]
theorem qpd{t e:TypeId}{x:List DV}(hu:P.underlying t=some (.slice e))(he:P.underlying e=some (.int .u8))(h:Shape P t x):∃g l,x=[qot g l]/\l.length<=maxLen:=by
 obtain⟨g,l,rfl,h1,_⟩:=qm2 (fun n:Int=>[DV.int .u8 n]) (fun _=>True) hu (fun y hy=>by
  obtain⟨n,rfl,_⟩:=quf he hy;exact⟨n,rfl,trivial⟩) h
 exact⟨g,l,by simp[qot,qbE,he],h1⟩
end Go.Proofs.Ytpcoohnjllclnaa.VS
