/- Contracts of the program's functions on the evaluator without names, and plain lemmas: part 6. -/
import Derived.Test.YtpcoohnjllclnaaGreatXP5
set_option linter.unusedSimpArgs false
set_option linter.unusedVariables false
namespace Go.Proofs.YtpcoohnjllclnaaGreat.VS
variable{S:US}{u:aF}{t:T}{v next:Int}{k:Nat}
section
variable {s:aC} {G:Nat->bg->aF->Int->Prop}
def Gi(s:aC)(G:Nat->bg->aF->Int->Prop)(k n:Nat):Prop:=
 ∀(l:bg) (u:aF) (next:Int) (S:US) (Q:az),Q[k]?=some (some (uB s S))->G n l u next->S.Ok->(S.over=true\/402<=n+S.work)->
  ak XV 263 [.ptr k 0,.d (be l),.d (binds .sub u),aa next] Q=some (.d (.tup []),Q.set k (some (uB s (S.run (cH s n l u next)))))
theorem M1(j:SgOk s){n:Nat}(r:Gi s G k n){rest:bg}(q:S.Ok)(w:S.over=false)(C:402<=n+S.work)(o:t.inner<=1099511627776)
 (z:¬0<cnt t v->SubFit s u v t/\(eA s (bB s u v t)=true->G n rest (bB s u v t) next)) (R:az) (c:R[k]?=some (some (uB s S))):
 ak XV 267 [.ptr k 0,aa v,.d (t.enc .sub),.d (be rest),.d (binds .sub u),aa next] R=some (.d (.tup []),R.set k (some (uB s (S.run (n0 (cH s n) s v t rest u next))))):=by
 unfold n0
 by_cases hc:0<cnt t v
 ·rw[ay hc,US.qhY,j4 c]
  exact qOO v next t rest u k R (q_len c) o hc
 ·rw[aD hc]
  obtain⟨m,p⟩:=z hc;cases i:eA s (bB s u v t)with
  |false=>
   have h:S.run [.bad]=S.bad:=by show S.ev .bad=_;unfold US.ev;rw[w];rfl
   simp only[bh,if_false];rw[h];exact YP v next t rest u k S R j c m hc i
  |true=>
   simp only[if_true];refine TA v next t rest u k S R _ j c m hc i (by simp) fun e=> ?_
   rw[r rest _ next S (R++e) (dr c e) (p i) q (.inr C),gq c]
theorem US.q3a(h:S.Ok)(d:S.over=false)(c:S.work+1<=400):S.st.Ok:=⟨h.t,h.l,fun _=>⟨(h.o d).1,c⟩⟩
theorem NQ(O:SgOk s)(F:Safe s G):∀n,Gi s G k n
 |0=>fun l u next S Q r C hO hn=>by
  have ho:S.over=true:=by
   rcases hn with h|h
   ·exact h
   ·cases c:S.over with
    |true=>rfl
    |false=>have:=(hO.o c).2;omega
  rw[US.qeG S ho,j4 r];exact OB u next k S Q l r ho
 |n+1=>fun l u next S Q r C hO hn=>by
  have ih:Gi s G k n:=NQ O F n;cases c:S.over with
  |true=>rw[US.qeG S c,j4 r];exact OB u next k S Q l r c
  |false=>
   have hn:402<=n+1+S.work:=by rcases hn with h|h;(·rw[c]at h;cases h);exact h
   obtain⟨h60,h400⟩:=hO.o c;obtain⟨z,I,hul,h2,x1⟩:=F.len C
   match l,C,z with
   | [],C,z=>show _=some (AV.d (.tup []),Q.set k (some (uB s (S.ev (.found u)))));exact Yi u next k S Q r c h60 hO.t I
   |⟨a,b⟩::rest,C,z=>
    have hrl:rest.length<=10000000:=by simp only[cY]at z;omega
    have D:S.ev .step={S with work:=S.work+1,over:=decide (400<S.work+1)}:=by unfold US.ev;rw[c];rfl
    by_cases h3:S.work+1<=400
    case neg=>
     have:S.run (cH s (n+1) (⟨a,b⟩::rest) u next)={S with work:=S.work+1,over:=true}:=by
      simp only[cH];rw[US.qgI,D];have:decide (400<S.work+1)=true:=by simp;omega
      rw[this];exact US.qeG _ rfl _
     rw[this];exact Qb u next k S Q _ (by simp) r c (by omega) (by omega)
    case pos=>
     have hst:S.ev .step=S.st:=by
      rw[D];have:decide (400<S.work+1)=false:=by simp;omega
      rw[this,<-c];rfl
     have x3:S.run (cH s (n+1) (⟨a,b⟩::rest) u next)=S.st.run (sA (cH s n) s (aT s u a) (aT s u b) rest u next):=by simp only[cH];rw[US.qgI,hst]
     rw[x3];obtain⟨a1,a2,a3⟩:=F.a C;obtain⟨b1,b2,b3⟩:=F.b C;have hE:Eqs s u S Q k a b (aT s u a) (aT s u b):=⟨r,c,h3,EM s O.len u a I.1 I.2 a1 a2,EM s O.len u b I.1 I.2 b1 b2,by omega,by omega⟩;have M:=US.q3a hO c h3;have h1:S.st.over=false:=c;have Z:402<=n+S.st.work:=by show 402<=n+(S.work+1);omega
     have hk:=q_len r;have hR:∀e,(Q.set k (some (uB s S.st))++e)[k]?=some (some (uB s S.st)):=fun e=>jq hk _ e
     have x2:∀l' u' next' e,G n l' u' next'->ak XV 263 [.ptr k 0,.d (be l'),.d (binds .sub u'),aa next'] (Q.set k (some (uB s S.st))++e)=some (.d (.tup []),Q.set k (some (uB s (S.st.run (cH s n l' u' next'))))++e):=fun l' u' next' e V=>by rw[ih l' u' next' S.st _ (hR e) V M (.inr Z),jv hk]
     unfold sA
     by_cases hc:(T.cmp (aT s u a) (aT s u b)==0)=true
     ·rw[ay hc]
      exact qBf hE rest next _ (by omega) hc (by simp) fun e=>x2 _ _ _ e (F.same C)
     ·rw[aD hc]
      have hc:(T.cmp (aT s u a) (aT s u b)==0)=false:=by simpa using hc
      by_cases H:(aT s u a).f= -1
      ·rw[ay H]
       refine WI hE rest next _ (by omega) hc H (by simp) fun e=> ?_
       rw[M1 O ih M h1 Z (by omega) (fun h=>F.bindx C H h) _ (hR e),jv hk]
      ·rw[aD H]
       by_cases J:(aT s u b).f= -1
       ·rw[ay J]
        refine S6 hE rest next _ (by omega) hc H J (by simp) fun e=> ?_
        rw[M1 O ih M h1 Z (by omega) (fun h=>F.bindy C H J h) _ (hR e),jv hk]
       ·rw[aD J]
        by_cases P:(aT s u a).f=(aT s u b).f
        case neg=>rw[ay P,US.qhY];exact PF hE rest next (by omega) O hc H J (.inl P)
        case pos=>
         rw[aD (fun h=>h P)];have c2:∀t:T,t.inner<=1000000000->t.kids.length<=1000000000/\∀q,q∈t.kids->q.inner<=1000000000:=fun t ht=>by obtain⟨f,v,ks⟩:=t;rw[T.qa0]at ht;exact⟨by have:=gA ks;simp only[T.qav];omega,fun q r=>by have:=eH (show q∈ks from r);omega⟩
         have h5:=c2 _ a3;have hxb:=c2 _ b3
         by_cases p:bn s (aT s u a).f=true
         ·rw[ay p]
          refine qvN hE rest next _ (by omega) O hc H P p (by simp) fun e=> ?_
          have h4:=fun all ways m=>F.choose (rest:=rest) (next:=next) all ways m C P p
          generalize hX:aT s u a=x at*
          generalize hY:aT s u b=y at*
          obtain⟨xf,xv,xk⟩:=x;obtain⟨yf,yv,yk⟩:=y;simp only[T.qaO,T.qav]at*
          subst P;rw[RI xf xv yv next xk yk rest u k S.st _ (cH s n) O (hR e) h1 ⟨h2,x1⟩ (by omega) (by omega) (by omega) (fun q r=>by have:=h5.2 q r;omega) (fun q r=>by have:=hxb.2 q r;omega) (fun all ways m S' Q' c1 R K hf hrr ho' hq' h99=>by
           have V:=h4 all ways m c1 R K hf h99;obtain⟨i,hS'⟩:=hrr;have hsm':∀w,UEv.found w∈(List.range i).flatMap (eK (cH s n) s xf all ways rest u next)->small w:=fun w hw=>by
            obtain⟨j,_,hj⟩:=tX.1 hw;unfold eK at hj;split at hj
            ·rename_i hfj
             split at hj
             ·simp at hj
             ·rename_i hj99
              exact O3 F n _ _ _ (h4 all ways j c1 R K hfj (by omega)) w hj
            ·simp at hj
           have hO':S'.Ok:=by rw[hS'];exact US.Ok.run M hsm'
           have hw':402<=n+S'.work:=by have:=(US.qnN ((List.range i).flatMap (eK (cH s n) s xf all ways rest u next)) S.st).1;rw[<-hS']at this;omega
           exact ih _ _ _ S' Q' hq' V hO' (.inr hw')),jv hk]
         ·rw[aD p]
          have p:bn s (aT s u a).f=false:=by simpa using p
          exact qvM hE rest next _ (by omega) O hc H P p (F.arity C H P p) h5.1 (by simp) fun e=>x2 _ _ _ e (F.pairs C H P p)
end
mutual
def T.nodes:T->ah
 | .node f v ks=> .node f v ks::T.nodess ks
def T.nodess:ah->ah
 | []=>[]
 |t::r=>t.nodes++T.nodess r
end
mutual
theorem IQ{σ:Type}(e:T->σ->σ):∀(t:T) (s:σ),T.fold e t s=t.nodes.foldl (fun s x=>e x s) s
 | .node f v ks,s=>by simp only[T.fold,T.nodes,jI];exact Mu e ks _
theorem Mu{σ:Type}(e:T->σ->σ):∀(l:ah) (s:σ),T.folds e l s=(T.nodess l).foldl (fun s x=>e x s) s
 | [],s=>by simp[T.folds,T.nodess]
 |t::r,s=>by simp only[T.folds,T.nodess,wG];rw[IQ e t s];exact Mu e r _
end
mutual
theorem vo(w:T->Int):∀t:T,T.sum w t=(t.nodes.map w).sum
 | .node f v ks=>by simp only[T.sum,T.nodes,bF,mQ,LI w ks]
theorem LI(w:T->Int):∀l:ah,T.sums w l=((T.nodess l).map w).sum
 | []=>by simp[T.sums,T.nodess]
 |t::r=>by simp only[T.sums,T.nodess,cM,List.sum_append,vo w t,LI w r]
end
theorem Se(l:ax)(n x:Int):x∈cv l n↔x=n\/x∈l:=by
 unfold cv;split
 ·rename_i h
  rw[FQ]at h;constructor
  ·exact fun hx=> .inr hx
  ·rintro(rfl|hx)
   ·exact h
   ·exact hx
 ·have e:l=l.take (j6 l n)++l.drop (j6 l n):=(dK _ _).symm
  constructor
  ·intro hx
   simp only[bu,cC]at hx;rcases hx with hx|hx|hx
   ·exact .inr (pI hx)
   ·exact .inl hx
   ·exact .inr (Jt hx)
  ·intro hx
   simp only[bu,cC];rcases hx with hx|hx
   ·exact .inr (.inl hx)
   ·rw[e]at hx
    rcases bu.1 hx with h|h
    ·exact .inl h
    ·exact .inr (.inr h)
theorem Ki:∀(l:ah) (s:ax) (n:Int),n∈l.foldl (fun s x=>eV x s) s↔n∈s\/∃x,x∈l/\x.f= -1/\x.v=n
 | [],s,n=>by simp
 |x::l,s,n=>by
  rw[jI,Ki l];unfold eV
  by_cases h:x.f= -1
  ·rw[ay h,Se]
   constructor
   ·rintro((rfl|c)|⟨y,c,d⟩)
    ·exact .inr ⟨x,by simp,h,rfl⟩
    ·exact .inl c
    ·exact .inr ⟨y,by simp[c],d⟩
   ·rintro(c|⟨y,c,d,e⟩)
    ·exact .inl (.inr c)
    ·rcases cC.1 c with rfl|c
     ·exact .inl (.inl e.symm)
     ·exact .inr ⟨y,c,d,e⟩
  ·rw[aD h]
   constructor
   ·rintro(c|⟨y,c,d⟩)
    ·exact .inl c
    ·exact .inr ⟨y,by simp[c],d⟩
   ·rintro(c|⟨y,c,d,e⟩)
    ·exact .inl c
    ·rcases cC.1 c with rfl|c
     ·exact absurd d h
     ·exact .inr ⟨y,c,d,e⟩
theorem qEG(t:T)(n:Int):n∈dk t↔∃x,x∈t.nodes/\x.f= -1/\x.v=n:=by unfold dk;rw[IQ,Ki];simp
theorem OR{l:ah}{w w':T->Int}(h:∀x,x∈l->w x<=w' x):(l.map w).sum<=(l.map w').sum:=by
 induction l with
 |nil=>simp
 |cons x l c=>
  simp only[bF,mQ];have:=h x (by simp);have:=c fun y hy=>h y (by simp[hy])
  omega
theorem KQ(n:Int)(x:T):0<=wC n x:=by unfold wC;split<;>omega
theorem Gr{α:Type}:∀l:List α,(l.map fun _=>(0:Int)).sum=0
 | []=>rfl
 |a::l=>by simp only[bF,mQ,Gr l];omega
theorem JX{l:ah}{w:T->Int}(h:∀x,x∈l->0<=w x):0<=(l.map w).sum:=by have:=OR (l:=l) (w:=fun _=>0) (w':=w) h;have e:=Gr l;omega
theorem qKc(t:T)(l:ax)(d:l.Pairwise (·<·)):(l.map fun n=>T.sum (wC n) t).sum<=T.sum (fun _=>1) t:=by
 have e:∀l:ax,(l.map fun n=>T.sum (wC n) t).sum=(t.nodes.map fun x=>(l.map fun n=>wC n x).sum).sum:=by
  intro l
  induction l with
  |nil=>simp only[bS,List.sum_nil];exact(Gr _).symm
  |cons n l c=>
   have h:∀N:ah,(N.map (wC n)).sum+(N.map fun x=>(l.map fun n=>wC n x).sum).sum=(N.map fun x=>wC n x+(l.map fun n=>wC n x).sum).sum:=by
    intro N
    induction N with
    |nil=>rfl
    |cons a N c=>simp only[bF,mQ];omega
   simp only[bF,mQ,c];rw[<-h,vo]
 rw[e,vo];refine OR fun x _=> ?_
 have i:∀l:ax,x.v∉l->(l.map fun n=>wC n x).sum=0:=by
  intro l
  induction l with
  |nil=>intro _;rfl
  |cons n l c=>intro hx;simp only[cC,not_or]at hx;simp only[bF,mQ,c hx.2];unfold wC;rw[aD (fun h=>hx.1 h.2)];omega
 induction l with
 |nil=>simp
 |cons n l c=>
  rw[ni]at d;simp only[bF,mQ]
  by_cases m:x.v=n
  ·have j:x.v∉l:=fun o=>by have:=d.1 _ o;omega
   rw[i l j];unfold wC;split<;>omega
  ·have:=c d.2
   have p:wC n x=0:=by unfold wC;rw[aD (fun h=>m h.2)]
   omega
mutual
def T.nf(s:aC):T->Prop
 | .node f v ks=>T.nfs s ks/\(bn s f=true->(∀k,k∈ks->k.f≠f)/\b4 ks)
def T.nfs(s:aC):ah->Prop
 | []=>True
 |t::r=>t.nf s/\T.nfs s r
end
theorem T.qnP(s:aC):∀l:ah,T.nfs s l↔∀t,t∈l->t.nf s
 | []=>by simp[T.nfs]
 |t::r=>by simp[T.nfs,T.qnP s r]
theorem HX(s:aC)(f:Int)(l:ah)(t:T):t∈flatK s f l↔∃k,k∈l/\t∈dw s f k:=by unfold flatK;simp
theorem IH(s:aC)(f:Int):∀l:ah,(∀k,k∈l->k.f≠f)->flatK s f l=l
 | [],_=>rfl
 |k::l,h=>by
  rw[kN,IH s f l (fun x hx=>h x (by simp[hx]))];have c:(k.f==f)=false:=by simpa using h k (by simp)
  simp[dw,c]
mutual
theorem Nq(s:aC):∀t:T,(t.norm s).nf s
 | .node f v ks=>by
  have n:=MR s ks;rw[T.qnP]at n;simp only[T.norm,T.nf]
  by_cases j:bn s f=true
  ·simp only[j,if_true]
   have p:∀e,e∈flatK s f (T.norms s ks)->e.nf s/\e.f≠f:=fun e d=>by
    obtain⟨k,q,c⟩:=(HX s f _ e).1 d;have m:=n k q;unfold dw at c
    by_cases i:k.f=f
    ·have:(bn s f&&k.f==f)=true:=by simp[j,i]
     rw[ay this]at c;obtain⟨r,v',o⟩:=k;simp only[T.qaO]at i;subst i;simp only[T.nf,T.qav]at m c;exact⟨(T.qnP s o).1 m.1 e c,(m.2 j).1 e c⟩
    ·have:(bn s f&&k.f==f)=false:=by simp[i]
     rw[this]at c;simp at c;subst c
     exact⟨m,i⟩
   refine⟨?_,fun _=>⟨fun e d=>(p e ((lA _).mem_iff.1 d)).2,G2 _⟩⟩;rw[T.qnP];exact fun e d=>(p e ((lA _).mem_iff.1 d)).1
  ·simp only[j,bh,if_false]
   refine⟨?_,fun h=>absurd h id⟩;rw[T.qnP,nt s f j];exact n
theorem MR(s:aC):∀l:ah,T.nfs s (T.norms s l)
 | []=>by simp[T.norms,T.nfs]
 |t::r=>by simp only[T.norms,T.nfs];exact⟨Nq s t,MR s r⟩
end
mutual
theorem EV(s:aC):∀t:T,t.nf s->t.norm s=t
 | .node f v ks,h=>by
  simp only[T.nf]at h;simp only[T.norm,KE s ks h.1]
  by_cases c:bn s f=true
  ·obtain⟨d,e⟩:=h.2 c
   simp only[c,if_true];rw[IH s f ks d,<-Ix (j5 ks) e]
  ·simp only[c,bh,if_false]
   rw[nt s f c]
theorem KE(s:aC):∀l:ah,T.nfs s l->T.norms s l=l
 | [],_=>by simp[T.norms]
 |t::r,h=>by simp only[T.norms];rw[EV s t h.1,KE s r h.2]
end
theorem qIz(s:aC)(t:T):(t.norm s).norm s=t.norm s:=EV s _ (Nq s t)
theorem NB:∀l:ah,(∀i,0<i->i<l.length->¬T.cmp (ai l i) (ai l (i-1))<0)->b4 l
 | [],_=>yG
 | [a],_=>sC _ _
 |a::b::r,h=>by
  have m:=NB (b::r) (fun i d hi=>by
   have:=h (i+1) (by omega) (by simpa using hi);have e:∀j,ai (a::b::r) (j+1)=ai (b::r) j:=fun j=>by simp[ai]
   rw[e i,show i+1-1=(i-1)+1 by omega,e (i-1)]at this;exact this)
  have d:=h 1 (by omega) (by simp);simp only[ai,EY,nY,t_,m_]at d;have c:cZ a b:=sO d;refine ni.2 ⟨fun y hy=> ?_,m⟩;rcases cC.1 hy with rfl|hy
  ·exact c
  ·exact vu c ((ni.1 m).1 y hy)
variable{f:Int}
theorem K6{l:aC}(h:bn l f=true):(aX l f.toNat).ac=true:=by unfold bn at h;simp only[cb]at h;exact h.2
theorem pR(q:Nat->Bool)(n:Nat)(h:(aR q n 0).isNone=true):∀i,i<n->q i=false:=fun i hi=>by have:=(yI q n 0).2 (by simpa using h) i (by omega) (by omega);exact this
mutual
theorem LG(l:aC):∀t:T,T.form l t=true->t.nf l
 | .node f v ks,h=>by
  simp only[T.form]at h;simp only[T.nf]
  by_cases m:f= -1
  ·rw[ay m]at h
   have e:ks=[]:=by simp only[cb,cA]at h;exact j_ h.2
   subst e;exact⟨trivial,fun _=>⟨fun k e=>by simp at e,yG⟩⟩
  ·rw[aD m]at h
   split at h
   ·simp at h
   ·have o:=pR _ _ h
    have d:∀i,i<ks.length->T.form l (ai ks i)=true/\dc l f ks i=false:=fun i hi=>by have:=o i hi;rw[T.qr4 l ks i hi]at this;simpa using this
    refine⟨Mf l ks (fun i hi=>(d i hi).1),fun j=>⟨fun k e=> ?_,NB ks fun i p hi=> ?_⟩⟩
    ·obtain⟨i,hi,rfl⟩:=mo e
     have c:=(d i hi).2;rw[a5 hi];unfold dc at c;rw[ay (K6 j)]at c;intro n;rw[ay n]at c;simp at c
    ·have c:=(d i hi).2
     unfold dc at c;rw[ay (K6 j)]at c;split at c
     ·simp at c
     ·rw[aD (by omega)]at c
      simpa using c
theorem Mf(l:aC):∀ks:ah,(∀i,i<ks.length->T.form l (ai ks i)=true)->T.nfs l ks
 | [],_=>trivial
 |t::r,h=>⟨LG l t (by have:=h 0 (by simp);simpa[ai]using this),Mf l r fun i hi=>by have:=h (i+1) (by simpa using hi);simpa[ai]using this⟩
end
theorem Xi(l:aC)(t:T)(h:cu l t=true):t.norm l=t:=by unfold cu at h;simp only[cb]at h;exact EV l t (LG l t h.2.2)
variable{a:ah}
theorem qBV(s:aC)(f:Int){b:ah}(h:a.Perm b):(flatK s f a).Perm (flatK s f b):=by
 induction h with
 |nil=>exact .refl _
 |cons x _ c=>rw[kN,kN];exact c.append_left _
 |swap x y l=>rw[kN,kN,kN,kN,<-bW,<-bW];exact xz.append_right _
 |trans _ _ d e=>exact d.trans e
theorem N3{b:ah}(h:a.Perm b):dE a=dE b:=Ix ((lA a).trans h) (G2 a)
variable{s:aC}
theorem Vq(h:bn s f=true):dx s f=true:=by unfold bn at h;simp only[cb]at h;exact h.1
def Gl.good(s:aC)(g:Gl):Prop:=bK g.ts<=1000/\(∀x,x∈g.ts->NT x=false/\T.form s x=true)/\(∀x,x∈g.ps->T.form s x=true)/\(g.many=true->g.ts.length<=12/\bn s g.f=true/\(∀x,x∈g.ts->x.f≠g.f)/\∀x,x∈g.ps->x.f≠g.f)/\(g.many=false->∃p t,g.ps=[p]/\g.ts=[t])
structure Inv(s:aC)(gl:List Gl)(u:aF):Prop where
 g:∀g,g∈gl->g.good s
 b:∀b,b∈u->b.t.inner<=1000/\b.t.nf s
 m:u.length+Tv gl<=1000000
theorem Inv.small{gl:List Gl}(h:Inv s gl u):small u:=⟨by have:=h.m;omega,fun i hi=>by have:=(h.b _ (ia hi)).1;omega⟩
theorem FP{ks:ah}(h:T.form s (.node f v ks)=true)(c:f≠-1):jo s f v ks.length=false/\∀k,k∈ks->T.form s k=true:=by
 cases hb:jo s f v ks.length with
 |true=>simp[T.form,c,hb]at h
 |false=>
  refine⟨rfl,fun k d=> ?_⟩;rw[I9 s f v ks c hb]at h;obtain⟨i,hi,rfl⟩:=mo d;rw[a5 hi];cases hq:T.form s (ai ks i)with
  |true=>rfl
  |false=>have:=(ZY (fun i=> !T.form s (ai ks i)||dc s f ks i) ks.length 0).2 ⟨i,c7 _,by omega,by simp[hq]⟩;rw[NZ]at h;rw[h]at this;cases this
structure MS.good(S:MS):Prop where
 o:S.over=decide (20000<S.steps)
 n:S.steps<=20001
 l:S.ways.length<=61
 w:∀w,w∈S.ways->small w
theorem MS.good.ev{S:MS}(h:S.good)(e:Option aF)(j:∀w,e=some w->small w):(S.ev e).good:=by
 have d:=S.q3c e h.l;unfold MS.ev at d⊢
 split
 ·exact h
 ·rename_i i
  rw[aD i]at d;cases e with
  |none=>
   refine⟨rfl,?_,h.l,h.w⟩;have m:=h.o;unfold MS.done at i;simp only[iV,cA,not_or]at i;have r:¬20000<S.steps:=fun p=>i.1 (by rw[m];simpa using p)
   simp only;omega
  |some u=>
   simp only at d⊢
   split
   ·exact h
   ·rename_i q
    rw[aD q]at d;refine⟨h.o,h.n,d,fun w c=> ?_⟩;simp only[bu,fF]at c;rcases c with c|c
    ·exact h.w w c
    ·exact j w (by rw[c])
theorem MS.good.run:∀(es:List (Option aF)) {S:MS},S.good->(∀w,some w∈es->small w)->(S.run es).good
 | [],S,h,_=>h
 |e::es,S,h,d=>MS.good.run es (S:=S.ev e) (h.ev e fun w c=>d w (by rw[c];exact jL ..)) fun w c=>d w (jg _ c)
mutual
theorem NX(s:aC):∀t:T,T.form s t=true->∀x,x∈t.nodes->x.f= -1->0<=x.v/\x.v<=99
 | .node f v ks,h=>fun x hx c=>by
  simp only[T.nodes,cC]at hx
  by_cases e:f= -1
  ·have d:=h
   simp only[T.form]at d;rw[ay e]at d;simp only[cb,cA]at d;have j:ks=[]:=j_ d.2;subst j;simp only[T.nodess,List.not_mem_nil,or_false]at hx;subst hx;have:=d.1;unfold b0 at this;simpa using this
  ·rcases hx with rfl|hx
   ·exact absurd c e
   ·exact Oe s ks (fun q i=>(FP h e).2 q i) x hx c
theorem Oe(s:aC):∀ks:ah,(∀q,q∈ks->T.form s q=true)->∀x,x∈T.nodess ks->x.f= -1->0<=x.v/\x.v<=99
 | [],_=>fun x hx=>by simp[T.nodess]at hx
 |t::r,h=>fun x hx c=>by
  simp only[T.nodess,bu]at hx;rcases hx with hx|hx
  ·exact NX s t (h t (by simp)) x hx c
  ·exact Oe s r (fun q d=>h q (by simp[d])) x hx c
end
theorem tK(h:cu s t=true){n:Int}(c:n∈dk t):0<=n/\n<=99:=by obtain⟨x,hx,d,rfl⟩:=(qEG t n).1 c;unfold cu at h;simp only[cb]at h;exact NX s t h.2.2 x hx d
theorem GE(h:cu s t=true):(dk t).length<=61:=by
 unfold cu at h;simp only[cb,cA]at h;have:=AB (I:=fun n (l:ax)=>l.length+n<=61) (e:=eV) (fun n l x c=>by have:=IU l x.v;simp only[eV];split<;>omega) t 0 [] (by simp;omega)
 exact this
def cz(n v:Int):Int:=if n<v+1 then v+1 else n
def jR(s:aC)(e:Eqn):Bool:=cu s e.a&&cu s e.b
def lQ(n:Int)(e:Eqn):Int:=(dk e.a++dk e.b).foldl cz n
def lG(e:Eqn):aH:=[aa e.a.f,aa e.a.v,.d (ao .sub e.a.kids),aa e.b.f,aa e.b.v,.d (ao .sub e.b.kids)]
theorem Ik{n:Int}(c:0<=n/\n<=100)(d:0<=v/\v<=99):0<=cz n v/\cz n v<=100:=by unfold cz;split<;>omega
theorem y5:∀(vs:ax) (n:Int),(0<=n/\n<=100)->(∀v,v∈vs->0<=v/\v<=99)->0<=vs.foldl cz n/\vs.foldl cz n<=100
 | [],n,h,_=>h
 |v::r,n,h,c=>y5 r _ (Ik h (c v (by simp))) fun w d=>c w (by simp[d])
section
variable (s:aC) (l:bg)
def uO(n:Int)(i:Nat):aI:=[(0,.d (sg s)),(1,.d (be l)),(6,aa n),(12,.d (be l)),(13,aa l.length),(14,aa i)]
theorem We(i:Nat)(n:Int)(vs:ax)(e:Eqn)(C:∀v,v∈vs->0<=v/\v<=99)(z:0<=n/\n<=100)(F:vs.length<=1000000):
 bo XV (XV.lin 262) 1 [0,1,6,12,13,14,37,38,39] rh ⟨uO s l n i++[(37,.d (is vs)),(38,aa vs.length),(39,aa 0)],[some (lG e)]⟩=
  some (.exit 2,⟨uO s l (vs.foldl cz n) i++[(37,.d (is vs)),(38,aa vs.length),(39,aa vs.length),(40,au false)],[some (lG e)]⟩):=by
 have h:=dS (X:=XV) (T:=XV.lin 262) (L:=1) (live:=[0,1,6,12,13,14,37,38,39]) (b:=rh) (n:=vs.length) (γ:=Unit) (R:=fun _=>(.ret,⟨[],[]⟩)) (step:=fun a j=> .inl (cz a ((vs[j]?).getD 0)))
  (st:=fun(a:Int) j=>⟨uO s l a i++[(37,.d (is vs)),(38,aa vs.length),(39,aa j)],[some (lG e)]⟩) 2 40 (fun a _=>0<=a/\a<=100) n
  (fun a _=>by simp[rh,hZ,iB,iA,ii,hN,iM,iK,je,iq,iF,iv,iC,ir,il,im,iN,iR,iH,uO])
  (fun a j o r=>by
   have q:=aV (n:=j) (by omega);have w:(vs[j]?).getD 0=vs[j]:=by simp[o]
   have p:=C _ (gY o);rw[w];have D:=Ik r p;generalize hx:vs[j]=x at*
   have m:IntKind.i64.wrap (x+1)=x+1:=wrap_i64 (by omega) (by omega);refine⟨⟨⟨uO s l (cz a x) i++[(37,.d (is vs)),(38,aa vs.length),(39,aa (j+1:Nat))],[some (lG e)]⟩,?_,by simp[uO,aA,aB]⟩,fun a' h=>by cases h;exact D⟩;unfold cz
   by_cases c:a<x+1
   ·simp[rh,hZ,iB,iA,ii,hN,iM,iK,je,iq,iF,iv,iC,ir,il,im,iN,iR,iH,uO,o,q,m,hx,c,cut,splice]
   ·simp[rh,hZ,iB,iA,ii,hN,iM,iK,je,iq,iF,iv,iC,ir,il,im,iN,iR,iH,uO,o,q,m,hx,c,cut,splice])
  z (by simp[uO,aA,aB])
 rw[B_ vs 0 cz vs.length 0 n (by omega)]at h;simpa[uO]using h
def qS(n:Int)(i:Nat):Int⊕XS:=if jR s (lZ l i)then .inl (lQ n (lZ l i))else .inr ⟨[(4,.d (.sl U [])),(5,aa 1)],[some (lG (lZ l i))]⟩
theorem Jf:∀(k i:Nat) (n:Int),i+k=l.length->((l.drop i).all (jR s)=true->runN (qS s l) k n i= .inl ((l.drop i).foldl lQ n))/\((l.drop i).all (jR s)=false->∃e,runN (qS s l) k n i= .inr ⟨[(4,.d (.sl U [])),(5,aa 1)],[some (lG e)]⟩)
 |0,i,n,h=>by rw[pu (by omega)];exact⟨fun _=>rfl,fun h=>by cases h⟩
 |k+1,i,n,h=>by
  have j:i<l.length:=by omega
  have m:lZ l i=l[i]:=by unfold lZ;simp[j]
  rw[dV j];obtain⟨o,p⟩:=Jf k (i+1) (lQ n l[i]) (by omega);simp only[fW,jI,runN,qS,m];cases c:jR s l[i]with
  |true=>simp only[eF,if_true];exact⟨o,p⟩
  |false=>exact⟨fun h=>by simp at h,fun _=>⟨l[i],by simp⟩⟩
def fR:Bool:=l.all (jR s)
def fg:Int:=l.foldl lQ 0
def rX:US:=(⟨[],0,false⟩:US).run (cH s 402 l [] (fg l))
def q_:List aF×Int:=if fR s l=true then(if(rX s l).over=true then([],2)else((rX s l).told,0))else([],1)
theorem qVg{l:bg}{i:Nat}(h:i<l.length):∀h',l[i]'h'=lZ l i:=fun h'=>by unfold lZ;simp[h]
theorem qsr(z:SgOk s)(hl:l.length<=1000000)(J:∀e,e∈l->e.a.inner<=1099511627776/\e.b.inner<=1099511627776):
 bo XV (XV.lin 262) 0 [0,1,6,12,13,14] oM ⟨uO s l 0 0,[]⟩=some (match runN (qS s l) l.length 0 0 with| .inl n=>(.exit 0,⟨uO s l n l.length++[(15,au false)],[]⟩)| .inr x=>(.ret,x)):=by
 have h:=dS (X:=XV) (T:=XV.lin 262) (L:=0) (live:=[0,1,6,12,13,14]) (b:=oM) (n:=l.length) (γ:=XS) (R:=fun x=>(.ret,x)) (step:=qS s l)
  (st:=fun(a:Int) i=>⟨uO s l a i,[]⟩) 0 15 (fun a _=>0<=a/\a<=100) 0
  (fun a _=>by simp[oM,hZ,iB,iA,ii,hN,iM,iK,je,iq,iF,iv,iC,ir,il,im,iN,iR,iH,uO])
  (fun a i hi H=>by
   have M:=aV (n:=i) (by omega);have K:lZ l i∈l:=by unfold lZ;simp[hi]
   obtain⟨I,F⟩:=J _ K;have q:=E0 s z.len z.nam _ I;have C:=E0 s z.len z.nam _ F;have v1:=IR _ I;have v2:=IR _ F;have D:=qVg hi;unfold qS jR;generalize lZ l i=e at*
   obtain⟨⟨p,av,c⟩,⟨o,bv,d⟩⟩:=e;simp only at*
   cases c1:cu s (.node p av c)with
   |false=>simp only[qh,bh,if_false];rw[c1]at q;exact⟨⟨by simp,by simp[oM,hZ,iB,iA,ii,hN,iM,iK,je,iq,iF,iv,iC,ir,il,im,iN,iR,iH,uO,hi,D,q,lG,cut,splice]⟩,fun a' h=>by cases h⟩
   |true=>
    cases c2:cu s (.node o bv d)with
    |false=>simp only[eF,bh,if_false];rw[c1]at q;rw[c2]at C;exact⟨⟨by simp,by simp[oM,hZ,iB,iA,ii,hN,iM,iK,je,iq,iF,iv,iC,ir,il,im,iN,iR,iH,uO,hi,D,q,C,lG,cut,splice]⟩,fun a' h=>by cases h⟩
    |true=>
     rw[c1]at q;rw[c2]at C;have Z:=GE c1;have V:=GE c2;have j:∀v,v∈dk (.node p av c)++dk (.node o bv d)->0<=v/\v<=99:=fun v j=>by
      rcases bu.1 j with j|j
      ·exact tK c1 j
      ·exact tK c2 j
     have P:=y5 _ a H j;have r:=Or .sub .sub .sub (dk (.node p av c)) (dk (.node o bv d)) [] (by omega);have w:=We s l i a (dk (.node p av c)++dk (.node o bv d)) ⟨.node p av c,.node o bv d⟩ j H (by simp;omega);simp only[eF,if_true,lQ];refine⟨⟨⟨uO s l ((dk (.node p av c)++dk (.node o bv d)).foldl cz a) (i+1),[some (lG ⟨.node p av c,.node o bv d⟩)]⟩,?_,by simp[uO,aA,aB]⟩,fun a' h=>by cases h;exact P⟩;generalize dk (.node p av c)=va at*
     generalize dk (.node o bv d)=vb at*
     simp only[Fx,uO,lG,c_,cp,T.qaO,T.qbx,T.qav]at w r⊢
     generalize O:va++vb=vs at*
     generalize vs.foldl cz a=m at*
     simp[oM,hZ,iB,iA,ii,hN,iM,iK,je,iq,iF,iv,iC,ir,il,im,iN,iR,iH,hi,D,q,C,v1,v2,r,cut,splice];rw[w];simp[oM,hZ,iB,iA,ii,hN,iM,iK,je,iq,iF,iv,iC,ir,il,im,iN,iR,iH,M])
  ⟨by omega,by omega⟩ (by simp[uO,aA,aB])
 rw[h];cases runN (qS s l) l.length 0 0<;>rfl
theorem qA4{G:Nat->bg->aF->Int->Prop}(m:SgOk s)(z:l.length<=1000000)(w:∀e,e∈l->e.a.inner<=1099511627776/\e.b.inner<=1099511627776)(D:Safe s G)(p:fR s l=true->G 402 l [] (fg l)):
 ak XV 262 [.d (sg s),.d (be l)] []=some (.d (.tup [dI (q_ s l).1,.int .i64 (q_ s l).2]),[]):=by
 rw[aL 262 oL rfl];have h:=qsr s l m z w;obtain⟨j,i⟩:=Jf s l l.length 0 0 (by omega);rw[eM]at j i;unfold q_ fR;cases c:l.all (jR s)with
 |false=>obtain⟨e,o⟩:=i c;rw[o]at h;simp only[Fx,uO,be,dy]at h;simp[oL,hZ,iB,iA,ii,hN,iM,iK,je,iq,iF,iv,iC,ir,il,im,iN,iR,iH,splice];rw[h];simp[oL,hZ,iB,iA,ii,hN,iM,iK,je,iq,iF,iv,iC,ir,il,im,iN,iR,iH]
 |true=>
  rw[j c]at h;have q:=p c;have hx:=NQ (k:=0) m D 402 l [] (fg l) ⟨[],0,false⟩ [some (uB s ⟨[],0,false⟩)] rfl q ⟨nofun,c7 _,fun _=>⟨c7 _,c7 _⟩⟩ (.inr (by show 402<=402+0;omega));have C:(US.run ⟨[],0,false⟩ (cH s 402 l [] (fg l)))=rX s l:=rfl;have r:l.foldl lQ 0=fg l:=rfl;rw[C]at hx;rw[r]at h;generalize rX s l=S at*
  generalize fg l=n at*
  obtain⟨told,work,over⟩:=S;simp only[uB,dI,bS,binds]at hx⊢
  simp only[Fx,uO,be,dy,c_,cp]at h hx;simp[oL,hZ,iB,iA,ii,hN,iM,iK,je,iq,iF,iv,iC,ir,il,im,iN,iR,iH,splice];rw[h];cases over with
  |true=>simp[oL,hZ,iB,iA,ii,hN,iM,iK,je,iq,iF,iv,iC,ir,il,im,iN,iR,iH,hx,splice]
  |false=>simp[oL,hZ,iB,iA,ii,hN,iM,iK,je,iq,iF,iv,iC,ir,il,im,iN,iR,iH,hx,splice]
end
def ye(a:(ah×ah)×Tag)(t:T):(ah×ah)×Tag:=(eB a.1 t,match aR (dJ a.1.2 t) a.1.2.length 0 with|some _=>U|none=>a.2)
theorem FF:∀(l:ah) (a:ah×ah) (g:Tag),(l.foldl ye (a,g)).1=l.foldl eB a
 | [],_,_=>rfl
 |t::l,a,g=>FF l _ _
theorem Q0(x y:ah)(hx:x.length<=1099511627776)(hy:y.length<=1099511627776)(bx:∀t,t∈x->t.inner<=1099511627776)(w:∀t,t∈y->t.inner<=1099511627776):
 ∃g,ak XV 254 [.d (ao .sub x),.d (ao .sub y)] []=some (.d (.tup [.sl U ((bV x y).1.map (T.enc .sub)),.sl g ((bV x y).2.map (T.enc .sub))]),[]):=by
 refine⟨(x.foldl ye (([],y),.sub)).2,?_⟩;rw[aL 254 vE rfl];have h:=dS (X:=XV) (T:=XV.lin 254) (L:=0) (live:=[0,6,7,8]) (b:=wZ) (n:=x.length) (γ:=Unit) (R:=fun _=>(.ret,⟨[],[]⟩)) (step:=fun a i=> .inl (ye a (ai x i)))
  (st:=fun a i=>⟨[(0,.d (ao .sub x)),(6,.d (.sl U (a.1.1.map (T.enc .sub)))),(7,.d (.sl a.2 (a.1.2.map (T.enc .sub)))),(8,aa i)],[]⟩) 0 15
  (fun a i=>a.1.1.length<=i/\a.1.2.length<=1099511627776/\∀t,t∈a.1.2->t.inner<=1099511627776) (([],y),.sub)
  (fun a _=>by simp[wZ,r8,to,sX,rE,tJ,sL,sY,rm,sq,sJ,rH])
  (fun a i hi c=>by
   obtain⟨K,m,p⟩:=c;have z:=aV (n:=i) (by omega);have H:=bx _ (bL hi);have e:=a5 hi;have hc:=J9 a.1.2 (ai x i) m p H;have C:=CW a.1.1 (ai x i) (by omega);generalize ai x i=t at*
   obtain⟨I,D,J⟩:=t;obtain⟨⟨M,q⟩,g⟩:=a;simp only[ye,eB]at*
   cases hf:aR (dJ q (.node I D J)) q.length 0 with
   |some j=>
    rw[hf]at hc;obtain⟨_,O,_⟩:=dA _ _ _ _ hf;have r:=Ty q j (by omega) m;have o:¬((j:Int)<0):=by omega
    refine⟨⟨_,by simp[wZ,r8,to,sX,rE,tJ,sL,sY,rm,sq,sJ,rH,hi,z,cut,e,hc,r,bC,o,splice];rfl,by simp[aA,aB]⟩,fun a' h=> ?_⟩;simp only[ka]at h;subst h;exact⟨by simp only;omega,eo Dh m,fun t F=>p t (Cv F)⟩
   |none=>rw[hf]at hc;refine⟨⟨_,by simp[wZ,r8,to,sX,rE,tJ,sL,sY,rm,sq,sJ,rH,hi,z,cut,e,hc,C,bC,splice];rfl,by simp[aA,aB]⟩,fun a' h=> ?_⟩;simp only[ka]at h;subst h;exact⟨by simp;omega,m,p⟩)
  ⟨by simp,hy,w⟩ (by simp[aA,aB])
 rw[vZ x ye]at h;simp only[Ye,bS,dy,eM,FF]at h;simp[vE,r8,to,sX,rE,tJ,sL,sY,rm,sq,sJ,rH];rw[h];simp[vE,r8,to,sX,rE,tJ,sL,sY,rm,sq,sJ,rH,bV,FF]
theorem Lm(x:ah)(hx:x.length<=1099511627776)(bx:∀t,t∈x->t.inner<=1099511627776):
 ak XV 255 [.d (ao .sub x)] []=some (.d (.tup [.sl U ((bw x).1.map (T.enc .sub)),ints U (bw x).2]),[]):=by
 rw[Lc XV _ _ _ rN rfl Ws rfl (m:=0) (by kernel_rfl) rfl];have h:=dS (X:=XV) (T:=XV.lin 255) (L:=0) (live:=[0,4,5,6]) (b:=w7) (n:=x.length) (γ:=Unit) (R:=fun _=>(.ret,⟨[],[]⟩)) (step:=fun a i=> .inl (cntF a (ai x i)))
  (st:=fun a i=>⟨[(0,.d (ao .sub x)),(4,.d (.sl U (a.1.map (T.enc .sub)))),(5,.d (.sl U (a.2.map (.int .i64)))),(6,aa i)],[]⟩) 0 13
  (fun a i=>a.1.length<=i/\a.2.length=a.1.length/\(∀t,t∈a.1->t.inner<=1099511627776)/\∀j,0<=aE a.2 j/\aE a.2 j<=i) ([],[])
  (fun a _=>by simp[w7,uM,uF,tF,tw,sn,sP,sr,uK,sd,sk,so,uG])
  (fun a i hi e=>by
   obtain⟨i1,V,J,C⟩:=e;have O:=aV (n:=i) (by omega);have M:=bx _ (bL hi);have c:=a5 hi;have K:=CW a.1 (ai x i) (by omega);have o:=Mj a.2 1 (by omega);have hc:=J9 a.1 (ai x i) (by omega) J M;obtain⟨I,w⟩:=a;simp only[cntF]at*
   generalize ai x i=t at*
   obtain⟨tf,Z,tk⟩:=t;cases hf:aR (dJ I (.node tf Z tk)) I.length 0 with
   |some j=>
    rw[hf]at hc;obtain⟨_,hj,_⟩:=dA _ _ _ _ hf;have p:j<w.length:=by omega
    have z:¬((j:Int)<0):=by omega
    have H:=bP p;have h1:=C j;have D:IntKind.i64.wrap (aE w j+1)=aE w j+1:=wrap_i64 (by omega) (by omega);have P:=vz w;have F:=uw P .sub I;refine⟨⟨_,by simp[w7,uM,uF,tF,tw,sn,sP,sr,uK,sd,sk,so,uG,Om,p9,hi,O,cut,c,hc,bC,splice,z,p,H,D,P,F];rfl,by simp[aA,aB]⟩,fun a' h=> ?_⟩;simp only[ka]at h;subst h;refine⟨by simp only;omega,by simp only[rW];exact V,J,fun m=> ?_⟩;have:=C m;simp only[IF];split<;>omega
   |none=>
    rw[hf]at hc;refine⟨⟨_,by simp[w7,uM,uF,tF,tw,sn,sP,sr,uK,sd,sk,so,uG,hi,O,cut,c,hc,bC,K,o,splice];rfl,by simp[aA,aB]⟩,fun a' h=> ?_⟩;simp only[ka]at h;subst h;refine⟨by simp;omega,by simp;exact V,fun q r=> ?_,fun m=> ?_⟩
    ·rcases bu.1 r with r|r
     ·exact J q r
     ·rw[fF.1 r];exact M
    ·have:=C m
     simp only[J0];split<;>(try split)<;>omega)
  ⟨by simp,rfl,by simp,by simp[aE]⟩ (by simp[aA,aB])
 rw[vZ]at h;simp only[SZ,bS,dy]at h;simp[rN,uM,uF,tF,tw,sn,sP,sr,uK,sd,sk,so,uG];rw[h];simp[rN,uM,uF,tF,tw,sn,sP,sr,uK,sd,sk,so,uG,bw]
theorem qw2(ways:List ax)(m:Nat)(H:ways.length<=30)(I:m<1099511627776):
 ak XV 256 [.d (aG .sub ways),aa m] []=some (.d (.sl U ((bc ways m ways.length).map (ints .sub))),[]):=by
 rw[aL 256 wc rfl];have h:=dS (X:=XV) (T:=XV.lin 256) (L:=0) (live:=[0,1,5,6]) (b:=xW) (n:=ways.length) (γ:=Unit) (R:=fun _=>(.ret,⟨[],[]⟩)) (step:=fun _ _=> .inl ())
  (st:=fun(_:Unit) i=>⟨[(0,.d (aG .sub ways)),(1,aa m),(5,.d (.sl U ((bc ways m i).map (ints .sub)))),(6,aa i)],[]⟩) 0 11 (fun _ _=>True) ()
  (fun _ _=>by simp[xW,rA,ri,tH,sI,sK,sy,rz,ux])
  (fun _ i hi _=>by
   have p:=aV (n:=i) (by omega);have F:=xO ways m i;have D:=Ng (bc ways m i) (aP ways i) (by omega);have j:=Nc m i (by omega);have C:m/2^i<4611686018427387904:=Nat.lt_of_le_of_lt (Nat.div_le_self _ _) (by omega);have e:=and_one (m/2^i) C;have c:=MY m i;generalize m/2^i=q at j e c;generalize q%2=r at e c;have o:=cP hi;have z:bc ways m (i+1)=if m.testBit i then bc ways m i++[aP ways i]else bc ways m i:=rfl
   generalize aP ways i=row at*
   refine⟨?_,fun _ _=>trivial⟩
   by_cases w:m.testBit i=true
   ·rw[ay w]at z
    refine⟨⟨[(0,.d (aG .sub ways)),(1,aa m),(5,.d (.sl U ((bc ways m (i+1)).map (ints .sub)))),(6,aa (i+1:Nat))],[]⟩,?_,by simp[aA,aB]⟩;rw[z];generalize (bc ways m i++[row]).map (ints .sub)=L2 at*
    generalize (bc ways m i).map (ints .sub)=L1 at*
    simp only[N6]at D;simp[xW,rA,ri,tH,sI,sK,sy,rz,ux,hi,p,cut,o,D,j,e,c,w,splice]
   ·rw[aD w]at z
    refine⟨⟨[(0,.d (aG .sub ways)),(1,aa m),(5,.d (.sl U ((bc ways m (i+1)).map (ints .sub)))),(6,aa (i+1:Nat))],[]⟩,?_,by simp[aA,aB]⟩;rw[z];simp[xW,rA,ri,tH,sI,sK,sy,rz,ux,hi,p,cut,o,j,e,c,w,splice])
  trivial (by simp[aA,aB,bc])
 rw[dv]at h;simp only[qUu,bc,bS,dy]at h;simp[wc,rA,ri,tH,sI,sK,sy,rz,ux];rw[h];simp[wc,rA,ri,tH,sI,sK,sy,rz,ux]
theorem U2(all:ah)(ps:List ax)(F:1<=all.length/\all.length<=1000)(I:ps.length<=1000):
 ak XV 257 [.d (ao .sub all),.d (aG .sub ps)] []=some (au (oX all (dL ps all.length)),[]):=by
 rw[aL 257 wa rfl];have p:=TS ps all.length (by omega);have H:=OH ps all.length F;unfold oX;generalize dL ps all.length=sum at*
 have h:=dS (X:=XV) (T:=XV.lin 257) (L:=0) (live:=[0,5,6]) (b:=qP) (n:=all.length) (γ:=Nat) (R:=fun _=>(.ret,⟨[(4,au false)],[]⟩)) (step:=bG (mc all sum))
  (st:=fun(_:Unit) i=>⟨[(0,.d (ao .sub all)),(5,.d (is sum)),(6,aa i)],[]⟩) 0 14 (fun _ _=>True) ()
  (fun _ _=>by simp[qP,oj,oI,oo,pK,oT,og,ob,oU])
  (fun _ i hi _=>by
   have D:=aV (n:=i) (by omega);have c:i<sum.length:=by omega
   refine⟨?_,fun _ _=>trivial⟩;have r:=bP c;have o:=a5 hi;unfold bG;have C:mc all sum i=(decide (aE sum i<1)||(decide (1<aE sum i)&& !((ai all i).f== -1))):=rfl;generalize mc all sum i=m at C;generalize aE sum i=z at*
   generalize ai all i=t at*
   obtain⟨f,v,ks⟩:=t;simp only[T.qaO]at C;subst C
   by_cases e:z<1
   ·simp only[e,decide_true,HV,if_true]
    exact⟨by simp,by simp[qP,oj,oI,oo,pK,oT,og,ob,oU,hi,c,cut,r,e]⟩
   ·by_cases q:f= -1
    ·subst q
     simp only[e,decide_false,BEq.rfl,lB,x_,mf,bh,if_false];exact⟨_,by simp[qP,oj,oI,oo,pK,oT,og,ob,oU,hi,c,D,cut,r,o,e];rfl,by simp[aA,aB]⟩
    ·have j:(f== -1)=false:=dR q
     have q:(f != -1)=true:=by simp[bne,j]
     by_cases w:1<z
     ·simp only[e,w,j,decide_false,decide_true,kF,t5,Bool.false_or,if_true]
      exact⟨by simp,by simp[qP,oj,oI,oo,pK,oT,og,ob,oU,hi,c,cut,r,o,e,w,q]⟩
     ·simp only[e,w,j,decide_false,qh,mf,bh,if_false]
      exact⟨_,by simp[qP,oj,oI,oo,pK,oT,og,ob,oU,hi,c,D,cut,r,o,e,w,q];rfl,by simp[aA,aB]⟩)
  trivial (by simp[aA,aB])
 rw[cT]at h;simp only[qUt,dy]at h;rw[H];simp[wa,oj,oI,oo,pK,oT,og,ob,oU,p];rw[h];cases aR (mc all sum) all.length 0<;>simp[wa,oj,oI,oo,pK,oT,og,ob,oU]
def rK(all:ah)(M:Nat->T)(G:Nat->Tag)(X:Nat->aw)(p:Nat):DV:= .agg [.int .i64 (ai all p).f,.int .i64 (ai all p).v,ao .sub (ai all p).kids,.int .i64 (M p).f,.int .i64 (M p).v,.sl (G p) (X p)]
theorem Ss(xs:aw)(x:DV)(h:xs.length<=1099511627776)(d:∀y,y∈xs->y.cells.length=6)(hx:x.cells.length=6)(hc:x.cells.all DV.isCell=true):bU 6 80 (.sl U xs) (.sl U [x])=some (.sl U (xs++[x])):=by
 have c:xs.all (fun e=>decide (e.cells.length=6))=true:=by rw[cm];intro y hy;simpa using d y hy
 unfold bU;simp only;rw[ay (by simp[hx];simpa using hc)];simp only[gN,bh,if_false];rw[ay ⟨by simp;omega,trivial,c⟩]
def eS(all:ah)(M:Nat->T)(G:Nat->Tag)(X:Nat->aw):Nat->aw
 |0=>[]
 |p+1=>eS all M G X p++[rK all M G X p]
theorem Ep(all:ah)(M:Nat->T)(G:Nat->Tag)(X:Nat->aw):∀n,(eS all M G X n).length=n
 |0=>rfl
 |n+1=>by simp[eS,Ep all M G X n]
theorem EG(all:ah)(M:Nat->T)(G:Nat->Tag)(X:Nat->aw):∀n y,y∈eS all M G X n->y.cells.length=6
 |0,y,h=>by simp[eS]at h
 |n+1,y,h=>by
  rcases bu.1 h with h|h
  ·exact EG all M G X n y h
  ·rw[fF.1 h];rfl
section
variable (s:aC) (f next:Int) (all:ah) (ch:List ax) (k:Nat)
def vO(A:DV)(p:Nat):aI:=[(0,.ptr k 0),(1,aa f),(2,.d (ao .sub all)),(3,.d (aG .sub ch)),(4,aa next),(11,.d A),(12,aa p)]
theorem qVO(a:ah)(n:Int)(h:a.length<=1099511627776):bU 3 40 (.sl U (a.map (T.enc U))) (.sl U [(T.node (-1) n []).enc U])=some (.sl U ((a++[T.node (-1) n []]).map (T.enc U))):=by
 have c:(a.map (T.enc U)).all (fun e=>decide (e.cells.length=3))=true:=by
  rw[cm];intro y hy
  obtain⟨z,_,rfl⟩:=cE.1 hy;simp
 unfold bU;simp only;rw[ay (by rw[T.qb5];rfl)];simp only[gN,bh,if_false];rw[ay ⟨by simp;omega,trivial,c⟩];simp
theorem TI(A:DV)(p i c:Nat)(K:ah)(Q:az)(C:k<Q.length)(q:WaysOk ch all.length)(V:p<all.length)(hi:i<ch.length)(P:0<=next/\next<=1000)(hc:aE (aP ch i) p=c)(Z:K.length<=1000000):
 bo XV (XV.lin 258) Q.length [0,1,2,3,4,11,12,13,14,15] wz ⟨vO f next all ch k A p++[(13,.d (.sl U (K.map (T.enc U)))),(14,aa i),(15,aa 0)],Q⟩=
  some (.exit 4,⟨vO f next all ch k A p++[(13,.d (.sl U ((K++List.replicate c (T.node (-1) (next+i) [])).map (T.enc U)))),(14,aa i),(15,aa c),(38,au false)],Q⟩):=by
 have hl:=q.len;have z:=q.row i hi;obtain⟨H,I⟩:=q.num i p;have e:p<(aP ch i).length:=by omega
 have w:=bP e;have D:=cP hi;rw[hc]at w H I;have o:IntKind.i64.wrap (next+(i:Int))=next+i:=wrap_i64 (by omega) (by omega);have M:=N5 (next+i);generalize O:aP ch i=row at*
 have h:=dS (X:=XV) (T:=XV.lin 258) (L:=Q.length) (live:=[0,1,2,3,4,11,12,13,14,15]) (b:=wz) (n:=c) (γ:=Unit) (R:=fun _=>(.ret,⟨[],[]⟩)) (step:=fun _ _=> .inl ())
  (st:=fun(_:Unit) j=>⟨vO f next all ch k A p++[(13,.d (.sl U ((K++List.replicate j (T.node (-1) (next+i) [])).map (T.enc U)))),(14,aa i),(15,aa j)],Q⟩) 4 38 (fun _ _=>True) ()
  (fun _ _=>by simp[wz,lr,lm,kS,k9,kX,kP,kj,j2,kp,j7,kn,kI,lF,kO,kz,vO,hi,e,D,w,cut,splice])
  (fun _ j hj _=>by
   have r:=aV (n:=j) (by omega);have F:=qVO (K++List.replicate j (.node (-1) (next+i) [])) (next+i) (by simp;omega);have J:K++List.replicate (j+1) (T.node (-1) (next+i) [])=K++List.replicate j (.node (-1) (next+i) [])++[.node (-1) (next+i) []]:=by rw[List.replicate_succ',bW]
   refine⟨⟨⟨vO f next all ch k A p++[(13,.d (.sl U ((K++List.replicate (j+1) (T.node (-1) (next+i) [])).map (T.enc U)))),(14,aa i),(15,aa (j+1:Nat))],Q⟩,?_,by simp[vO,aA,aB,C]⟩,fun _ _=>trivial⟩;rw[J];generalize (K++List.replicate j (T.node (-1) (next+i) []))=K1 at*
   have m:(j:Int)<c:=by omega
   generalize (K1++[T.node (-1) (next+i) []]).map (T.enc U)=L2 at*
   generalize K1.map (T.enc U)=L1 at*
   simp[wz,lr,lm,kS,k9,kX,kP,kj,j2,kp,j7,kn,kI,lF,kO,kz,vO,hi,e,D,w,r,o,M,F,m,cut,splice])
  trivial (by simp[vO,aA,aB,C])
 rw[dv]at h;simpa[vO]using h
theorem Yg(A:DV)(p:Nat)(Q:az)(e:k<Q.length)(c:WaysOk ch all.length)(r:p<all.length)(o:0<=next/\next<=1000):
 bo XV (XV.lin 258) Q.length [0,1,2,3,4,11,12,13,14] sZ ⟨vO f next all ch k A p++[(13,.d (.sl U [])),(14,aa 0)],Q⟩=
  some (.exit 2,⟨vO f next all ch k A p++[(13,.d (ao U (bX ch next p ch.length))),(14,aa ch.length),(27,au false)],Q⟩):=by
 have C:=c.len;have h:=dS (X:=XV) (T:=XV.lin 258) (L:=Q.length) (live:=[0,1,2,3,4,11,12,13,14]) (b:=sZ) (n:=ch.length) (γ:=Unit) (R:=fun _=>(.ret,⟨[],[]⟩)) (step:=fun _ _=> .inl ())
  (st:=fun(_:Unit) i=>⟨vO f next all ch k A p++[(13,.d (ao U (bX ch next p i))),(14,aa i)],Q⟩) 2 27 (fun _ _=>True) ()
  (fun _ _=>by simp[sZ,lr,lm,kS,k9,kX,kP,kj,j2,kp,j7,kn,kI,lF,kO,kz,vO])
  (fun _ i hi _=>by
   have j:=aV (n:=i) (by omega);obtain⟨D,F⟩:=c.num i p;have w:=wu c next p i;have z:=gA (bX ch next p i);have m:=TI f next all ch k A p i (aE (aP ch i) p).toNat (bX ch next p i) Q e c r hi o (by omega) (by omega);have q:bX ch next p (i+1)=bX ch next p i++List.replicate (aE (aP ch i) p).toNat (.node (-1) (next+i) []):=rfl;refine⟨⟨⟨vO f next all ch k A p++[(13,.d (ao U (bX ch next p (i+1)))),(14,aa (i+1:Nat))],Q⟩,?_,by simp[vO,aA,aB,e]⟩,fun _ _=>trivial⟩;rw[q];generalize (bX ch next p i++List.replicate (aE (aP ch i) p).toNat (.node (-1) (next+i) []))=K2 at*
   generalize bX ch next p i=K1 at*
   simp only[Ec,vO,c_,cp]at m;simp[sZ,lr,lm,kS,k9,kX,kP,kj,j2,kp,j7,kn,kI,lF,kO,kz,vO,hi,splice];rw[m];simp[sZ,lr,lm,kS,k9,kX,kP,kj,j2,kp,j7,kn,kI,lF,kO,kz,j])
  trivial (by simp[vO,aA,aB,e,bX])
 rw[dv]at h;exact h
theorem qN9(Q:az)(tl:aH)(K:Q[k]?=some (some (.d (sg s)::tl)))(hs:s.length<=1099511627776)(w:WaysOk ch all.length)(Z:0<=next/\next<=1000)(hl:all.length<=1000):
 ∃R,ak XV 258 [.ptr k 0,aa f,.d (ao .sub all),.d (aG .sub ch),aa next] Q=some (.d (.sl U R),Q)/\R.map DV.clr=(db s f all ch next all.length).map (Eqn.enc .sub .sub)/\R.length=all.length/\∀y,y∈R->y.cells.length=6:=by
 have j:=q_len K;have nk:¬(Q.length<=k):=by omega
 have e:∀p,∃g X,ak XV 193 [.d (sg s),aa f,.d (ao .sub (bX ch next p ch.length))] []=some (.d (.agg [.int .i64 (eg s f (bX ch next p ch.length)).f,.int .i64 (eg s f (bX ch next p ch.length)).v,.sl g X]),[])/\X.map DV.clr=(eg s f (bX ch next p ch.length)).kids.map (T.enc .sub):=fun p=>by have h3:=wu w next p ch.length;have O:=w.len;obtain⟨d,P,g,X,rfl,q⟩:=Xv s hs f (bX ch next p ch.length) (by omega);exact⟨g,X,P,q⟩
 obtain⟨G,V⟩:=Classical.skolem.1 e;obtain⟨X,F⟩:=Classical.skolem.1 V;obtain⟨M,J⟩:∃M:Nat->T,M=fun p=>eg s f (bX ch next p ch.length):=⟨_,rfl⟩
 refine⟨eS all M G X all.length,?_,?_,Ep _ _ _ _ _,EG _ _ _ _ _⟩
 ·have h:=dS (X:=XV) (T:=XV.lin 258) (L:=Q.length) (live:=[0,1,2,3,4,11,12]) (b:=xL) (n:=all.length) (γ:=Unit) (R:=fun _=>(.ret,⟨[],[]⟩)) (step:=fun _ _=> .inl ())
   (st:=fun(_:Unit) p=>⟨vO f next all ch k (.sl U (eS all M G X p)) p,Q⟩) 0 20 (fun _ _=>True) ()
   (fun _ _=>by simp[xL,lr,lm,kS,k9,kX,kP,kj,j2,kp,j7,kn,kI,lF,kO,kz,vO])
   (fun _ p i _=>by
    have z:=aV (n:=p) (by omega);have H:=Ep all M G X p;have o:=Ss (eS all M G X p) (rK all M G X p) (by omega) (EG all M G X p) rfl (by simp[rK,DV.cells,aY,a6]);have c:=Yg f next all ch k (.sl U (eS all M G X p)) p Q j w i Z;have I:=(F p).1;have C:eg s f (bX ch next p ch.length)=M p:=by rw[J]
    rw[C]at I;have hE:eS all M G X (p+1)=eS all M G X p++[rK all M G X p]:=rfl;have r:=a5 i;refine⟨⟨⟨vO f next all ch k (.sl U (eS all M G X (p+1))) (p+1),Q⟩,?_,by simp[vO,aA,aB,j]⟩,fun _ _=>trivial⟩;rw[hE];simp only[rK]at o⊢
    generalize eS all M G X p=R1 at*
    generalize bX ch next p ch.length=kd at*
    generalize ai all p=t at*
    generalize M p=m at*
    generalize G p=g at*
    generalize X p=xs at*
    obtain⟨tf,tv,tk⟩:=t;simp only[Ec,vO,c_,cp,T.qaO,T.qbx,T.qav]at c o⊢
    simp[xL,lr,lm,kS,k9,kX,kP,kj,j2,kp,j7,kn,kI,lF,kO,kz,i,splice];rw[c];simp[xL,lr,lm,kS,k9,kX,kP,kj,j2,kp,j7,kn,kI,lF,kO,kz,i,r,I,nk,o,z,j,dq K,cut,splice])
   trivial (by simp[vO,aA,aB,j,eS])
  rw[dv]at h;rw[aL 258 vJ rfl];simp only[Ec,vO,eS,dy,c_,cp]at h;simp[vJ,lr,lm,kS,k9,kX,kP,kj,j2,kp,j7,kn,kI,lF,kO,kz];rw[h];simp[vJ,lr,lm,kS,k9,kX,kP,kj,j2,kp,j7,kn,kI,lF,kO,kz]
 ·have D:∀n,(eS all M G X n).map DV.clr=(db s f all ch next n).map (Eqn.enc .sub .sub):=fun n=>by
   induction n with
   |zero=>rfl
   |succ n ih=>
    have q:=(F n).2;simp only[eS,db,cM,ih,bF,bS]
    congr 2
    subst J;simp only[rK,qM,Eqn.enc,DV.clr,DV.clrs,DV.qay,q,mg,ao]
  exact D _
end
def rU(s:aC)(S:US):aH:=[.d (sg s),.d (dI S.told),aa (400-S.work:Int),aa (if S.over then 2 else 0)]
theorem wt(s:aC)(S:US)(k:Nat)(Q:az)(c:Q[k]?=some (some (rU s S))):ak XV 251 [.ptr k 0] Q=some (.d (.tup []),Q.set k (some (rU s S.bad))):=by
 rw[aL 251 A7 rfl];have i:=q_len c;have e:¬(Q.length<=k):=by omega
 have h:rU s S.bad=[.d (sg s),.d (dI S.told),aa (400-S.work:Int),aa 2]:=rfl;rw[h];unfold rU at c;simp[A7,i,e,c,dq c,splice]
section
variable {s:aC} (v next:Int) (t:T) (others:bg) (u:aF) (k:Nat) (S:US) (Q Q':az)
def pO(W:aF)(i:Nat):aI:=[(0,.ptr k 0),(1,.d (be others)),(3,aa next),(12,.d (binds .sub W)),(13,aa i)]
theorem QX(z:SgOk s)(W:aF)(e:AV)(B:az)(w:B=Q++[some [aa t.f,aa t.v,.d (ao .sub t.kids)]])(C:Q[k]?=some (some (rU s S)))(V:W.length<=10000000)(K:∀b,b∈W->b.t.inner<=1099511627776):
 bo XV (XV.lin 252) (Q.length+1) [0,1,3,12,13] sR ⟨pO next others k W 0,B⟩=some (if eA s W then(.exit 0,⟨pO next others k W W.length++[(29,au false)],B⟩)else(.ret,⟨[],B.set k (some (rU s S.bad))⟩)):=by
 have Z:=q_len C;have m:B.length=Q.length+1:=by rw[w];simp
 have j:B[k]?=some (some (rU s S)):=by rw[w];exact dr C _
 have p:k<Q.length+1:=by omega
 have r:=wt s S k B j;have F:B.take (Q.length+1)=B:=dC (by omega);clear w;have D:¬(Q.length+1<=k):=by omega
 have h:=dS (X:=XV) (T:=XV.lin 252) (L:=Q.length+1) (live:=[0,1,3,12,13]) (b:=sR) (n:=W.length) (γ:=Nat) (R:=fun _=>(.ret,⟨[],B.set k (some (rU s S.bad))⟩)) (step:=bG (vI s W))
  (st:=fun(_:Unit) i=>⟨pO next others k W i,B⟩) 0 29 (fun _ _=>True) ()
  (fun _ _=>by simp[sR,mj,mN,pw,nJ,my,o6,mC,nn,nE,pO])
  (fun _ i hi _=>by
   have H:=aV (n:=i) (by omega);have q:=df hi;have o:=H8 s z.len z.nam (aQ W i).t (K _ (ia hi));have P:vI s W i= !cu s (aQ W i).t:=rfl;unfold bG;refine⟨?_,fun _ _=>trivial⟩;rw[P];rw[rU]at j;generalize M:aQ W i=b at*
   obtain⟨bv,⟨J,I,O⟩⟩:=b;cases c:cu s (.node J I O)with
   |true=>rw[c]at o;simp only[lB,bh,if_false];exact⟨⟨pO next others k W (i+1),B⟩,by simp[sR,mj,mN,pw,nJ,my,o6,mC,nn,nE,pO,hi,H,p,m,j,dq j,D,q,o,Bd.enc,cut,splice],by simp[pO,aA,aB,p,F,m]⟩
   |false=>rw[c]at o;simp only[kF,if_true];exact⟨by simp,by simp[sR,mj,mN,pw,nJ,my,o6,mC,nn,nE,pO,hi,H,p,m,j,dq j,D,q,o,r,Bd.enc,cut,splice]⟩)
  trivial (by simp[pO,aA,aB,p,F,m])
 rw[cT]at h;rw[h];unfold eA;cases aR (vI s W) W.length 0<;>rfl
theorem qN8(J:SgOk s)(r:Q[k]?=some (some (rU s S)))(V:t.inner<=1099511627776)(n:¬0<cnt t v->SubFit s u v t)(Z:Q'.length=Q.length)
 (j:¬0<cnt t v->eA s (bB s u v t)=true->∀e,ak XV 248 [.ptr k 0,.d (be others),.d (binds .sub (bB s u v t)),aa next] (Q++e)=some (.d (.tup []),Q'++e)):
 ak XV 252 [.ptr k 0,.d (be others),.d (binds .sub u),aa next,aa v,.d (t.enc .sub)] Q=some (.d (.tup []),if 0<cnt t v then Q else if eA s (bB s u v t)then Q' else Q.set k (some (rU s S.bad))):=by
 rw[aL 252 ol rfl];have D:=q_len r;have q:k<Q.length+1:=by omega
 have K:¬(Q.length+1<=k):=by omega
 have I:¬(Q.length+1<=Q.length):=by omega
 have hc:=N1 t V v;have C:cnt t v=IntKind.i64.wrap (T.sum (wC v) t):=rfl;rw[<-C]at hc
 by_cases p:0<cnt t v
 ·rw[ay p]
  generalize cnt t v=c at*
  obtain⟨tf,O,tk⟩:=t;simp[ol,mj,mN,pw,nJ,my,o6,mC,nn,nE,hc,p,D,q,splice]
 ·rw[aD p]
  have n:=n p;have j:=j p;obtain⟨R,w,H⟩:=qqM s J.len u v t n.len n.b n.ti n.f;have P:=Hs s u v t;have h1:=n.len;have m:=QX next t others k S Q J (bB s u v t) .und _ rfl r (by omega) n.o;have z:=fun h=>j h [some [aa t.f,aa t.v,.d (ao .sub t.kids)]]
  have M:=dr r [some [aa t.f,aa t.v,.d (ao .sub t.kids)]];generalize bB s u v t=W at*
  generalize cnt t v=c at*
  obtain⟨tf,O,tk⟩:=t;have F:∀e,(Q'++e).take Q.length=Q':=fun e=>by rw[<-Z];simp
  simp only[WU,pO,binds,dy,T.qaO,T.qbx,T.qav]at m z;have i:=r;unfold rU at i;cases hfu:eA s W with
  |false=>rw[hfu]at m;simp[ol,mj,mN,pw,nJ,my,o6,mC,nn,nE,hc,p,D,q,K,I,splice,w,H,dr i,gV i];rw[m];simp[ol,mj,mN,pw,nJ,my,o6,mC,nn,nE,gq r]
  |true=>rw[hfu]at m;have z:=z hfu;simp[ol,mj,mN,pw,nJ,my,o6,mC,nn,nE,hc,p,D,q,K,I,splice,w,H,dr i,gV i];rw[m];simp[ol,mj,mN,pw,nJ,my,o6,mC,nn,nE,z,F]
end
theorem W3(xs:aw)(c:bg)(h:xs.length+c.length<=1099511627776)(j:∀y,y∈xs->y.cells.length=6):bU 6 80 (.sl U xs) (be c)=some (.sl U (xs++c.map (Eqn.enc .sub .sub))):=by
 have i:(c.map (Eqn.enc .sub .sub)).all (fun e=>decide (e.cells.length=6/\e.cells.all DV.isCell=true))=true:=by
  rw[cm];intro y hy
  obtain⟨z,_,rfl⟩:=cE.1 hy;simp[aY,a6,DV.isCell]
 have d:xs.all (fun e=>decide (e.cells.length=6))=true:=by rw[cm];intro y hy;simpa using j y hy
 unfold bU;simp only;rw[ay i];cases c with
 |nil=>simp
 |cons x r=>simp only[bF,gN,bh,if_false];rw[ay ⟨by simp at h⊢;omega,trivial,d⟩]
theorem US.qPa(h:S.over=true):S.bad=S:=by unfold US.bad;rw[<-h]
theorem US.qr0(S:US):S.run [.bad]=S.bad:=by
 show S.ev .bad=_;unfold US.ev;split
 ·rename_i h;exact(US.qPa h).symm
 ·rfl
section
variable (f next:Int) (all:ah) (ways:List ax) (others:bg) (u:aF) (k N:Nat)
def ig(m:Nat):aI:=[(0,.ptr k 0),(3,.d (be others)),(4,.d (binds .sub u)),(5,aa next),(7,.ptr N 0),(18,.d (aG .sub ways)),(20,.d (ao .sub all)),(21,aa m)]
def s_(i:Nat):Bool:=hH all ways i&&decide (99<next+(bc ways (i+1) ways.length).length-1)
theorem Rb(Q:az)(hQ:Q.length=N)(S:US)(hs:s.length<=1099511627776)(hn:0<=next/\next<=1000)(hol:others.length<=1000000000)(hq:Q[k]?=some (some (rU s S)))(bx:az)(xv yf yv:Int)(xk yk:ah)(x2:bx=[some [aa f,aa xv,.d (ao .sub xk)],some [aa yf,aa yv,.d (ao .sub yk)]])
 (E:Nat->ee) (hl:ways.length<=8) (c1:1<=all.length/\all.length<=1000)
 (hw:∀m,WaysOk (bc ways m ways.length) all.length) (hE:∀i,hH all ways i=false->E i=[]) (a2:∀i,s_ next all ways i=true->E i=[.bad])
 (x1:∀i S' Q',S'=S.run ((List.range i).flatMap E)->hH all ways i=true->s_ next all ways i=false->Q'[k]?=some (some (rU s S'))->
  ak XV 248 [.ptr k 0,.d (be (db s f all (bc ways (i+1) ways.length) next all.length++others)),.d (binds .sub u),aa (next+(bc ways (i+1) ways.length).length)] Q'=some (.d (.tup []),Q'.set k (some (rU s (S'.run (E i)))))):
 ∃e r,(e= .exit 0\/e= .ret)/\bo XV (XV.lin 253) (N+2) [0,3,4,5,7,18,20,21] qe ⟨ig next all ways others u k N 1,Q++bx⟩=
  some (e,⟨r,Q.set k (some (rU s (S.run ((List.range (2^ways.length-1)).flatMap E))))++bx⟩):=by
 have hk:k<N:=by rw[<-hQ];exact q_len hq
 obtain⟨z,I⟩:∃z:Nat->US,∀i,z i=S.run ((List.range i).flatMap E):=⟨_,fun _=>rfl⟩;have a3:z 0=S:=by rw[I];rfl
 have h1:∀i,z (i+1)=(z i).run (E i):=fun i=>by rw[I,I,US.qu8]
 have hbl:bx.length=2:=by rw[x2];rfl
 obtain⟨c,o⟩:∃c:Nat->az,∀i,c i=Q.set k (some (rU s (z i)))++bx:=⟨_,fun _=>rfl⟩;have q:∀i,(c i).length=N+2:=fun i=>by rw[o];simp[hQ,hbl]
 have b2:∀i,(c i)[k]?=some (some (rU s (z i))):=fun i=>by rw[o];exact dr (by rw[om (by omega)]) _
 have hBN:∀i,(c i)[N]?=some (some [aa f,aa xv,.d (ao .sub xk)]):=fun i=>by rw[o,x2,dB (by simp[hQ])];simp[hQ]
 have b1:c 0=Q++bx:=by rw[o,a3,j4 hq]
 rw[<-b1,<-I,<-o];have V:∀i v,(c i).set k v=Q.set k v++bx:=fun i v=>by rw[o,gq (by rw[om (by omega)]),wI]
 have hpow:2^ways.length<=2^8:=Ie (by omega) hl;have hp1:1<=2^ways.length:=Nat.one_le_two_pow;have P:=J5 ways.length (by omega);have p:k<N+2:=by omega
 have nk:¬(N+2<=k):=by omega
 have nN:¬(N+2<=N):=by omega
 have hT:∀i,(c i).take (N+2)=c i:=fun i=>dC (by rw[q];omega)
 obtain⟨D,hD⟩:∃D:Nat->Bool,∀i,D i=s_ next all ways i:=⟨_,fun _=>rfl⟩;have h:=bE (X:=XV) (T:=XV.lin 253) (L:=N+2) (live:=[0,3,4,5,7,18,20,21]) (b:=qe) (n:=2^ways.length-1) (γ:=Nat)
  (st:=fun(_:Unit) i=>⟨ig next all ways others u k N (i+1),c i⟩) (step:=lK D)
  (F:=fun _=>(.exit 0,⟨ig next all ways others u k N (2^ways.length-1+1)++[(74,au false)],c (2^ways.length-1)⟩)) (R:=fun i=>(.ret,⟨[],c (i+1)⟩))
  (fun _=>⟨by simp,by
   have K:¬((2^ways.length-1+1:Nat):Int)<((2^ways.length:Nat):Int):=by omega
   have hb:=q (2^ways.length-1);simp only[ig];generalize ((2^ways.length:Nat):Int)=M at*
   generalize ((2^ways.length-1+1:Nat):Int)=m at*
   generalize c (2^ways.length-1)=B at*
   simp[qe,ky,kg,ke,k8,ko,kH,kR,kv,kC,kD,kW,kb,j1,ln,kE,kw,kh,lz,P,K,p,hb]⟩)
  (fun _ i hi=>by
   have h3:=aV (n:=i+1) (by omega);have K:((i+1:Nat):Int)<((2^ways.length:Nat):Int):=by omega
   have hb:=q i;have h2:=b2 i;have a1:=hBN i;have hc:=qw2 ways (i+1) (by omega) (by omega);have hwl:=(hw (i+1)).len;have hcl:=xO ways (i+1) ways.length;have w:=U2 all (bc ways (i+1) ways.length) c1 (by omega);have hfd:oX all (dL (bc ways (i+1) ways.length) all.length)=hH all ways i:=rfl;rw[hfd]at w;have w1:IntKind.i64.wrap (next+((bc ways (i+1) ways.length).length:Int))=next+((bc ways (i+1) ways.length).length:Int):=wrap_i64 (by omega) (by omega);have w2:IntKind.i64.wrap (next+((bc ways (i+1) ways.length).length:Int)-1)=next+((bc ways (i+1) ways.length).length:Int)-1:=wrap_i64 (by omega) (by omega);have hDi:=hD i;have h4:s_ next all ways i=(hH all ways i&&decide (99<next+((bc ways (i+1) ways.length).length:Int)-1)):=rfl;have O:=x1 i (z i) (c i) (I i);have J:=wt s (z i) k (c i) h2;have hw':=hw (i+1);have hei:=hE i;have h5:=a2 i;have Z:=h1 i;rw[V]at J;unfold lK;rw[hDi];rw[h4]at O h5⊢
   generalize hch:bc ways (i+1) ways.length=ch at*
   generalize hH all ways i=ff at*
   cases ff with
   |false=>
    simp only[qh,bh,if_false];have H:c (i+1)=c i:=by rw[o,o,Z,hei rfl,US.qhY]
    refine⟨⟨ig next all ways others u k N (i+1+1),c (i+1)⟩,?_,by simp[ig,aA,aB,q,hT,p]⟩;rw[H];simp only[ig];generalize ((2^ways.length:Nat):Int)=M at*
    generalize ((i+1:Nat):Int)=m at*
    generalize ((i+1+1:Nat):Int)=m2 at*
    generalize c i=B at*
    simp[qe,ky,kg,ke,k8,ko,kH,kR,kv,kC,kD,kW,kb,j1,ln,kE,kw,kh,lz,P,K,p,hb,hc,w,h3,splice]
   |true=>
    by_cases C:99<next+(ch.length:Int)-1
    ·have H:c (i+1)=Q.set k (some (rU s (z i).bad))++bx:=by rw[o,Z,h5 (by simp[C]),US.qr0]
     simp only[C,decide_true,eF,if_true];refine⟨by simp,?_⟩;rw[<-H]at J;simp only[ig];generalize ((2^ways.length:Nat):Int)=M at*
     generalize ((i+1:Nat):Int)=m at*
     generalize c (i+1)=B2 at*
     generalize c i=B at*
     simp[qe,ky,kg,ke,k8,ko,kH,kR,kv,kC,kD,kW,kb,j1,ln,kE,kw,kh,lz,P,K,p,hb,hc,w,w1,w2,C,J,splice]
    ·have H:c (i+1)=(c i).set k (some (rU s ((z i).run (E i)))):=by rw[V,o,Z]
     have O:=O rfl (by simp[C]) h2;rw[<-H]at O;simp only[C,decide_false,x_,bh,if_false];obtain⟨R,e1,e2,e3,e4⟩:=qN9 s f next all ch k (c i) _ h2 hs hw' hn (by omega);have hap:=W3 R others (by omega) e4;have hcc:R.map (DV.clr∘DV.clr)=R.map DV.clr:=by rw[<-List.map_map,e2,eI,Eqn.qO9]
     have hb1:=q (i+1);refine⟨⟨ig next all ways others u k N (i+1+1),c (i+1)⟩,?_,by simp[ig,aA,aB,q,hT,p]⟩;simp only[ig];simp only[be,cM,<-e2]at O;generalize ((2^ways.length:Nat):Int)=M at*
     generalize ((i+1:Nat):Int)=m at*
     generalize ((i+1+1:Nat):Int)=m2 at*
     generalize c (i+1)=B2 at*
     generalize c i=B at*
     simp[qe,ky,kg,ke,k8,ko,kH,kR,kv,kC,kD,kW,kb,j1,ln,kE,kw,kh,lz,P,K,p,nk,nN,hb,hb1,hc,w,w1,w2,C,e1,hap,hcc,O,h3,a1,dq a1,splice])
  (2^ways.length-1) () 0 ⟨ig next all ways others u k N 1,c 0⟩ (by omega) (by simp[ig,aA,aB,q,hT,p])
 have x3:∀n i,match runN (lK D) n () i with| .inl _=>True| .inr j=>c (j+1)=c (i+n):=by
  intro n
  induction n with
  |zero=>intro i;trivial
  |succ n ih=>
   intro i;simp only[runN,lK];cases hd0:D i with
   |true=>
    simp only[if_true];have h0:(z (i+1)).over=true:=by rw[h1,a2 i (by rw[<-hD,hd0]),US.qr0];rfl
    have:∀m,z (i+1+m)=z (i+1):=fun m=>by
     induction m with
     |zero=>rfl
     |succ m c2=>rw[<-Nat.add_assoc,h1,c2,US.qeG _ h0]
    rw[o,o,show i+(n+1)=i+1+n by omega,this]
   |false=>simp only[bh,if_false];have:=ih (i+1);rwa[show i+1+n=i+(n+1)by omega]at this
 have O:=x3 (2^ways.length-1) 0;rw[h];cases hrn:runN (lK D) (2^ways.length-1) () 0 with
 |inl a=>exact⟨_,_,.inl rfl,rfl⟩
 |inr j=>rw[hrn]at O;simp only[dM]at O;rw[<-O];exact⟨_,_,.inr rfl,rfl⟩
end
section
variable {s:aC} (f xv yv next:Int) (xk yk:ah) (others:bg) (u:aF) (k:Nat) (S:US) (Q:az) (rec:bg->aF->Int->ee)
theorem UV(hs:SgOk s)(Z:Q[k]?=some (some (rU s S)))(hn:0<=next/\next<=1000)(x3:others.length<=1000000000)(lx:xk.length<=1000000000)(ly:yk.length<=1000000000)(bx:∀t,t∈xk->t.inner<=1099511627776)(x1:∀t,t∈yk->t.inner<=1099511627776)
 (z:∀all ways m S' Q',kM (bw (bV xk yk).1).2 (bw (bV xk yk).2).2=true->all=(bw (bV xk yk).1).1++(bw (bV xk yk).2).1->ways=bJ (bw (bV xk yk).1).2 (bw (bV xk yk).2).2->hH all ways m=true->(∃i,S'=S.run ((List.range i).flatMap (eK rec s f all ways others u next)))->Q'[k]?=some (some (rU s S'))->next+(bc ways (m+1) ways.length).length-1<=99->
  ak XV 248 [.ptr k 0,.d (be (db s f all (bc ways (m+1) ways.length) next all.length++others)),.d (binds .sub u),aa (next+(bc ways (m+1) ways.length).length)] Q'=
   some (.d (.tup []),Q'.set k (some (rU s (S'.run (rec (db s f all (bc ways (m+1) ways.length) next all.length++others) u (next+(bc ways (m+1) ways.length).length))))))):
 ak XV 253 [.ptr k 0,.d ((T.node f xv xk).enc .sub),.d ((T.node f yv yk).enc .sub),.d (be others),.d (binds .sub u),aa next] Q=some (.d (.tup []),Q.set k (some (rU s (S.run (uv rec s f xk yk others u next))))):=by
 rw[aL 253 nm rfl];have hk:=q_len Z;obtain⟨tg,q⟩:=Q0 xk yk (by omega) (by omega) bx x1
 obtain⟨I,F,P,O⟩:=CP xk ([],yk);have I:∀t,t∈(bV xk yk).1->t∈xk:=fun t h=>by rcases I t h with h|h;(·simp at h);exact h
 have F:∀t,t∈(bV xk yk).2->t∈yk:=F;have P:(bV xk yk).1.length<=xk.length:=by show(xk.foldl eB ([],yk)).1.length<=_;simpa using P
 have O:(bV xk yk).2.length<=yk.length:=O;generalize h3:bV xk yk=ap at*
 obtain⟨l,r⟩:=ap;simp only at I F P O q z;unfold uv;rw[h3];simp only;have n3:k<Q.length+1:=by omega
 have n4:k<Q.length+2:=by omega
 have n5:¬(Q.length+2<=Q.length):=by omega
 have n6:¬(Q.length+2<=Q.length+1):=by omega
 by_cases he:l.length=0\/r.length=0
 ·rw[ay he,US.qhY,j4 Z]
  by_cases x2:l.length=0
  ·have:l=[]:=ib.1 x2
   subst this;simp[nm,ky,kg,ke,k8,ko,kH,kR,kv,kC,kD,kW,kb,j1,ln,kE,kw,kh,lz,hk,n3,n4,n5,n6,get_at,ji,splice,q]
  ·have a3:r.length=0:=by omega
   have:r=[]:=ib.1 a3;subst this;have D:(((l.length:Int))==0)=false:=dR (by omega);simp[nm,ky,kg,ke,k8,ko,kH,kR,kv,kC,kD,kW,kb,j1,ln,kE,kw,kh,lz,hk,n3,n4,n5,n6,get_at,ji,splice,q,D]
 ·rw[aD he]
  have D:(((l.length:Int))==0)=false:=dR (by omega);have R:(((r.length:Int))==0)=false:=dR (by omega);have J:=Lm l (by omega) (fun t h=>bx t (I t h));have H:=Lm r (by omega) (fun t h=>x1 t (F t h));obtain⟨cm1,V⟩:=qC l ([],[]);obtain⟨b2,M⟩:=qC r ([],[]);have ce:=uA l;have de:=uA r;have V:(bw l).1.length<=l.length:=by show(l.foldl cntF ([],[])).1.length<=_;simpa using V
  have M:(bw r).1.length<=r.length:=by show(r.foldl cntF ([],[])).1.length<=_;simpa using M
  have o:=YX (bw l).2 (bw r).2 (by omega) (by omega);generalize hcl:bw l=c at*
  generalize hcr:bw r=d at*
  obtain⟨c1,w⟩:=c;obtain⟨d1,d2⟩:=d;simp only at ce de V M o J H z⊢
  cases hbo:kM w d2 with
  |false=>
   have K:=wt s S k _ (dr Z [some [aa f,aa xv,.d (ao .sub xk)],some [aa f,aa yv,.d (ao .sub yk)]]);simp only[bh,if_false];rw[US.qr0]
   by_cases j:b8 w=true/\b8 d2=true/\(bJ w d2).length<=60
   ·rw[ay j]at o
    have h8:(8:Int)<(bJ w d2).length:=by unfold kM at hbo;rw[j.1,j.2.1]at hbo;simp at hbo;omega
    generalize bJ w d2=W at*
    simp[nm,ky,kg,ke,k8,ko,kH,kR,kv,kC,kD,kW,kb,j1,ln,kE,kw,kh,lz,hk,n3,n4,n5,n6,get_at,ji,splice,q,D,R,J,H,o,h8,K,gq Z]
   ·rw[aD j]at o
    simp[nm,ky,kg,ke,k8,ko,kH,kR,kv,kC,kD,kW,kb,j1,ln,kE,kw,kh,lz,hk,n3,n4,n5,n6,get_at,ji,splice,q,D,R,J,H,o,K,gq Z]
  |true=>
   have n:b8 w=true/\b8 d2=true/\(bJ w d2).length<=8:=by unfold kM at hbo;simpa[y9]using hbo
   rw[ay ⟨n.1,n.2.1,by omega⟩]at o;have lc:=dz n.1;have ld:=dz n.2.1;have h8:¬(8:Int)<(bJ w d2).length:=by omega
   have h4:=t9 [] c1 U (by simp;omega);have h5:=t9 c1 d1 U (by omega);have h2:=FC n.1 n.2.1 n.2.2;have h1:(c1++d1).length=w.length+d2.length:=by rw[cD];omega
   rw[<-h1]at h2;obtain⟨e,rr,b1,C⟩:=Rb f next (c1++d1) (bJ w d2) others u k Q.length Q rfl S hs.len hn x3 Z _ xv f yv xk yk rfl (eK rec s f (c1++d1) (bJ w d2) others u next) n.2.2 (by omega) h2 (fun i h=>by unfold eK;rw[h];rfl) (fun i h=>by
    unfold s_ at h;simp only[cb,cA]at h;unfold eK;rw[ay h.1,ay h.2]) (fun i S' Q' a1 hf p a2=>by
    unfold s_ at p;rw[hf]at p;simp only[eF,FH]at p;unfold eK;rw[ay hf,aD p];exact z _ _ i S' Q' hbo rfl rfl hf ⟨_,a1⟩ a2 (by omega))
   simp only[if_true];simp only[Qz,ig,dy,ao,cM]at C;generalize US.run S _=S2 at*
   generalize bJ w d2=W at*
   simp only[bS,cp,cM]at h4 h5;simp[nm,ky,kg,ke,k8,ko,kH,kR,kv,kC,kD,kW,kb,j1,ln,kE,kw,kh,lz,hk,n3,n4,n5,n6,get_at,ji,splice,q,D,R,J,H,o,h8,h4,h5];rw[C];rcases b1 with rfl|rfl<;>simp[nm,ky,kg,ke,k8,ko,kH,kR,kv,kC,kD,kW,kb,j1,ln,kE,kw,kh,lz]
end
section
variable {s:aC} (u:aF) (next:Int) (k:Nat) (S:US) (Q Q':az)
theorem nv(s:aC)(S:US):rU s S=[.d (sg s),.d (dI S.told),aa (400-S.work:Int),aa (if S.over then 2 else 0)]:=rfl
theorem LE(l:bg)(c:Q[k]?=some (some (rU s S)))(e:S.over=true):
 ak XV 248 [.ptr k 0,.d (be l),.d (binds .sub u),aa next] Q=some (.d (.tup []),Q):=by
 rw[aL 248 dW rfl];have i:=q_len c;rw[nv,e]at c;have h:¬(Q.length<=k):=by omega
 simp[dW,fe,fY,gF,hJ,gm,gz,fZ,e_,f_,f5,gO,gH,f8,gk,gM,gh,gr,gJ,iD,hI,gC,gE,gW,ij,gi,gR,i,h,c,dq c,splice]
theorem V2(i:Q[k]?=some (some (rU s S)))(m:S.over=false)(M:S.told.length<=60)(H:∀w,w∈S.told->small w)(F:small u):
 ak XV 248 [.ptr k 0,.d (be []),.d (binds .sub u),aa next] Q=some (.d (.tup []),Q.set k (some (rU s (S.ev (.found u))))):=by
 rw[aL 248 dW rfl];have q:=q_len i;have C:¬(Q.length<=k):=by omega
 have c:=qOa S.told u (by omega) H F;have o:=SJ u F;have p:=KO S.told U u (by omega);have J:S.ev (.found u)={S with told:=if jb S.told u then S.told else S.told++[u],over:=decide (60<(if jb S.told u then S.told else S.told++[u]).length)}:=by unfold US.ev;rw[m];rfl
 have e:=wt s {S with told:=S.told++[u]} k (Q.set k (some (rU s {S with told:=S.told++[u]}))) (om q);rw[J];have D:=i;rw[nv,m]at i;cases hh:jb S.told u with
 |true=>
  rw[hh]at c;have r:decide (60<S.told.length)=false:=by simp;omega
  have h:¬(60:Int)<(S.told.length:Int):=by omega
  have K:({S with told:=S.told,over:=false}:US)=S:=by rw[<-m]
  simp only[if_true,r];rw[K,j4 D];simp[dW,fe,fY,gF,hJ,gm,gz,fZ,e_,f_,f5,gO,gH,f8,gk,gM,gh,gr,gJ,iD,hI,gC,gE,gW,ij,gi,gR,q,C,i,dq i,splice,c,h]
 |false=>
  rw[hh]at c;simp only[bh,if_false];have I:(S.told++[u]).length=S.told.length+1:=by simp
  have n:rU s {S with told:=S.told++[u]}=[.d (sg s),.d (.sl U (S.told.map (binds U)++[binds U u])),aa (400-S.work:Int),aa 0]:=by rw[nv];simp[dI,m]
  rw[n]at e
  by_cases h:60<(S.told++[u]).length
  ·have j:(60:Int)<(S.told.length:Int)+1:=by omega
   have z:({S with told:=S.told++[u],over:=decide (60<(S.told++[u]).length)}:US)=US.bad {S with told:=S.told++[u]}:=by unfold US.bad;simp only[h,decide_true]
   rw[z];rw[wI]at e;simp[dW,fe,fY,gF,hJ,gm,gz,fZ,e_,f_,f5,gO,gH,f8,gk,gM,gh,gr,gJ,iD,hI,gC,gE,gW,ij,gi,gR,q,C,i,dq i,splice,c,o,p,j,e]
  ·have j:¬(60:Int)<(S.told.length:Int)+1:=by omega
   have z:({S with told:=S.told++[u],over:=decide (60<(S.told++[u]).length)}:US)={S with told:=S.told++[u]}:=by simp only[h,decide_false,m]
   rw[z,n];simp[dW,fe,fY,gF,hJ,gm,gz,fZ,e_,f_,f5,gO,gH,f8,gk,gM,gh,gr,gJ,iD,hI,gC,gE,gW,ij,gi,gR,q,C,i,dq i,splice,c,o,p,j]
theorem q1W(l:bg)(w:l≠[])(e:Q[k]?=some (some (rU s S)))(n:S.over=false)(D:400<S.work+1)(q:S.work<=1000):
 ak XV 248 [.ptr k 0,.d (be l),.d (binds .sub u),aa next] Q=some (.d (.tup []),Q.set k (some (rU s {S with work:=S.work+1,over:=true}))):=by
 rw[aL 248 dW rfl];have o:=q_len e;have z:¬(Q.length<=k):=by omega
 have c:=wt s {S with work:=S.work+1} k (Q.set k (some (rU s {S with work:=S.work+1}))) (om o);have i:rU s {S with work:=S.work+1}=[.d (sg s),.d (dI S.told),aa (400-(S.work+1:Nat):Int),aa 0]:=by rw[nv];simp[n]
 have r:US.bad {S with work:=S.work+1}={S with work:=S.work+1,over:=true}:=rfl;rw[i,r,wI]at c;rw[nv,n]at e;have C:0<l.length:=xU.2 w;have h:(((l.length:Int))==0)=false:=dR (by omega);have j:IntKind.i64.wrap ((400-S.work:Int)-1)=400-(S.work+1:Nat):=by rw[IntKind.wrap_i64];omega
 have p:(400-(S.work+1:Nat):Int)<0:=by omega
 generalize (400-(S.work+1:Nat):Int)=m at*
 simp[dW,fe,fY,gF,hJ,gm,gz,fZ,e_,f_,f5,gO,gH,f8,gk,gM,gh,gr,gJ,iD,hI,gC,gE,gW,ij,gi,gR,o,z,e,dq e,splice,h,j,p,c]
end
structure Eqr(s:aC)(u:aF)(S:US)(Q:az)(k:Nat)(a b x y:T)(g g':Tag)(X Y:aw):Prop where
 q:Q[k]?=some (some (rU s S))
 o:S.over=false
 w:S.work+1<=400
 hx:ak XV 141 [.d (sg s),.d (binds .sub u),.d (a.enc .sub)] []=some (.d (.agg [.int .i64 x.f,.int .i64 x.v,.sl g X]),[])
 hy:ak XV 141 [.d (sg s),.d (binds .sub u),.d (b.enc .sub)] []=some (.d (.agg [.int .i64 y.f,.int .i64 y.v,.sl g' Y]),[])
 cx:X.map DV.clr=x.kids.map (T.enc .sub)
 cy:Y.map DV.clr=y.kids.map (T.enc .sub)
 bx:x.inner<=1099511627776
 b':y.inner<=1099511627776
def oE:VCode:=
 match dW.code with
 | .seq _ (.seq _ (.seq _ (.seq _ (.seq _ (.seq _ b)))))=>b
 |_=> .skip
def c6(x y:T)(g g':Tag)(X Y:aw):az:=[some [aa x.f,aa x.v,.d (.sl g X)],some [aa y.f,aa y.v,.d (.sl g' Y)]]
def eJ(u:aF)(k N:Nat)(next:Int)(rest:bg):aI:=[(0,.ptr k 0),(2,.d (binds .sub u)),(3,aa next),(8,.d (be rest)),(9,.ptr N 0),(10,.ptr (N+1) 0)]
section
variable {s:aC} {u:aF} {S:US} {Q:az} {k:Nat} {a b x y:T} {g g':Tag} {X Y:aw}
theorem uq(h:Eqr s u S Q k a b x y g g' X Y)(rest:bg)(next:Int)(P:rest.length<=1099511627776):
 ak XV 248 [.ptr k 0,.d (be (⟨a,b⟩::rest)),.d (binds .sub u),aa next] Q=sE Q.length [] (aS XV (XV.lin 248) oE ⟨eJ u k Q.length next rest,Q.set k (some (rU s S.st))++c6 x y g g' X Y⟩):=by
 rw[aL 248 dW rfl];obtain⟨c,o,Z,hx,hy,cx,cy,bx,b'⟩:=h;have e:=q_len c;have V:¬(Q.length<=k):=by omega
 have n:rU s S.st=[.d (sg s),.d (dI S.told),aa (400-(S.work+1:Nat):Int),aa 0]:=by rw[nv];simp[US.st,o]
 rw[n];rw[nv,o]at c;obtain⟨w,av,p⟩:=a;obtain⟨q,bv,r⟩:=b;obtain⟨xf,xv,xk⟩:=x;obtain⟨yf,yv,yk⟩:=y;have C:k<Q.length+1:=by omega
 have H:k<Q.length+2:=by omega
 have M:¬(Q.length+1<=k):=by omega
 have z:¬(Q.length+2<=k):=by omega
 have F:¬(Q.length+2<=Q.length):=by omega
 have K:¬(Q.length+2<=Q.length+1):=by omega
 have J:¬(Q.length+1<Q.length):=by omega
 have I:(0:Int)<=(rest.length:Int):=by omega
 have j:(((rest.length:Int)+1)==0)=false:=dR (by omega);have i:IntKind.i64.wrap ((400-S.work:Int)-1)=400-(S.work+1:Nat):=by rw[IntKind.wrap_i64];omega
 have D:¬(400-(S.work+1:Nat):Int)<0:=by omega
 have O:List.take rest.length (rest.map (Eqn.enc .sub .sub))=rest.map (Eqn.enc .sub .sub):=dC (by simp);have R:(Eqn.mk (.node w av p) (.node q bv r)).enc .sub .sub= .agg [.int .i64 w,.int .i64 av,ao .sub p,.int .i64 q,.int .i64 bv,ao .sub r]:=rfl;generalize (400-(S.work+1:Nat):Int)=m at*
 simp only[T.qaO,T.qbx,T.qav]at hx hy;simp[-GA,dW,oE,c6,eJ,fe,fY,fZ,e_,f5,gO,e,V,C,H,M,z,F,K,J,R,c,dq c,dr c,gV c,gq c,splice,I,j,i,D,O,cut,hx,hy,jq e,lH e,jv e]
end
section
variable {s:aC} {u:aF} {S:US} {Q:az} {k:Nat} {a b x y:T} {g g':Tag} {X Y:aw}
theorem XD(h:Eqr s u S Q k a b x y g g' X Y)(rest:bg)(next:Int)(Q':az)(j:rest.length<=1099511627776)(hc:(T.cmp x y==0)=true)(m:Q'.length=Q.length)
 (i:∀e,ak XV 248 [.ptr k 0,.d (be rest),.d (binds .sub u),aa next] (Q.set k (some (rU s S.st))++e)=some (.d (.tup []),Q'++e)):
 ak XV 248 [.ptr k 0,.d (be (⟨a,b⟩::rest)),.d (binds .sub u),aa next] Q=some (.d (.tup []),Q'):=by
 rw[uq h rest next j];obtain⟨r,z,F,hx,hy,cx,cy,bx,b'⟩:=h;have q:=q_len r;have c:=l9 x y bx b';rw[hc]at c;have n:=i (c6 x y g g' X Y);obtain⟨D,xv,xk⟩:=x;obtain⟨C,yv,yk⟩:=y;generalize some (rU s S.st)=v at*
 have o:Q.length+1<Q.length+2:=by omega
 have p:k<Q.length+2:=by omega
 have w:∀e,(Q'++e).take Q.length=Q':=fun e=>by rw[<-m];simp
 simp only[c6,T.qaO,T.qbx,T.qav,ao,binds,be]at n cx cy c;simp[oE,dW,fe,fY,gF,hJ,gm,gz,fZ,e_,f_,f5,gO,gH,f8,gk,gM,gh,gr,gJ,iD,hI,gC,gE,gW,ij,gi,gR,eJ,c6,splice,cx,cy,c,n,q,o,p,w,m]
theorem Yc(h:Eqr s u S Q k a b x y g g' X Y)(rest:bg)(next:Int)(Q':az)(j:rest.length<=1099511627776)(hc:(T.cmp x y==0)=false)(o:x.f= -1)(m:Q'.length=Q.length)
 (i:∀e,ak XV 252 [.ptr k 0,.d (be rest),.d (binds .sub u),aa next,aa x.v,.d (y.enc .sub)] (Q.set k (some (rU s S.st))++e)=some (.d (.tup []),Q'++e)):
 ak XV 248 [.ptr k 0,.d (be (⟨a,b⟩::rest)),.d (binds .sub u),aa next] Q=some (.d (.tup []),Q'):=by
 rw[uq h rest next j];obtain⟨w,C,D,hx,hy,cx,cy,bx,b'⟩:=h;have r:=q_len w;have c:=l9 x y bx b';rw[hc]at c;have n:=i (c6 x y g g' X Y);obtain⟨H,xv,xk⟩:=x;obtain⟨F,yv,yk⟩:=y;simp only[T.qaO]at o;subst o;generalize some (rU s S.st)=v at*
 have p:Q.length+1<Q.length+2:=by omega
 have q:k<Q.length+2:=by omega
 have z:∀e,(Q'++e).take Q.length=Q':=fun e=>by rw[<-m];simp
 simp only[c6,T.qaO,T.qbx,T.qav,ao,binds,be]at n cx cy c;simp[oE,dW,fe,fY,gF,hJ,gm,gz,fZ,e_,f_,f5,gO,gH,f8,gk,gM,gh,gr,gJ,iD,hI,gC,gE,gW,ij,gi,gR,eJ,c6,splice,cx,cy,c,n,r,p,q,z,m]
theorem Uw(h:Eqr s u S Q k a b x y g g' X Y)(rest:bg)(next:Int)(Q':az)(m:rest.length<=1099511627776)(hc:(T.cmp x y==0)=false)(p:x.f≠-1)(j:y.f= -1)(n:Q'.length=Q.length)
 (i:∀e,ak XV 252 [.ptr k 0,.d (be rest),.d (binds .sub u),aa next,aa y.v,.d (x.enc .sub)] (Q.set k (some (rU s S.st))++e)=some (.d (.tup []),Q'++e)):
 ak XV 248 [.ptr k 0,.d (be (⟨a,b⟩::rest)),.d (binds .sub u),aa next] Q=some (.d (.tup []),Q'):=by
 rw[uq h rest next m];obtain⟨C,H,I,hx,hy,cx,cy,bx,b'⟩:=h;have z:=q_len C;have c:=l9 x y bx b';rw[hc]at c;have o:=i (c6 x y g g' X Y);obtain⟨D,xv,xk⟩:=x;obtain⟨J,yv,yk⟩:=y;simp only[T.qaO]at p j;subst j;have q:(D== -1)=false:=by simpa using p
 generalize some (rU s S.st)=v at*
 have r:Q.length+1<Q.length+2:=by omega
 have w:k<Q.length+2:=by omega
 have F:∀e,(Q'++e).take Q.length=Q':=fun e=>by rw[<-n];simp
 simp only[c6,T.qaO,T.qbx,T.qav,ao,binds,be]at o cx cy c;simp[oE,dW,fe,fY,gF,hJ,gm,gz,fZ,e_,f_,f5,gO,gH,f8,gk,gM,gh,gr,gJ,iD,hI,gC,gE,gW,ij,gi,gR,eJ,c6,splice,cx,cy,c,q,o,z,r,w,F,n]
theorem Z8(h:Eqr s u S Q k a b x y g g' X Y)(rest:bg)(next:Int)(j:rest.length<=1099511627776)(hc:(T.cmp x y==0)=false)(r:x.f≠-1)(c:y.f≠-1)(o:x.f≠y.f):
 ak XV 248 [.ptr k 0,.d (be (⟨a,b⟩::rest)),.d (binds .sub u),aa next] Q=some (.d (.tup []),Q.set k (some (rU s S.st))):=by
 rw[uq h rest next j];obtain⟨F,I,J,hx,hy,cx,cy,bx,b'⟩:=h;have C:=q_len F;have i:=l9 x y bx b';rw[hc]at i;obtain⟨q,xv,xk⟩:=x;obtain⟨p,yv,yk⟩:=y;simp only[T.qaO]at r c o;have D:(q== -1)=false:=by simpa using r
 have m:(p== -1)=false:=by simpa using c
 have n:(q !=p)=true:=by simpa using o
 generalize some (rU s S.st)=v at*
 have w:Q.length+1<Q.length+2:=by omega
 have z:k<Q.length+2:=by omega
 have H:∀v e,(Q.set k v++e).take Q.length=Q.set k v:=fun v e=>by rw[List.take_left' (by simp)]
 simp only[T.qaO,T.qbx,T.qav,ao]at cx cy;simp[oE,dW,fe,fY,gF,hJ,gm,gz,fZ,e_,f_,f5,gO,gH,f8,gk,gM,gh,gr,gJ,iD,hI,gC,gE,gW,ij,gi,gR,eJ,c6,splice,cx,cy,i,D,m,n,C,w,z,H]
theorem YA(h:Eqr s u S Q k a b x y g g' X Y)(rest:bg)(next:Int)(Q':az)(n:rest.length<=1099511627776)(F:SgOk s)(hc:(T.cmp x y==0)=false)(w:x.f≠-1)(q:x.f=y.f)(m:bn s x.f=true)(r:Q'.length=Q.length)
 (j:∀e,ak XV 253 [.ptr k 0,.d (x.enc .sub),.d (y.enc .sub),.d (be rest),.d (binds .sub u),aa next] (Q.set k (some (rU s S.st))++e)=some (.d (.tup []),Q'++e)):
 ak XV 248 [.ptr k 0,.d (be (⟨a,b⟩::rest)),.d (binds .sub u),aa next] Q=some (.d (.tup []),Q'):=by
 rw[uq h rest next n];obtain⟨K,P,R,hx,hy,cx,cy,bx,b'⟩:=h;have o:=q_len K;have c:=l9 x y bx b';rw[hc]at c;have p:=j (c6 x y g g' X Y);have i:=y4 s F.len x.f;rw[m]at i;obtain⟨M,xv,xk⟩:=x;obtain⟨V,yv,yk⟩:=y;simp only[T.qaO]at w q i;subst q;have C:(M== -1)=false:=by simpa using w
 rw[nv]at p⊢
 have D:Q.length+1<Q.length+2:=by omega
 have H:k<Q.length+2:=by omega
 have I:¬(Q.length+2<=k):=by omega
 have z:¬(Q.length+2<=Q.length):=by omega
 have J:¬(Q.length+2<=Q.length+1):=by omega
 have O:∀e,(Q'++e).take Q.length=Q':=fun e=>by rw[<-r];simp
 simp only[c6,T.qaO,T.qbx,T.qav,ao,binds,be]at p cx cy c;simp[oE,dW,fe,fY,gF,hJ,gm,gz,fZ,e_,f_,f5,gO,gH,f8,gk,gM,gh,gr,gJ,iD,hI,gC,gE,gW,ij,gi,gR,eJ,c6,splice,cx,cy,c,C,i,p,o,D,H,I,z,J,O,r,jq o,lH o]
theorem UW(v:Option aH)(rest:bg)(next:Int)(Z:k<Q.length)(cx:X.map DV.clr=x.kids.map (T.enc .sub))(cy:Y.map DV.clr=y.kids.map (T.enc .sub))(V:x.kids.length<=1099511627776)(K:x.kids.length=y.kids.length):
 bo XV (XV.lin 248) (Q.length+2) [0,2,3,8,9,10,11,12] u4 ⟨eJ u k Q.length next rest++[(11,.d (.sl U [])),(12,aa 0)],Q.set k v++c6 x y g g' X Y⟩=
  some (.exit 1,⟨eJ u k Q.length next rest++[(11,.d (.sl U ((bD x.kids y.kids x.kids.length).map (Eqn.enc .sub .sub)))),(12,aa x.kids.length),(95,au false)],Q.set k v++c6 x y g g' X Y⟩):=by
 have z:(Q.set k v++c6 x y g g' X Y).length=Q.length+2:=by simp[c6]
 have D:(Q.set k v++c6 x y g g' X Y).take (Q.length+2)=Q.set k v++c6 x y g g' X Y:=dC (by omega);have j:k<Q.length+2:=by omega
 have e:Q.length+1<Q.length+2:=by omega
 have r:¬(Q.length+2<=Q.length):=by omega
 have C:¬(Q.length+2<=Q.length+1):=by omega
 have m:X.length=x.kids.length:=by have:=yq List.length cx;simpa using this
 have F:Y.length=y.kids.length:=by have:=yq List.length cy;simpa using this
 have h:=dS (X:=XV) (T:=XV.lin 248) (L:=Q.length+2) (live:=[0,2,3,8,9,10,11,12]) (b:=u4) (n:=x.kids.length) (γ:=Unit) (R:=fun _=>(.ret,⟨[],[]⟩)) (step:=fun _ _=> .inl ())
  (st:=fun(_:Unit) i=>⟨eJ u k Q.length next rest++[(11,.d (.sl U ((bD x.kids y.kids i).map (Eqn.enc .sub .sub)))),(12,aa i)],Q.set k v++c6 x y g g' X Y⟩) 1 95 (fun _ _=>True) ()
  (fun _ _=>by simp[u4,fe,fY,gF,hJ,gm,gz,fZ,e_,f_,f5,gO,gH,f8,gk,gM,gh,gr,gJ,iD,hI,gC,gE,gW,ij,gi,gR,eJ,c6,j,e,r,C,m,cx,splice])
  (fun _ i hi _=>by
   have o:=aV (n:=i) (by omega);have c:i<y.kids.length:=by omega
   have w:=o9 x.kids y.kids i;have H:=Bb (bD x.kids y.kids i) .sub .sub ⟨ai x.kids i,ai y.kids i⟩ (by omega);have M:bD x.kids y.kids (i+1)=bD x.kids y.kids i++[⟨ai x.kids i,ai y.kids i⟩]:=rfl;have I:=a5 hi;have J:=a5 c;refine⟨⟨⟨eJ u k Q.length next rest++[(11,.d (.sl U ((bD x.kids y.kids (i+1)).map (Eqn.enc .sub .sub)))),(12,aa (i+1:Nat))],Q.set k v++c6 x y g g' X Y⟩,?_,by simp[eJ,aA,aB,D,z,j,e]⟩,fun _ _=>trivial⟩;rw[M];generalize (bD x.kids y.kids i++[Eqn.mk (ai x.kids i) (ai y.kids i)]).map (Eqn.enc .sub .sub)=L2 at*
   generalize (bD x.kids y.kids i).map (Eqn.enc .sub .sub)=L1 at*
   generalize ai x.kids i=p at*
   generalize ai y.kids i=q at*
   obtain⟨xf,xv,xk⟩:=x;obtain⟨yf,yv,yk⟩:=y;obtain⟨pf,pv,pk⟩:=p;obtain⟨P,qv,O⟩:=q;simp only[T.qav,Eqn.enc,T.qaO,T.qbx]at I J hi c H m F cx cy⊢
   simp[u4,fe,fY,gF,hJ,gm,gz,fZ,e_,f_,f5,gO,gH,f8,gk,gM,gh,gr,gJ,iD,hI,gC,gE,gW,ij,gi,gR,eJ,c6,hi,c,o,cut,I,J,H,j,e,r,C,m,F,cx,cy,splice])
  trivial (by simp[eJ,aA,aB,D,z,j,e,bD])
 rw[dv]at h;exact h
theorem qN3(h:Eqr s u S Q k a b x y g g' X Y)(rest:bg)(next:Int)(Q':az)(P:rest.length<=1000000000)(O:SgOk s)(hc:(T.cmp x y==0)=false)(J:x.f≠-1)(D:x.f=y.f)(p:bn s x.f=false)(n:x.kids.length=y.kids.length)(hl:x.kids.length<=1000000000)(F:Q'.length=Q.length)
 (m:∀e,ak XV 248 [.ptr k 0,.d (be (bD x.kids y.kids x.kids.length++rest)),.d (binds .sub u),aa next] (Q.set k (some (rU s S.st))++e)=some (.d (.tup []),Q'++e)):
 ak XV 248 [.ptr k 0,.d (be (⟨a,b⟩::rest)),.d (binds .sub u),aa next] Q=some (.d (.tup []),Q'):=by
 rw[uq h rest next (by omega)];obtain⟨R,ho,hw,hx,hy,cx,cy,bx,b'⟩:=h;have o:=q_len R;have c:=l9 x y bx b';rw[hc]at c;have q:=m (c6 x y g g' X Y);have i:=y4 s O.len x.f;rw[p]at i;have j:=UW (u:=u) (g:=g) (g':=g') (some (rU s S.st)) rest next o cx cy (by omega) n;have K:=o9 x.kids y.kids x.kids.length;have r:=G5 (bD x.kids y.kids x.kids.length) rest .sub .sub (by omega);obtain⟨V,xv,xk⟩:=x;obtain⟨yf,yv,yk⟩:=y;simp only[T.qaO,T.qav]at J D i n;subst D;have M:(V== -1)=false:=by simpa using J
 rw[nv]at q j⊢
 have z:Q.length+1<Q.length+2:=by omega
 have C:k<Q.length+2:=by omega
 have H:¬(Q.length+2<=k):=by omega
 have w:¬(Q.length+2<=Q.length):=by omega
 have I:¬(Q.length+2<=Q.length+1):=by omega
 have Z:∀e,(Q'++e).take Q.length=Q':=fun e=>by rw[<-F];simp
 simp only[c6,eJ,T.qaO,T.qbx,T.qav,qUB,cM,be,binds,ao,c_,cp]at q j r cx cy c;simp[oE,dW,fe,fY,gF,hJ,gm,gz,fZ,e_,f_,f5,gO,gH,f8,gk,gM,gh,gr,gJ,iD,hI,gC,gE,gW,ij,gi,gR,eJ,c6,splice,cx,cy,c,M,i,o,z,C,H,w,I,jq o,lH o];rw[j];simp[dW,fe,fY,gF,hJ,gm,gz,fZ,e_,f_,f5,gO,gH,f8,gk,gM,gh,gr,gJ,iD,hI,gC,gE,gW,ij,gi,gR,o,z,C,H,w,I,r,q,Z,F,splice]
end
section
variable {s:aC} {G:Nat->bg->aF->Int->Prop}
def Ih(s:aC)(G:Nat->bg->aF->Int->Prop)(k n:Nat):Prop:=
 ∀(l:bg) (u:aF) (next:Int) (S:US) (Q:az),Q[k]?=some (some (rU s S))->G n l u next->S.Ok->(S.over=true\/402<=n+S.work)->
  ak XV 248 [.ptr k 0,.d (be l),.d (binds .sub u),aa next] Q=some (.d (.tup []),Q.set k (some (rU s (S.run (cH s n l u next)))))
theorem Kn(o:SgOk s){n:Nat}(j:Ih s G k n){rest:bg}(q:S.Ok)(m:402<=n+S.work)(p:t.inner<=1099511627776)
 (i:¬0<cnt t v->SubFit s u v t/\(eA s (bB s u v t)=true->G n rest (bB s u v t) next)) (R:az) (c:R[k]?=some (some (rU s S))):
 ak XV 252 [.ptr k 0,.d (be rest),.d (binds .sub u),aa next,aa v,.d (t.enc .sub)] R=some (.d (.tup []),R.set k (some (rU s (S.run (n0 (cH s n) s v t rest u next))))):=by
 rw[qN8 v next t rest u k S R (R.set k (some (rU s (S.run (cH s n rest (bB s u v t) next))))) o c p (fun h=>(i h).1) (by simp) (fun hc r e=>by rw[j rest _ next S (R++e) (dr c e) ((i hc).2 r) q (.inr m),gq c])]
 unfold n0
 by_cases hc:0<cnt t v
 ·rw[ay hc,ay hc,US.qhY,j4 c]
 ·rw[aD hc,aD hc]
  split
  ·rfl
  ·rw[US.qr0]
theorem O8(P:SgOk s)(F:Safe s G):∀n,Ih s G k n
 |0=>fun l u next S Q r C hO hn=>by
  have ho:S.over=true:=by
   rcases hn with h|h
   ·exact h
   ·cases c:S.over with
    |true=>rfl
    |false=>have:=(hO.o c).2;omega
  rw[US.qeG S ho,j4 r];exact LE u next k S Q l r ho
 |n+1=>fun l u next S Q r C hO hn=>by
  have ih:Ih s G k n:=O8 P F n;cases c:S.over with
  |true=>rw[US.qeG S c,j4 r];exact LE u next k S Q l r c
  |false=>
   have hn:402<=n+1+S.work:=by rcases hn with h|h;(·rw[c]at h;cases h);exact h
   obtain⟨h60,h400⟩:=hO.o c;obtain⟨z,I,hul,h1,h5⟩:=F.len C
   match l,C,z with
   | [],C,z=>show _=some (AV.d (.tup []),Q.set k (some (rU s (S.ev (.found u)))));exact V2 u next k S Q r c h60 hO.t I
   |⟨a,b⟩::rest,C,z=>
    have hrl:rest.length<=10000000:=by simp only[cY]at z;omega
    have D:S.ev .step={S with work:=S.work+1,over:=decide (400<S.work+1)}:=by unfold US.ev;rw[c];rfl
    by_cases h2:S.work+1<=400
    case neg=>
     have:S.run (cH s (n+1) (⟨a,b⟩::rest) u next)={S with work:=S.work+1,over:=true}:=by
      simp only[cH];rw[US.qgI,D];have:decide (400<S.work+1)=true:=by simp;omega
      rw[this];exact US.qeG _ rfl _
     rw[this];exact q1W u next k S Q _ (by simp) r c (by omega) (by omega)
    case pos=>
     have hst:S.ev .step=S.st:=by
      rw[D];have:decide (400<S.work+1)=false:=by simp;omega
      rw[this,<-c];rfl
     have x2:S.run (cH s (n+1) (⟨a,b⟩::rest) u next)=S.st.run (sA (cH s n) s (aT s u a) (aT s u b) rest u next):=by simp only[cH];rw[US.qgI,hst]
     rw[x2];obtain⟨a1,a2,a3⟩:=F.a C;obtain⟨b1,b2,b3⟩:=F.b C;obtain⟨_,hx,g,X,rfl,cx⟩:=E7 s P.len u a I.1 I.2 a1 a2;obtain⟨_,hy,g',Y,rfl,cy⟩:=E7 s P.len u b I.1 I.2 b1 b2;have hE:Eqr s u S Q k a b (aT s u a) (aT s u b) g g' X Y:=⟨r,c,h2,hx,hy,cx,cy,by omega,by omega⟩;have M:=US.q3a hO c h2;have Z:402<=n+S.st.work:=by show 402<=n+(S.work+1);omega
     have hk:=q_len r;have hR:∀e,(Q.set k (some (rU s S.st))++e)[k]?=some (some (rU s S.st)):=fun e=>jq hk _ e
     have x1:∀l' u' next' e,G n l' u' next'->ak XV 248 [.ptr k 0,.d (be l'),.d (binds .sub u'),aa next'] (Q.set k (some (rU s S.st))++e)=some (.d (.tup []),Q.set k (some (rU s (S.st.run (cH s n l' u' next'))))++e):=fun l' u' next' e V=>by rw[ih l' u' next' S.st _ (hR e) V M (.inr Z),jv hk]
     unfold sA
     by_cases hc:(T.cmp (aT s u a) (aT s u b)==0)=true
     ·rw[ay hc]
      exact XD hE rest next _ (by omega) hc (by simp) fun e=>x1 _ _ _ e (F.same C)
     ·rw[aD hc]
      have hc:(T.cmp (aT s u a) (aT s u b)==0)=false:=by simpa using hc
      by_cases H:(aT s u a).f= -1
      ·rw[ay H]
       refine Yc hE rest next _ (by omega) hc H (by simp) fun e=> ?_
       rw[Kn P ih M Z (by omega) (fun h=>F.bindx C H h) _ (hR e),jv hk]
      ·rw[aD H]
       by_cases J:(aT s u b).f= -1
       ·rw[ay J]
        refine Uw hE rest next _ (by omega) hc H J (by simp) fun e=> ?_
        rw[Kn P ih M Z (by omega) (fun h=>F.bindy C H J h) _ (hR e),jv hk]
       ·rw[aD J]
        by_cases O:(aT s u a).f=(aT s u b).f
        case neg=>rw[ay O,US.qhY];exact Z8 hE rest next (by omega) hc H J O
        case pos=>
         rw[aD (fun h=>h O)];have c1:∀t:T,t.inner<=1000000000->t.kids.length<=1000000000/\∀q,q∈t.kids->q.inner<=1000000000:=fun t ht=>by obtain⟨f,v,ks⟩:=t;rw[T.qa0]at ht;exact⟨by have:=gA ks;simp only[T.qav];omega,fun q r=>by have:=eH (show q∈ks from r);omega⟩
         have h4:=c1 _ a3;have hxb:=c1 _ b3
         by_cases p:bn s (aT s u a).f=true
         ·rw[ay p]
          refine YA hE rest next _ (by omega) P hc H O p (by simp) fun e=> ?_
          have h3:=fun all ways m=>F.choose (rest:=rest) (next:=next) all ways m C O p
          clear hE hx hy cx cy;generalize hX:aT s u a=x at*
          generalize hY:aT s u b=y at*
          obtain⟨xf,xv,xk⟩:=x;obtain⟨yf,yv,yk⟩:=y;simp only[T.qaO,T.qav]at*
          subst O;rw[UV xf xv yv next xk yk rest u k S.st _ (cH s n) P (hR e) ⟨h1,h5⟩ (by omega) (by omega) (by omega) (fun q r=>by have:=h4.2 q r;omega) (fun q r=>by have:=hxb.2 q r;omega) (fun all ways m S' Q' x3 R K hf hrr hq' h99=>by
           have V:=h3 all ways m x3 R K hf h99;obtain⟨i,hS'⟩:=hrr;have c2:∀w,UEv.found w∈(List.range i).flatMap (eK (cH s n) s xf all ways rest u next)->small w:=fun w hw=>by
            obtain⟨j,_,hj⟩:=tX.1 hw;unfold eK at hj;split at hj
            ·rename_i hfj
             split at hj
             ·simp at hj
             ·rename_i hj99
              exact O3 F n _ _ _ (h3 all ways j x3 R K hfj (by omega)) w hj
            ·simp at hj
           have hO':S'.Ok:=by rw[hS'];exact US.Ok.run M c2
           have hw':402<=n+S'.work:=by have:=(US.qnN ((List.range i).flatMap (eK (cH s n) s xf all ways rest u next)) S.st).1;rw[<-hS']at this;omega
           exact ih _ _ _ S' Q' hq' V hO' (.inr hw')),jv hk]
         ·rw[aD p]
          have p:bn s (aT s u a).f=false:=by simpa using p
          exact qN3 hE rest next _ (by omega) P hc H O p (F.arity C H O p) h4.1 (by simp) fun e=>x1 _ _ _ e (F.pairs C H O p)
end
end Go.Proofs.YtpcoohnjllclnaaGreat.VS
