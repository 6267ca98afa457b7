/- Contracts of the program's functions on the evaluator without names, and plain lemmas: part 6. -/
import Derived.Test.YtpcoohnjllclnaaGreatXP5
set_option linter.unusedSimpArgs false
set_option linter.unusedVariables false
namespace Go.Proofs.YtpcoohnjllclnaaGreat.VS
variable{S:US}{u:aF}{t:T}{v next:Int}{k:Nat}
section
variable {s:aD} {G:Nat->bh->aF->Int->Prop}
def FB(s:aD)(G:Nat->bh->aF->Int->Prop)(k n:Nat):Prop:=
 ∀(l:bh) (u:aF) (next:Int) (S:US) (Q:az),Q[k]?=some (some (uB s S))->G n l u next->S.Ok->(S.over=true\/402<=n+S.work)->
  aj XV 263 [.ptr k 0,.d (bf l),.d (binds .sub u),aa next] Q=some (.d (.tup []),Q.set k (some (uB s (S.run (cN s n l u next)))))
theorem Kp(j:SgOk s){n:Nat}(w:FB s G k n){rest:bh}(q:S.Ok)(C:S.over=false)(z:402<=n+S.work)(p:t.inner<=1099511627776)
 (r:¬0<cnt t v->SubFit s u v t/\(ez s (bB s u v t)=true->G n rest (bB s u v t) next)) (R:az) (c:R[k]?=some (some (uB s S))):
 aj XV 267 [.ptr k 0,aa v,.d (t.enc .sub),.d (bf rest),.d (binds .sub u),aa next] R=some (.d (.tup []),R.set k (some (uB s (S.run (oU (cN s n) s v t rest u next))))):=by
 unfold oU
 by_cases hc:0<cnt t v
 ·rw[ay hc,US.qh4,lp c]
  exact qO6 v next t rest u k R (q_len c) p hc
 ·rw[aC hc]
  obtain⟨m,o⟩:=r hc;cases i:ez s (bB s u v t)with
  |false=>
   have h:S.run [.bad]=S.bad:=by show S.ev .bad=_;unfold US.ev;rw[C];rfl
   simp only[bg,if_false];rw[h];exact qKT v next t rest u k S R j c m hc i
  |true=>
   simp only[if_true];refine VJ v next t rest u k S R _ j c m hc i (by simp) fun e=> ?_
   rw[w rest _ next S (R++e) (dv c e) (o i) q (.inr z),gn c]
theorem US.q3v(h:S.Ok)(c:S.over=false)(d:S.work+1<=400):S.st.Ok:=⟨h.t,h.l,fun _=>⟨(h.o c).1,d⟩⟩
theorem Jg(O:SgOk s)(F:Safe s G):∀n,FB s G k n
 |0=>fun l u next S Q r C hO hn=>by
  have ho:S.over=true:=by
   rcases hn with h|h
   ·exact h
   ·cases c:S.over with
    |true=>rfl
    |false=>have:=(hO.o c).2;omega
  rw[US.qeM S ho,lp r];exact KZ u next k S Q l r ho
 |n+1=>fun l u next S Q r C hO hn=>by
  have ih:FB s G k n:=Jg O F n;cases c:S.over with
  |true=>rw[US.qeM S c,lp r];exact KZ u next k S Q l r c
  |false=>
   have hn:402<=n+1+S.work:=by rcases hn with h|h;(·rw[c]at h;cases h);exact h
   obtain⟨h60,h400⟩:=hO.o c;obtain⟨z,K,hul,h4,hnx1⟩:=F.len C
   match l,C,z with
   | [],C,z=>show _=some (AV.d (.tup []),Q.set k (some (uB s (S.ev (.found u)))));exact We u next k S Q r c h60 hO.t K
   |⟨a,b⟩::rest,C,z=>
    have hrl:rest.length<=10000000:=by simp only[c7]at z;omega
    have D:S.ev .step={S with work:=S.work+1,over:=decide (400<S.work+1)}:=by unfold US.ev;rw[c];rfl
    by_cases hwk:S.work+1<=400
    case neg=>
     have:S.run (cN s (n+1) (⟨a,b⟩::rest) u next)={S with work:=S.work+1,over:=true}:=by
      simp only[cN];rw[US.qgO,D];have:decide (400<S.work+1)=true:=by simp;omega
      rw[this];exact US.qeM _ rfl _
     rw[this];exact qFh u next k S Q _ (by simp) r c (by omega) (by omega)
    case pos=>
     have hst:S.ev .step=S.st:=by
      rw[D];have:decide (400<S.work+1)=false:=by simp;omega
      rw[this,<-c];rfl
     have x1:S.run (cN s (n+1) (⟨a,b⟩::rest) u next)=S.st.run (tS (cN s n) s (aT s u a) (aT s u b) rest u next):=by simp only[cN];rw[US.qgO,hst]
     rw[x1];obtain⟨a1,a2,a3⟩:=F.a C;obtain⟨b1,b2,b3⟩:=F.b C;have hE:Eqs s u S Q k a b (aT s u a) (aT s u b):=⟨r,c,hwk,Fe s O.len u a K.1 K.2 a1 a2,Fe s O.len u b K.1 K.2 b1 b2,by omega,by omega⟩;have P:=US.q3v hO c hwk;have V:S.st.over=false:=c;have Z:402<=n+S.st.work:=by show 402<=n+(S.work+1);omega
     have hk:=q_len r;have hR:∀e,(Q.set k (some (uB s S.st))++e)[k]?=some (some (uB s S.st)):=fun e=>jk hk _ e
     have h5:∀l' u' next' e,G n l' u' next'->aj XV 263 [.ptr k 0,.d (bf l'),.d (binds .sub u'),aa next'] (Q.set k (some (uB s S.st))++e)=some (.d (.tup []),Q.set k (some (uB s (S.st.run (cN s n l' u' next'))))++e):=fun l' u' next' e h1=>by rw[ih l' u' next' S.st _ (hR e) h1 P (.inr Z),jJ hk]
     unfold tS
     by_cases hc:(T.cmp (aT s u a) (aT s u b)==0)=true
     ·rw[ay hc]
      exact PL hE rest next _ (by omega) hc (by simp) fun e=>h5 _ _ _ e (F.same C)
     ·rw[aC hc]
      have hc:(T.cmp (aT s u a) (aT s u b)==0)=false:=by simpa using hc
      by_cases H:(aT s u a).f= -1
      ·rw[ay H]
       refine qv1 hE rest next _ (by omega) hc H (by simp) fun e=> ?_
       rw[Kp O ih P V Z (by omega) (fun h=>F.bindx C H h) _ (hR e),jJ hk]
      ·rw[aC H]
       by_cases I:(aT s u b).f= -1
       ·rw[ay I]
        refine TZ hE rest next _ (by omega) hc H I (by simp) fun e=> ?_
        rw[Kp O ih P V Z (by omega) (fun h=>F.bindy C H I h) _ (hR e),jJ hk]
       ·rw[aC I]
        by_cases M:(aT s u a).f=(aT s u b).f
        case neg=>rw[ay M,US.qh4];exact Xh hE rest next (by omega) O hc H I (.inl M)
        case pos=>
         rw[aC (fun h=>h M)];have h2:∀t:T,t.inner<=1000000000->t.kids.length<=1000000000/\∀q,q∈t.kids->q.inner<=1000000000:=fun t ht=>by obtain⟨f,v,ks⟩:=t;rw[T.qa1]at ht;exact⟨by have:=g8 ks;simp only[T.qav];omega,fun q r=>by have:=eS (show q∈ks from r);omega⟩
         have h3:=h2 _ a3;have hxb:=h2 _ b3
         by_cases p:br s (aT s u a).f=true
         ·rw[ay p]
          refine Qs hE rest next _ (by omega) O hc H M p (by simp) fun e=> ?_
          have x2:=fun all ways m=>F.choose (rest:=rest) (next:=next) all ways m C M p
          generalize hX:aT s u a=x at*
          generalize hY:aT s u b=y at*
          obtain⟨xf,xv,xk⟩:=x;obtain⟨yf,yv,yk⟩:=y;simp only[T.qaP,T.qav]at*
          subst M;rw[Y_ xf xv yv next xk yk rest u k S.st _ (cN s n) O (hR e) V ⟨h4,hnx1⟩ (by omega) (by omega) (by omega) (fun q r=>by have:=h3.2 q r;omega) (fun q r=>by have:=hxb.2 q r;omega) (fun all ways m S' Q' x3 R J hf hrr ho' hq' h99=>by
           have h1:=x2 all ways m x3 R J hf h99;obtain⟨i,c2⟩:=hrr;have c1:∀w,UEv.found w∈(List.range i).flatMap (eW (cN s n) s xf all ways rest u next)->small w:=fun w hw=>by
            obtain⟨j,_,hj⟩:=tX.1 hw;unfold eW at hj;split at hj
            ·rename_i hfj
             split at hj
             ·simp at hj
             ·rename_i hj99
              exact ML F n _ _ _ (x2 all ways j x3 R J hfj (by omega)) w hj
            ·simp at hj
           have hO':S'.Ok:=by rw[c2];exact US.Ok.run P c1
           have hw':402<=n+S'.work:=by have:=(US.qnV ((List.range i).flatMap (eW (cN s n) s xf all ways rest u next)) S.st).1;rw[<-c2]at this;omega
           exact ih _ _ _ S' Q' hq' h1 hO' (.inr hw')),jJ hk]
         ·rw[aC p]
          have p:br s (aT s u a).f=false:=by simpa using p
          exact qvY hE rest next _ (by omega) O hc H M p (F.arity C H M p) h3.1 (by simp) fun e=>h5 _ _ _ e (F.pairs C H M p)
end
mutual
def T.nodes:T->ah
 | .node f v ks=> .node f v ks::T.nodess ks
def T.nodess:ah->ah
 | []=>[]
 |t::r=>t.nodes++T.nodess r
end
mutual
theorem KY{σ:Type}(e:T->σ->σ):∀(t:T) (s:σ),T.fold e t s=t.nodes.foldl (fun s x=>e x s) s
 | .node f v ks,s=>by simp only[T.fold,T.nodes,jv];exact JW e ks _
theorem JW{σ:Type}(e:T->σ->σ):∀(l:ah) (s:σ),T.folds e l s=(T.nodess l).foldl (fun s x=>e x s) s
 | [],s=>by simp[T.folds,T.nodess]
 |t::r,s=>by simp only[T.folds,T.nodess,xO];rw[KY e t s];exact JW e r _
end
mutual
theorem yu(w:T->Int):∀t:T,T.sum w t=(t.nodes.map w).sum
 | .node f v ks=>by simp only[T.sum,T.nodes,bF,nP,MP w ks]
theorem MP(w:T->Int):∀l:ah,T.sums w l=((T.nodess l).map w).sum
 | []=>by simp[T.sums,T.nodess]
 |t::r=>by simp only[T.sums,T.nodess,cL,List.sum_append,yu w t,MP w r]
end
theorem X6(l:ax)(n x:Int):x∈cv l n↔x=n\/x∈l:=by
 unfold cv;split
 ·rename_i h
  rw[Ey]at h;constructor
  ·exact fun hx=> .inr hx
  ·rintro(rfl|hx)
   ·exact h
   ·exact hx
 ·have e:l=l.take (lz l n)++l.drop (lz l n):=(dJ _ _).symm
  constructor
  ·intro hx
   simp only[bw,cE]at hx;rcases hx with hx|hx|hx
   ·exact .inr (pT hx)
   ·exact .inl hx
   ·exact .inr (O4 hx)
  ·intro hx
   simp only[bw,cE];rcases hx with hx|hx
   ·exact .inr (.inl hx)
   ·rw[e]at hx
    rcases bw.1 hx with h|h
    ·exact .inl h
    ·exact .inr (.inr h)
theorem JK:∀(l:ah) (s:ax) (n:Int),n∈l.foldl (fun s x=>eV x s) s↔n∈s\/∃x,x∈l/\x.f= -1/\x.v=n
 | [],s,n=>by simp
 |x::l,s,n=>by
  rw[jv,JK l];unfold eV
  by_cases h:x.f= -1
  ·rw[ay h,X6]
   constructor
   ·rintro((rfl|c)|⟨y,c,d⟩)
    ·exact .inr ⟨x,by simp,h,rfl⟩
    ·exact .inl c
    ·exact .inr ⟨y,by simp[c],d⟩
   ·rintro(c|⟨y,c,d,e⟩)
    ·exact .inl (.inr c)
    ·rcases cE.1 c with rfl|c
     ·exact .inl (.inl e.symm)
     ·exact .inr ⟨y,c,d,e⟩
  ·rw[aC h]
   constructor
   ·rintro(c|⟨y,c,d⟩)
    ·exact .inl c
    ·exact .inr ⟨y,by simp[c],d⟩
   ·rintro(c|⟨y,c,d,e⟩)
    ·exact .inl c
    ·rcases cE.1 c with rfl|c
     ·exact absurd d h
     ·exact .inr ⟨y,c,d,e⟩
theorem PP(t:T)(n:Int):n∈dj t↔∃x,x∈t.nodes/\x.f= -1/\x.v=n:=by unfold dj;rw[KY,JK];simp
theorem Lq{l:ah}{w w':T->Int}(h:∀x,x∈l->w x<=w' x):(l.map w).sum<=(l.map w').sum:=by
 induction l with
 |nil=>simp
 |cons x l c=>
  simp only[bF,nP];have:=h x (by simp);have:=c fun y hy=>h y (by simp[hy])
  omega
theorem LH(n:Int)(x:T):0<=wC n x:=by unfold wC;split<;>omega
theorem G7{α:Type}:∀l:List α,(l.map fun _=>(0:Int)).sum=0
 | []=>rfl
 |a::l=>by simp only[bF,nP,G7 l];omega
theorem Jk{l:ah}{w:T->Int}(h:∀x,x∈l->0<=w x):0<=(l.map w).sum:=by have:=Lq (l:=l) (w:=fun _=>0) (w':=w) h;have e:=G7 l;omega
theorem TY(t:T)(l:ax)(d:l.Pairwise (·<·)):(l.map fun n=>T.sum (wC n) t).sum<=T.sum (fun _=>1) t:=by
 have e:∀l:ax,(l.map fun n=>T.sum (wC n) t).sum=(t.nodes.map fun x=>(l.map fun n=>wC n x).sum).sum:=by
  intro l
  induction l with
  |nil=>simp only[bT,List.sum_nil];exact(G7 _).symm
  |cons n l c=>
   have h:∀N:ah,(N.map (wC n)).sum+(N.map fun x=>(l.map fun n=>wC n x).sum).sum=(N.map fun x=>wC n x+(l.map fun n=>wC n x).sum).sum:=by
    intro N
    induction N with
    |nil=>rfl
    |cons a N c=>simp only[bF,nP];omega
   simp only[bF,nP,c];rw[<-h,yu]
 rw[e,yu];refine Lq fun x _=> ?_
 have i:∀l:ax,x.v∉l->(l.map fun n=>wC n x).sum=0:=by
  intro l
  induction l with
  |nil=>intro _;rfl
  |cons n l c=>intro hx;simp only[cE,not_or]at hx;simp only[bF,nP,c hx.2];unfold wC;rw[aC (fun h=>hx.1 h.2)];omega
 induction l with
 |nil=>simp
 |cons n l c=>
  rw[nX]at d;simp only[bF,nP]
  by_cases m:x.v=n
  ·have o:x.v∉l:=fun j=>by have:=d.1 _ j;omega
   rw[i l o];unfold wC;split<;>omega
  ·have:=c d.2
   have p:wC n x=0:=by unfold wC;rw[aC (fun h=>m h.2)]
   omega
mutual
def T.nf(s:aD):T->Prop
 | .node f v ks=>T.nfs s ks/\(br s f=true->(∀k,k∈ks->k.f≠f)/\b0 ks)
def T.nfs(s:aD):ah->Prop
 | []=>True
 |t::r=>t.nf s/\T.nfs s r
end
theorem T.qnX(s:aD):∀l:ah,T.nfs s l↔∀t,t∈l->t.nf s
 | []=>by simp[T.nfs]
 |t::r=>by simp[T.nfs,T.qnX s r]
theorem ID(s:aD)(f:Int)(l:ah)(t:T):t∈flatK s f l↔∃k,k∈l/\t∈dw s f k:=by unfold flatK;simp
theorem JV(s:aD)(f:Int):∀l:ah,(∀k,k∈l->k.f≠f)->flatK s f l=l
 | [],_=>rfl
 |k::l,h=>by
  rw[lh,JV s f l (fun x hx=>h x (by simp[hx]))];have c:(k.f==f)=false:=by simpa using h k (by simp)
  simp[dw,c]
mutual
theorem JR(s:aD):∀t:T,(t.norm s).nf s
 | .node f v ks=>by
  have n:=Oq s ks;rw[T.qnX]at n;simp only[T.norm,T.nf]
  by_cases j:br s f=true
  ·simp only[j,if_true]
   have p:∀e,e∈flatK s f (T.norms s ks)->e.nf s/\e.f≠f:=fun e i=>by
    obtain⟨k,q,c⟩:=(ID s f _ e).1 i;have m:=n k q;unfold dw at c
    by_cases d:k.f=f
    ·have:(br s f&&k.f==f)=true:=by simp[j,d]
     rw[ay this]at c;obtain⟨r,v',o⟩:=k;simp only[T.qaP]at d;subst d;simp only[T.nf,T.qav]at m c;exact⟨(T.qnX s o).1 m.1 e c,(m.2 j).1 e c⟩
    ·have:(br s f&&k.f==f)=false:=by simp[d]
     rw[this]at c;simp at c;subst c
     exact⟨m,d⟩
   refine⟨?_,fun _=>⟨fun e i=>(p e ((kM _).mem_iff.1 i)).2,FO _⟩⟩;rw[T.qnX];exact fun e i=>(p e ((kM _).mem_iff.1 i)).1
  ·simp only[j,bg,if_false]
   refine⟨?_,fun h=>absurd h id⟩;rw[T.qnX,nm s f j];exact n
theorem Oq(s:aD):∀l:ah,T.nfs s (T.norms s l)
 | []=>by simp[T.norms,T.nfs]
 |t::r=>by simp only[T.norms,T.nfs];exact⟨JR s t,Oq s r⟩
end
mutual
theorem Im(s:aD):∀t:T,t.nf s->t.norm s=t
 | .node f v ks,h=>by
  simp only[T.nf]at h;simp only[T.norm,JQ s ks h.1]
  by_cases c:br s f=true
  ·obtain⟨d,e⟩:=h.2 c
   simp only[c,if_true];rw[JV s f ks d,<-IL (kt ks) e]
  ·simp only[c,bg,if_false]
   rw[nm s f c]
theorem JQ(s:aD):∀l:ah,T.nfs s l->T.norms s l=l
 | [],_=>by simp[T.norms]
 |t::r,h=>by simp only[T.norms];rw[Im s t h.1,JQ s r h.2]
end
theorem qIP(s:aD)(t:T):(t.norm s).norm s=t.norm s:=Im s _ (JR s t)
theorem OU:∀l:ah,(∀i,0<i->i<l.length->¬T.cmp (ai l i) (ai l (i-1))<0)->b0 l
 | [],_=>AO
 | [a],_=>ru _ _
 |a::b::r,h=>by
  have m:=OU (b::r) (fun i d hi=>by
   have:=h (i+1) (by omega) (by simpa using hi);have e:∀j,ai (a::b::r) (j+1)=ai (b::r) j:=fun j=>by simp[ai]
   rw[e i,show i+1-1=(i-1)+1 by omega,e (i-1)]at this;exact this)
  have d:=h 1 (by omega) (by simp);simp only[ai,Cj,pz,qB,mO]at d;have c:cZ a b:=si d;refine nX.2 ⟨fun y hy=> ?_,m⟩;rcases cE.1 hy with rfl|hy
  ·exact c
  ·exact vI c ((nX.1 m).1 y hy)
variable{f:Int}
theorem Mj{l:aD}(h:br l f=true):(aX l f.toNat).ac=true:=by unfold br at h;simp only[cd]at h;exact h.2
theorem q_(q:Nat->Bool)(n:Nat)(h:(aR q n 0).isNone=true):∀i,i<n->q i=false:=fun i hi=>by have:=(y9 q n 0).2 (by simpa using h) i (by omega) (by omega);exact this
mutual
theorem J6(l:aD):∀t:T,T.form l t=true->t.nf l
 | .node f v ks,h=>by
  simp only[T.form]at h;simp only[T.nf]
  by_cases m:f= -1
  ·rw[ay m]at h
   have e:ks=[]:=by simp only[cd,cB]at h;exact kp h.2
   subst e;exact⟨trivial,fun _=>⟨fun k e=>by simp at e,AO⟩⟩
  ·rw[aC m]at h
   split at h
   ·simp at h
   ·have o:=q_ _ _ h
    have d:∀i,i<ks.length->T.form l (ai ks i)=true/\dh l f ks i=false:=fun i hi=>by have:=o i hi;rw[T.qsf l ks i hi]at this;simpa using this
    refine⟨LI l ks (fun i hi=>(d i hi).1),fun j=>⟨fun k e=> ?_,OU ks fun i p hi=> ?_⟩⟩
    ·obtain⟨i,hi,rfl⟩:=mT e
     have c:=(d i hi).2;rw[aZ hi];unfold dh at c;rw[ay (Mj j)]at c;intro n;rw[ay n]at c;simp at c
    ·have c:=(d i hi).2
     unfold dh at c;rw[ay (Mj j)]at c;split at c
     ·simp at c
     ·rw[aC (by omega)]at c
      simpa using c
theorem LI(l:aD):∀ks:ah,(∀i,i<ks.length->T.form l (ai ks i)=true)->T.nfs l ks
 | [],_=>trivial
 |t::r,h=>⟨J6 l t (by have:=h 0 (by simp);simpa[ai]using this),LI l r fun i hi=>by have:=h (i+1) (by simpa using hi);simpa[ai]using this⟩
end
theorem qvJ(l:aD)(t:T)(h:cq l t=true):t.norm l=t:=by unfold cq at h;simp only[cd]at h;exact Im l t (J6 l t h.2.2)
variable{a:ah}
theorem qCb(s:aD)(f:Int){b:ah}(h:a.Perm b):(flatK s f a).Perm (flatK s f b):=by
 induction h with
 |nil=>exact .refl _
 |cons x _ e=>rw[lh,lh];exact e.append_left _
 |swap x y l=>rw[lh,lh,lh,lh,<-bX,<-bX];exact yt.append_right _
 |trans _ _ c d=>exact c.trans d
theorem OC{b:ah}(h:a.Perm b):dL a=dL b:=IL ((kM a).trans h) (FO a)
variable{s:aD}
theorem Yd(h:br s f=true):dz s f=true:=by unfold br at h;simp only[cd]at h;exact h.1
def Gl.good(s:aD)(g:Gl):Prop:=bJ g.ts<=1000/\(∀x,x∈g.ts->JN x=false/\T.form s x=true)/\(∀x,x∈g.ps->T.form s x=true)/\(g.many=true->g.ts.length<=12/\br s g.f=true/\(∀x,x∈g.ts->x.f≠g.f)/\∀x,x∈g.ps->x.f≠g.f)/\(g.many=false->∃p t,g.ps=[p]/\g.ts=[t])
structure Inv(s:aD)(gl:List Gl)(u:aF):Prop where
 g:∀g,g∈gl->g.good s
 b:∀b,b∈u->b.t.inner<=1000/\b.t.nf s
 m:u.length+QL gl<=1000000
theorem Inv.small{gl:List Gl}(h:Inv s gl u):small u:=⟨by have:=h.m;omega,fun i hi=>by have:=(h.b _ (iK hi)).1;omega⟩
theorem F8{ks:ah}(h:T.form s (.node f v ks)=true)(c:f≠-1):i_ s f v ks.length=false/\∀k,k∈ks->T.form s k=true:=by
 cases hb:i_ s f v ks.length with
 |true=>simp[T.form,c,hb]at h
 |false=>
  refine⟨rfl,fun k d=> ?_⟩;rw[Kw s f v ks c hb]at h;obtain⟨i,hi,rfl⟩:=mT d;rw[aZ hi];cases hq:T.form s (ai ks i)with
  |true=>rfl
  |false=>have:=(Z2 (fun i=> !T.form s (ai ks i)||dh s f ks i) ks.length 0).2 ⟨i,c8 _,by omega,by simp[hq]⟩;rw[OF]at h;rw[h]at this;cases this
structure MS.good(S:MS):Prop where
 o:S.over=decide (20000<S.steps)
 n:S.steps<=20001
 l:S.ways.length<=61
 w:∀w,w∈S.ways->small w
theorem MS.good.ev{S:MS}(h:S.good)(e:Option aF)(m:∀w,e=some w->small w):(S.ev e).good:=by
 have d:=S.q3x e h.l;unfold MS.ev at d⊢
 split
 ·exact h
 ·rename_i i
  rw[aC i]at d;cases e with
  |none=>
   refine⟨rfl,?_,h.l,h.w⟩;have p:=h.o;unfold MS.done at i;simp only[jr,cB,not_or]at i;have r:¬20000<S.steps:=fun q=>i.1 (by rw[p];simpa using q)
   simp only;omega
  |some u=>
   simp only at d⊢
   split
   ·exact h
   ·rename_i j
    rw[aC j]at d;refine⟨h.o,h.n,d,fun w c=> ?_⟩;simp only[bw,fS]at c;rcases c with c|c
    ·exact h.w w c
    ·exact m w (by rw[c])
theorem MS.good.run:∀(es:List (Option aF)) {S:MS},S.good->(∀w,some w∈es->small w)->(S.run es).good
 | [],S,h,_=>h
 |e::es,S,h,d=>MS.good.run es (S:=S.ev e) (h.ev e fun w c=>d w (by rw[c];exact jH ..)) fun w c=>d w (jn _ c)
mutual
theorem Mx(s:aD):∀t:T,T.form s t=true->∀x,x∈t.nodes->x.f= -1->0<=x.v/\x.v<=99
 | .node f v ks,h=>fun x hx d=>by
  simp only[T.nodes,cE]at hx
  by_cases e:f= -1
  ·have c:=h
   simp only[T.form]at c;rw[ay e]at c;simp only[cd,cB]at c;have i:ks=[]:=kp c.2;subst i;simp only[T.nodess,List.not_mem_nil,or_false]at hx;subst hx;have:=c.1;unfold b4 at this;simpa using this
  ·rcases hx with rfl|hx
   ·exact absurd d e
   ·exact KW s ks (fun q j=>(F8 h e).2 q j) x hx d
theorem KW(s:aD):∀ks:ah,(∀q,q∈ks->T.form s q=true)->∀x,x∈T.nodess ks->x.f= -1->0<=x.v/\x.v<=99
 | [],_=>fun x hx=>by simp[T.nodess]at hx
 |t::r,h=>fun x hx c=>by
  simp only[T.nodess,bw]at hx;rcases hx with hx|hx
  ·exact Mx s t (h t (by simp)) x hx c
  ·exact KW s r (fun q d=>h q (by simp[d])) x hx c
end
theorem so(h:cq s t=true){n:Int}(c:n∈dj t):0<=n/\n<=99:=by obtain⟨x,hx,d,rfl⟩:=(PP t n).1 c;unfold cq at h;simp only[cd]at h;exact Mx s t h.2.2 x hx d
theorem Gs(h:cq s t=true):(dj t).length<=61:=by
 unfold cq at h;simp only[cd,cB]at h;have:=D5 (I:=fun n (l:ax)=>l.length+n<=61) (e:=eV) (fun n l x c=>by have:=JG l x.v;simp only[eV];split<;>omega) t 0 [] (by simp;omega)
 exact this
def cz(n v:Int):Int:=if n<v+1 then v+1 else n
def jX(s:aD)(e:Eqn):Bool:=cq s e.a&&cq s e.b
def lW(n:Int)(e:Eqn):Int:=(dj e.a++dj e.b).foldl cz n
def lO(e:Eqn):aG:=[aa e.a.f,aa e.a.v,.d (ao .sub e.a.kids),aa e.b.f,aa e.b.v,.d (ao .sub e.b.kids)]
theorem FZ{n:Int}(c:0<=n/\n<=100)(d:0<=v/\v<=99):0<=cz n v/\cz n v<=100:=by unfold cz;split<;>omega
theorem B3:∀(vs:ax) (n:Int),(0<=n/\n<=100)->(∀v,v∈vs->0<=v/\v<=99)->0<=vs.foldl cz n/\vs.foldl cz n<=100
 | [],n,h,_=>h
 |v::r,n,h,c=>B3 r _ (FZ h (c v (by simp))) fun w d=>c w (by simp[d])
section
variable (s:aD) (l:bh)
def uO(n:Int)(i:Nat):aI:=[(0,.d (sg s)),(1,.d (bf l)),(6,aa n),(12,.d (bf l)),(13,aa l.length),(14,aa i)]
theorem qIT(i:Nat)(n:Int)(vs:ax)(e:Eqn)(C:∀v,v∈vs->0<=v/\v<=99)(D:0<=n/\n<=100)(F:vs.length<=1000000):
 bq XV (XV.lin 262) 1 [0,1,6,12,13,14,37,38,39] sy ⟨uO s l n i++[(37,.d (is vs)),(38,aa vs.length),(39,aa 0)],[some (lO e)]⟩=
  some (.exit 2,⟨uO s l (vs.foldl cz n) i++[(37,.d (is vs)),(38,aa vs.length),(39,aa vs.length),(40,au false)],[some (lO e)]⟩):=by
 have h:=dW (X:=XV) (T:=XV.lin 262) (L:=1) (live:=[0,1,6,12,13,14,37,38,39]) (b:=sy) (n:=vs.length) (γ:=Unit) (R:=fun _=>(.ret,⟨[],[]⟩)) (step:=fun a j=> .inl (cz a ((vs[j]?).getD 0)))
  (st:=fun(a:Int) j=>⟨uO s l a i++[(37,.d (is vs)),(38,aa vs.length),(39,aa j)],[some (lO e)]⟩) 2 40 (fun a _=>0<=a/\a<=100) n
  (fun a _=>by simp[sy,iQ,iE,iI,ip,iB,iU,iF,i9,iT,il,iv,ig,iH,iD,iA,ii,ij,iJ,uO])
  (fun a j o r=>by
   have q:=aV (n:=j) (by omega);have w:(vs[j]?).getD 0=vs[j]:=by simp[o]
   have p:=C _ (gB o);rw[w];have z:=FZ r p;generalize hx:vs[j]=x at*
   have m:IntKind.i64.wrap (x+1)=x+1:=wrap_i64 (by omega) (by omega);refine⟨⟨⟨uO s l (cz a x) i++[(37,.d (is vs)),(38,aa vs.length),(39,aa (j+1:Nat))],[some (lO e)]⟩,?_,by simp[uO,aA,aB]⟩,fun a' h=>by cases h;exact z⟩;unfold cz
   by_cases c:a<x+1
   ·simp[sy,iQ,iE,iI,ip,iB,iU,iF,i9,iT,il,iv,ig,iH,iD,iA,ii,ij,iJ,uO,o,q,m,hx,c,cut,splice]
   ·simp[sy,iQ,iE,iI,ip,iB,iU,iF,i9,iT,il,iv,ig,iH,iD,iA,ii,ij,iJ,uO,o,q,m,hx,c,cut,splice])
  D (by simp[uO,aA,aB])
 rw[C3 vs 0 cz vs.length 0 n (by omega)]at h;simpa[uO]using h
def qC(n:Int)(i:Nat):Int⊕XS:=if jX s (lX l i)then .inl (lW n (lX l i))else .inr ⟨[(4,.d (.sl U [])),(5,aa 1)],[some (lO (lX l i))]⟩
theorem Mz:∀(k i:Nat) (n:Int),i+k=l.length->((l.drop i).all (jX s)=true->runN (qC s l) k n i= .inl ((l.drop i).foldl lW n))/\((l.drop i).all (jX s)=false->∃e,runN (qC s l) k n i= .inr ⟨[(4,.d (.sl U [])),(5,aa 1)],[some (lO e)]⟩)
 |0,i,n,h=>by rw[oS (by omega)];exact⟨fun _=>rfl,fun h=>by cases h⟩
 |k+1,i,n,h=>by
  have j:i<l.length:=by omega
  have m:lX l i=l[i]:=by unfold lX;simp[j]
  rw[dS j];obtain⟨o,p⟩:=Mz k (i+1) (lW n l[i]) (by omega);simp only[fX,jv,runN,qC,m];cases c:jX s l[i]with
  |true=>simp only[eE,if_true];exact⟨o,p⟩
  |false=>exact⟨fun h=>by simp at h,fun _=>⟨l[i],by simp⟩⟩
def fP:Bool:=l.all (jX s)
def fy:Int:=l.foldl lW 0
def to:US:=(⟨[],0,false⟩:US).run (cN s 402 l [] (fy l))
def qH:List aF×Int:=if fP s l=true then(if(to s l).over=true then([],2)else((to s l).told,0))else([],1)
theorem T_{l:bh}{i:Nat}(h:i<l.length):∀h',l[i]'h'=lX l i:=fun h'=>by unfold lX;simp[h]
theorem TG(C:SgOk s)(V:l.length<=1000000)(P:∀e,e∈l->e.a.inner<=1099511627776/\e.b.inner<=1099511627776):
 bq XV (XV.lin 262) 0 [0,1,6,12,13,14] pI ⟨uO s l 0 0,[]⟩=some (match runN (qC s l) l.length 0 0 with| .inl n=>(.exit 0,⟨uO s l n l.length++[(15,au false)],[]⟩)| .inr x=>(.ret,x)):=by
 have h:=dW (X:=XV) (T:=XV.lin 262) (L:=0) (live:=[0,1,6,12,13,14]) (b:=pI) (n:=l.length) (γ:=XS) (R:=fun x=>(.ret,x)) (step:=qC s l)
  (st:=fun(a:Int) i=>⟨uO s l a i,[]⟩) 0 15 (fun a _=>0<=a/\a<=100) 0
  (fun a _=>by simp[pI,iQ,iE,iI,ip,iB,iU,iF,i9,iT,il,iv,ig,iH,iD,iA,ii,ij,iJ,uO])
  (fun a i hi H=>by
   have M:=aV (n:=i) (by omega);have K:lX l i∈l:=by unfold lX;simp[hi]
   obtain⟨F,I⟩:=P _ K;have q:=FM s C.len C.nam _ F;have z:=FM s C.len C.nam _ I;have v1:=N8 _ F;have v2:=N8 _ I;have D:=T_ hi;unfold qC jX;generalize lX l i=e at*
   obtain⟨⟨o,av,c⟩,⟨d,bv,p⟩⟩:=e;simp only at*
   cases c1:cq s (.node o av c)with
   |false=>simp only[re,bg,if_false];rw[c1]at q;exact⟨⟨by simp,by simp[pI,iQ,iE,iI,ip,iB,iU,iF,i9,iT,il,iv,ig,iH,iD,iA,ii,ij,iJ,uO,hi,D,q,lO,cut,splice]⟩,fun a' h=>by cases h⟩
   |true=>
    cases c2:cq s (.node d bv p)with
    |false=>simp only[eE,bg,if_false];rw[c1]at q;rw[c2]at z;exact⟨⟨by simp,by simp[pI,iQ,iE,iI,ip,iB,iU,iF,i9,iT,il,iv,ig,iH,iD,iA,ii,ij,iJ,uO,hi,D,q,z,lO,cut,splice]⟩,fun a' h=>by cases h⟩
    |true=>
     rw[c1]at q;rw[c2]at z;have u1:=Gs c1;have Z:=Gs c2;have j:∀v,v∈dj (.node o av c)++dj (.node d bv p)->0<=v/\v<=99:=fun v j=>by
      rcases bw.1 j with j|j
      ·exact so c1 j
      ·exact so c2 j
     have O:=B3 _ a H j;have w:=M_ .sub .sub .sub (dj (.node o av c)) (dj (.node d bv p)) [] (by omega);have r:=qIT s l i a (dj (.node o av c)++dj (.node d bv p)) ⟨.node o av c,.node d bv p⟩ j H (by simp;omega);simp only[eE,if_true,lW];refine⟨⟨⟨uO s l ((dj (.node o av c)++dj (.node d bv p)).foldl cz a) (i+1),[some (lO ⟨.node o av c,.node d bv p⟩)]⟩,?_,by simp[uO,aA,aB]⟩,fun a' h=>by cases h;exact O⟩;generalize dj (.node o av c)=va at*
     generalize dj (.node d bv p)=vb at*
     simp only[Ie,uO,lO,c9,co,T.qaP,T.qbz,T.qav]at r w⊢
     generalize J:va++vb=vs at*
     generalize vs.foldl cz a=m at*
     simp[pI,iQ,iE,iI,ip,iB,iU,iF,i9,iT,il,iv,ig,iH,iD,iA,ii,ij,iJ,hi,D,q,z,v1,v2,w,cut,splice];rw[r];simp[pI,iQ,iE,iI,ip,iB,iU,iF,i9,iT,il,iv,ig,iH,iD,iA,ii,ij,iJ,M])
  ⟨by omega,by omega⟩ (by simp[uO,aA,aB])
 rw[h];cases runN (qC s l) l.length 0 0<;>rfl
theorem Ss{G:Nat->bh->aF->Int->Prop}(m:SgOk s)(z:l.length<=1000000)(C:∀e,e∈l->e.a.inner<=1099511627776/\e.b.inner<=1099511627776)(w:Safe s G)(q:fP s l=true->G 402 l [] (fy l)):
 aj XV 262 [.d (sg s),.d (bf l)] []=some (.d (.tup [dI (qH s l).1,.int .i64 (qH s l).2]),[]):=by
 rw[aK 262 pd rfl];have h:=TG s l m z C;obtain⟨j,i⟩:=Mz s l l.length 0 0 (by omega);rw[eQ]at j i;unfold qH fP;cases c:l.all (jX s)with
 |false=>obtain⟨e,o⟩:=i c;rw[o]at h;simp only[Ie,uO,bf,dC]at h;simp[pd,iQ,iE,iI,ip,iB,iU,iF,i9,iT,il,iv,ig,iH,iD,iA,ii,ij,iJ,splice];rw[h];simp[pd,iQ,iE,iI,ip,iB,iU,iF,i9,iT,il,iv,ig,iH,iD,iA,ii,ij,iJ]
 |true=>
  rw[j c]at h;have p:=q c;have hx:=Jg (k:=0) m w 402 l [] (fy l) ⟨[],0,false⟩ [some (uB s ⟨[],0,false⟩)] rfl p ⟨nofun,c8 _,fun _=>⟨c8 _,c8 _⟩⟩ (.inr (by show 402<=402+0;omega));have r:(US.run ⟨[],0,false⟩ (cN s 402 l [] (fy l)))=to s l:=rfl;have D:l.foldl lW 0=fy l:=rfl;rw[r]at hx;rw[D]at h;generalize to s l=S at*
  generalize fy l=n at*
  obtain⟨told,work,over⟩:=S;simp only[uB,dI,bT,binds]at hx⊢
  simp only[Ie,uO,bf,dC,c9,co]at h hx;simp[pd,iQ,iE,iI,ip,iB,iU,iF,i9,iT,il,iv,ig,iH,iD,iA,ii,ij,iJ,splice];rw[h];cases over with
  |true=>simp[pd,iQ,iE,iI,ip,iB,iU,iF,i9,iT,il,iv,ig,iH,iD,iA,ii,ij,iJ,hx,splice]
  |false=>simp[pd,iQ,iE,iI,ip,iB,iU,iF,i9,iT,il,iv,ig,iH,iD,iA,ii,ij,iJ,hx,splice]
end
def xW(a:(ah×ah)×Tag)(t:T):(ah×ah)×Tag:=(eF a.1 t,match aR (dM a.1.2 t) a.1.2.length 0 with|some _=>U|none=>a.2)
theorem Gr:∀(l:ah) (a:ah×ah) (g:Tag),(l.foldl xW (a,g)).1=l.foldl eF a
 | [],_,_=>rfl
 |t::l,a,g=>Gr l _ _
theorem RG(x y:ah)(hx:x.length<=1099511627776)(hy:y.length<=1099511627776)(bx:∀t,t∈x->t.inner<=1099511627776)(o:∀t,t∈y->t.inner<=1099511627776):
 ∃g,aj XV 254 [.d (ao .sub x),.d (ao .sub y)] []=some (.d (.tup [.sl U ((bW x y).1.map (T.enc .sub)),.sl g ((bW x y).2.map (T.enc .sub))]),[]):=by
 refine⟨(x.foldl xW (([],y),.sub)).2,?_⟩;rw[aK 254 wX rfl];have h:=dW (X:=XV) (T:=XV.lin 254) (L:=0) (live:=[0,6,7,8]) (b:=xg) (n:=x.length) (γ:=Unit) (R:=fun _=>(.ret,⟨[],[]⟩)) (step:=fun a i=> .inl (xW a (ai x i)))
  (st:=fun a i=>⟨[(0,.d (ao .sub x)),(6,.d (.sl U (a.1.1.map (T.enc .sub)))),(7,.d (.sl a.2 (a.1.2.map (T.enc .sub)))),(8,aa i)],[]⟩) 0 15
  (fun a i=>a.1.1.length<=i/\a.1.2.length<=1099511627776/\∀t,t∈a.1.2->t.inner<=1099511627776) (([],y),.sub)
  (fun a _=>by simp[xg,t6,rD,uo,uN,se,sG,uR,rH,tH,rN,tD])
  (fun a i hi e=>by
   obtain⟨K,m,w⟩:=e;have z:=aV (n:=i) (by omega);have H:=bx _ (bM hi);have c:=aZ hi;have hc:=M8 a.1.2 (ai x i) m w H;have C:=y8 a.1.1 (ai x i) (by omega);generalize ai x i=t at*
   obtain⟨I,D,J⟩:=t;obtain⟨⟨M,r⟩,g⟩:=a;simp only[xW,eF]at*
   cases hf:aR (dM r (.node I D J)) r.length 0 with
   |some j=>
    rw[hf]at hc;obtain⟨_,O,_⟩:=dy _ _ _ _ hf;have q:=Y8 r j (by omega) m;have p:¬((j:Int)<0):=by omega
    refine⟨⟨_,by simp[xg,t6,rD,uo,uN,se,sG,uR,rH,tH,rN,tD,hi,z,cut,c,hc,q,bC,p,splice];rfl,by simp[aA,aB]⟩,fun a' h=> ?_⟩;simp only[j5]at h;subst h;exact⟨by simp only;omega,eG Ed m,fun t F=>w t (AF F)⟩
   |none=>rw[hf]at hc;refine⟨⟨_,by simp[xg,t6,rD,uo,uN,se,sG,uR,rH,tH,rN,tD,hi,z,cut,c,hc,C,bC,splice];rfl,by simp[aA,aB]⟩,fun a' h=> ?_⟩;simp only[j5]at h;subst h;exact⟨by simp;omega,m,w⟩)
  ⟨by simp,hy,o⟩ (by simp[aA,aB])
 rw[xm x xW]at h;simp only[qUR,bT,dC,eQ,Gr]at h;simp[wX,t6,rD,uo,uN,se,sG,uR,rH,tH,rN,tD];rw[h];simp[wX,t6,rD,uo,uN,se,sG,uR,rH,tH,rN,tD,bW,Gr]
theorem LM(x:ah)(hx:x.length<=1099511627776)(bx:∀t,t∈x->t.inner<=1099511627776):
 aj XV 255 [.d (ao .sub x)] []=some (.d (.tup [.sl U ((bz x).1.map (T.enc .sub)),ints U (bz x).2]),[]):=by
 rw[I_ XV _ _ _ sL rfl TK rfl (m:=0) (by kernel_rfl) rfl];have h:=dW (X:=XV) (T:=XV.lin 255) (L:=0) (live:=[0,4,5,6]) (b:=w9) (n:=x.length) (γ:=Unit) (R:=fun _=>(.ret,⟨[],[]⟩)) (step:=fun a i=> .inl (cntF a (ai x i)))
  (st:=fun a i=>⟨[(0,.d (ao .sub x)),(4,.d (.sl U (a.1.map (T.enc .sub)))),(5,.d (.sl U (a.2.map (.int .i64)))),(6,aa i)],[]⟩) 0 13
  (fun a i=>a.1.length<=i/\a.2.length=a.1.length/\(∀t,t∈a.1->t.inner<=1099511627776)/\∀j,0<=aE a.2 j/\aE a.2 j<=i) ([],[])
  (fun a _=>by simp[w9,sK,sE,uH,rL,tG,sF,tj,sY,rP,tY,uS,rA])
  (fun a i hi r=>by
   obtain⟨i1,M,D,K⟩:=r;have O:=aV (n:=i) (by omega);have P:=bx _ (bM hi);have o:=aZ hi;have F:=y8 a.1 (ai x i) (by omega);have p:=N2 a.2 1 (by omega);have hc:=M8 a.1 (ai x i) (by omega) D P;obtain⟨C,w⟩:=a;simp only[cntF]at*
   generalize ai x i=t at*
   obtain⟨Z,tv,tk⟩:=t;cases hf:aR (dM C (.node Z tv tk)) C.length 0 with
   |some j=>
    rw[hf]at hc;obtain⟨_,hj,_⟩:=dy _ _ _ _ hf;have c:j<w.length:=by omega
    have z:¬((j:Int)<0):=by omega
    have H:=bR c;have h1:=K j;have I:IntKind.i64.wrap (aE w j+1)=aE w j+1:=wrap_i64 (by omega) (by omega);have V:=w_ w;have J:=tJ V .sub C;refine⟨⟨_,by simp[w9,sK,sE,uH,rL,tG,sF,tj,sY,rP,tY,uS,rA,Om,rq,hi,O,cut,o,hc,bC,splice,z,c,H,I,V,J];rfl,by simp[aA,aB]⟩,fun a' h=> ?_⟩;simp only[j5]at h;subst h;refine⟨by simp only;omega,by simp only[rB];exact M,D,fun m=> ?_⟩;have:=K m;simp only[Lp];split<;>omega
   |none=>
    rw[hf]at hc;refine⟨⟨_,by simp[w9,sK,sE,uH,rL,tG,sF,tj,sY,rP,tY,uS,rA,hi,O,cut,o,hc,bC,F,p,splice];rfl,by simp[aA,aB]⟩,fun a' h=> ?_⟩;simp only[j5]at h;subst h;refine⟨by simp;omega,by simp;exact M,fun q e=> ?_,fun m=> ?_⟩
    ·rcases bw.1 e with e|e
     ·exact D q e
     ·rw[fS.1 e];exact P
    ·have:=K m
     simp only[LD];split<;>(try split)<;>omega)
  ⟨by simp,rfl,by simp,by simp[aE]⟩ (by simp[aA,aB])
 rw[xm]at h;simp only[Ut,bT,dC]at h;simp[sL,sK,sE,uH,rL,tG,sF,tj,sY,rP,tY,uS,rA];rw[h];simp[sL,sK,sE,uH,rL,tG,sF,tj,sY,rP,tY,uS,rA,bz]
theorem Xw(ways:List ax)(m:Nat)(I:ways.length<=30)(H:m<1099511627776):
 aj XV 256 [.d (aH .sub ways),aa m] []=some (.d (.sl U ((bc ways m ways.length).map (ints .sub))),[]):=by
 rw[aK 256 wm rfl];have h:=dW (X:=XV) (T:=XV.lin 256) (L:=0) (live:=[0,1,5,6]) (b:=wn) (n:=ways.length) (γ:=Unit) (R:=fun _=>(.ret,⟨[],[]⟩)) (step:=fun _ _=> .inl ())
  (st:=fun(_:Unit) i=>⟨[(0,.d (aH .sub ways)),(1,aa m),(5,.d (.sl U ((bc ways m i).map (ints .sub)))),(6,aa i)],[]⟩) 0 11 (fun _ _=>True) ()
  (fun _ _=>by simp[wn,uG,uV,uE,tV,sb,sJ,t8,rK])
  (fun _ i hi _=>by
   have p:=aV (n:=i) (by omega);have F:=wV ways m i;have D:=Pd (bc ways m i) (aP ways i) (by omega);have j:=Mr m i (by omega);have C:m/2^i<4611686018427387904:=Nat.lt_of_le_of_lt (Nat.div_le_self _ _) (by omega);have c:=and_one (m/2^i) C;have e:=Pq m i;generalize m/2^i=q at j c e;generalize q%2=r at c e;have o:=cQ hi;have w:bc ways m (i+1)=if m.testBit i then bc ways m i++[aP ways i]else bc ways m i:=rfl
   generalize aP ways i=row at*
   refine⟨?_,fun _ _=>trivial⟩
   by_cases z:m.testBit i=true
   ·rw[ay z]at w
    refine⟨⟨[(0,.d (aH .sub ways)),(1,aa m),(5,.d (.sl U ((bc ways m (i+1)).map (ints .sub)))),(6,aa (i+1:Nat))],[]⟩,?_,by simp[aA,aB]⟩;rw[w];generalize (bc ways m i++[row]).map (ints .sub)=L2 at*
    generalize (bc ways m i).map (ints .sub)=L1 at*
    simp only[JP]at D;simp[wn,uG,uV,uE,tV,sb,sJ,t8,rK,hi,p,cut,o,D,j,c,e,z,splice]
   ·rw[aC z]at w
    refine⟨⟨[(0,.d (aH .sub ways)),(1,aa m),(5,.d (.sl U ((bc ways m (i+1)).map (ints .sub)))),(6,aa (i+1:Nat))],[]⟩,?_,by simp[aA,aB]⟩;rw[w];simp[wn,uG,uV,uE,tV,sb,sJ,t8,rK,hi,p,cut,o,j,c,e,z,splice])
  trivial (by simp[aA,aB,bc])
 rw[dB]at h;simp only[WO,bc,bT,dC]at h;simp[wm,uG,uV,uE,tV,sb,sJ,t8,rK];rw[h];simp[wm,uG,uV,uE,tV,sb,sJ,t8,rK]
theorem Rz(all:ah)(ps:List ax)(H:1<=all.length/\all.length<=1000)(I:ps.length<=1000):
 aj XV 257 [.d (ao .sub all),.d (aH .sub ps)] []=some (au (pD all (dQ ps all.length)),[]):=by
 rw[aK 257 yj rfl];have p:=Yf ps all.length (by omega);have F:=Jt ps all.length H;unfold pD;generalize dQ ps all.length=sum at*
 have h:=dW (X:=XV) (T:=XV.lin 257) (L:=0) (live:=[0,5,6]) (b:=rj) (n:=all.length) (γ:=Nat) (R:=fun _=>(.ret,⟨[(4,au false)],[]⟩)) (step:=bH (lH all sum))
  (st:=fun(_:Unit) i=>⟨[(0,.d (ao .sub all)),(5,.d (is sum)),(6,aa i)],[]⟩) 0 14 (fun _ _=>True) ()
  (fun _ _=>by simp[rj,pL,oY,pi,pp,oz,oO,ot,oI])
  (fun _ i hi _=>by
   have D:=aV (n:=i) (by omega);have c:i<sum.length:=by omega
   refine⟨?_,fun _ _=>trivial⟩;have r:=bR c;have o:=aZ hi;unfold bH;have C:lH all sum i=(decide (aE sum i<1)||(decide (1<aE sum i)&& !((ai all i).f== -1))):=rfl;generalize lH all sum i=m at C;generalize aE sum i=z at*
   generalize ai all i=t at*
   obtain⟨f,v,ks⟩:=t;simp only[T.qaP]at C;subst C
   by_cases e:z<1
   ·simp only[e,decide_true,E1,if_true]
    exact⟨by simp,by simp[rj,pL,oY,pi,pp,oz,oO,ot,oI,hi,c,cut,r,e]⟩
   ·by_cases q:f= -1
    ·subst q
     simp only[e,decide_false,BEq.rfl,lR,wL,l6,bg,if_false];exact⟨_,by simp[rj,pL,oY,pi,pp,oz,oO,ot,oI,hi,c,D,cut,r,o,e];rfl,by simp[aA,aB]⟩
    ·have j:(f== -1)=false:=dV q
     have q:(f != -1)=true:=by simp[bne,j]
     by_cases w:1<z
     ·simp only[e,w,j,decide_false,decide_true,kX,uk,Bool.false_or,if_true]
      exact⟨by simp,by simp[rj,pL,oY,pi,pp,oz,oO,ot,oI,hi,c,cut,r,o,e,w,q]⟩
     ·simp only[e,w,j,decide_false,re,l6,bg,if_false]
      exact⟨_,by simp[rj,pL,oY,pi,pp,oz,oO,ot,oI,hi,c,D,cut,r,o,e,w,q];rfl,by simp[aA,aB]⟩)
  trivial (by simp[aA,aB])
 rw[cU]at h;simp only[UP,dC]at h;rw[F];simp[yj,pL,oY,pi,pp,oz,oO,ot,oI,p];rw[h];cases aR (lH all sum) all.length 0<;>simp[yj,pL,oY,pi,pp,oz,oO,ot,oI]
def sX(all:ah)(M:Nat->T)(G:Nat->Tag)(X:Nat->aw)(p:Nat):DV:= .agg [.int .i64 (ai all p).f,.int .i64 (ai all p).v,ao .sub (ai all p).kids,.int .i64 (M p).f,.int .i64 (M p).v,.sl (G p) (X p)]
theorem UT(xs:aw)(x:DV)(h:xs.length<=1099511627776)(c:∀y,y∈xs->y.cells.length=6)(hx:x.cells.length=6)(hc:x.cells.all DV.isCell=true):bU 6 80 (.sl U xs) (.sl U [x])=some (.sl U (xs++[x])):=by
 have d:xs.all (fun e=>decide (e.cells.length=6))=true:=by rw[cm];intro y hy;simpa using c y hy
 unfold bU;simp only;rw[ay (by simp[hx];simpa using hc)];simp only[ge,bg,if_false];rw[ay ⟨by simp;omega,trivial,d⟩]
def eZ(all:ah)(M:Nat->T)(G:Nat->Tag)(X:Nat->aw):Nat->aw
 |0=>[]
 |p+1=>eZ all M G X p++[sX all M G X p]
theorem Iu(all:ah)(M:Nat->T)(G:Nat->Tag)(X:Nat->aw):∀n,(eZ all M G X n).length=n
 |0=>rfl
 |n+1=>by simp[eZ,Iu all M G X n]
theorem IU(all:ah)(M:Nat->T)(G:Nat->Tag)(X:Nat->aw):∀n y,y∈eZ all M G X n->y.cells.length=6
 |0,y,h=>by simp[eZ]at h
 |n+1,y,h=>by
  rcases bw.1 h with h|h
  ·exact IU all M G X n y h
  ·rw[fS.1 h];rfl
section
variable (s:aD) (f next:Int) (all:ah) (ch:List ax) (k:Nat)
def vO(A:DV)(p:Nat):aI:=[(0,.ptr k 0),(1,aa f),(2,.d (ao .sub all)),(3,.d (aH .sub ch)),(4,aa next),(11,.d A),(12,aa p)]
theorem Yv(a:ah)(n:Int)(h:a.length<=1099511627776):bU 3 40 (.sl U (a.map (T.enc U))) (.sl U [(T.node (-1) n []).enc U])=some (.sl U ((a++[T.node (-1) n []]).map (T.enc U))):=by
 have c:(a.map (T.enc U)).all (fun e=>decide (e.cells.length=3))=true:=by
  rw[cm];intro y hy
  obtain⟨z,_,rfl⟩:=cC.1 hy;simp
 unfold bU;simp only;rw[ay (by rw[T.qb8];rfl)];simp only[ge,bg,if_false];rw[ay ⟨by simp;omega,trivial,c⟩];simp
theorem Wm(A:DV)(p i c:Nat)(K:ah)(Q:az)(C:k<Q.length)(q:WaysOk ch all.length)(O:p<all.length)(hi:i<ch.length)(hn:0<=next/\next<=1000)(hc:aE (aP ch i) p=c)(V:K.length<=1000000):
 bq XV (XV.lin 258) Q.length [0,1,2,3,4,11,12,13,14,15] wh ⟨vO f next all ch k A p++[(13,.d (.sl U (K.map (T.enc U)))),(14,aa i),(15,aa 0)],Q⟩=
  some (.exit 4,⟨vO f next all ch k A p++[(13,.d (.sl U ((K++List.replicate c (T.node (-1) (next+i) [])).map (T.enc U)))),(14,aa i),(15,aa c),(38,au false)],Q⟩):=by
 have P:=q.len;have z:=q.row i hi;obtain⟨J,F⟩:=q.num i p;have e:p<(aP ch i).length:=by omega
 have o:=bR e;have D:=cQ hi;rw[hc]at o J F;have m:IntKind.i64.wrap (next+(i:Int))=next+i:=wrap_i64 (by omega) (by omega);have M:=Lk (next+i);generalize Z:aP ch i=row at*
 have h:=dW (X:=XV) (T:=XV.lin 258) (L:=Q.length) (live:=[0,1,2,3,4,11,12,13,14,15]) (b:=wh) (n:=c) (γ:=Unit) (R:=fun _=>(.ret,⟨[],[]⟩)) (step:=fun _ _=> .inl ())
  (st:=fun(_:Unit) j=>⟨vO f next all ch k A p++[(13,.d (.sl U ((K++List.replicate j (T.node (-1) (next+i) [])).map (T.enc U)))),(14,aa i),(15,aa j)],Q⟩) 4 38 (fun _ _=>True) ()
  (fun _ _=>by simp[wh,lB,kR,lA,k8,kw,kl,li,lu,j9,lq,kD,kv,lZ,ky,kO,vO,hi,e,D,o,cut,splice])
  (fun _ j hj _=>by
   have r:=aV (n:=j) (by omega);have I:=Yv (K++List.replicate j (.node (-1) (next+i) [])) (next+i) (by simp;omega);have H:K++List.replicate (j+1) (T.node (-1) (next+i) [])=K++List.replicate j (.node (-1) (next+i) [])++[.node (-1) (next+i) []]:=by rw[List.replicate_succ',bX]
   refine⟨⟨⟨vO f next all ch k A p++[(13,.d (.sl U ((K++List.replicate (j+1) (T.node (-1) (next+i) [])).map (T.enc U)))),(14,aa i),(15,aa (j+1:Nat))],Q⟩,?_,by simp[vO,aA,aB,C]⟩,fun _ _=>trivial⟩;rw[H];generalize (K++List.replicate j (T.node (-1) (next+i) []))=K1 at*
   have w:(j:Int)<c:=by omega
   generalize (K1++[T.node (-1) (next+i) []]).map (T.enc U)=L2 at*
   generalize K1.map (T.enc U)=L1 at*
   simp[wh,lB,kR,lA,k8,kw,kl,li,lu,j9,lq,kD,kv,lZ,ky,kO,vO,hi,e,D,o,r,m,M,I,w,cut,splice])
  trivial (by simp[vO,aA,aB,C])
 rw[dB]at h;simpa[vO]using h
theorem Y4(A:DV)(p:Nat)(Q:az)(e:k<Q.length)(c:WaysOk ch all.length)(q:p<all.length)(r:0<=next/\next<=1000):
 bq XV (XV.lin 258) Q.length [0,1,2,3,4,11,12,13,14] uJ ⟨vO f next all ch k A p++[(13,.d (.sl U [])),(14,aa 0)],Q⟩=
  some (.exit 2,⟨vO f next all ch k A p++[(13,.d (ao U (bV ch next p ch.length))),(14,aa ch.length),(27,au false)],Q⟩):=by
 have F:=c.len;have h:=dW (X:=XV) (T:=XV.lin 258) (L:=Q.length) (live:=[0,1,2,3,4,11,12,13,14]) (b:=uJ) (n:=ch.length) (γ:=Unit) (R:=fun _=>(.ret,⟨[],[]⟩)) (step:=fun _ _=> .inl ())
  (st:=fun(_:Unit) i=>⟨vO f next all ch k A p++[(13,.d (ao U (bV ch next p i))),(14,aa i)],Q⟩) 2 27 (fun _ _=>True) ()
  (fun _ _=>by simp[uJ,lB,kR,lA,k8,kw,kl,li,lu,j9,lq,kD,kv,lZ,ky,kO,vO])
  (fun _ i hi _=>by
   have j:=aV (n:=i) (by omega);obtain⟨D,C⟩:=c.num i p;have o:=wk c next p i;have z:=g8 (bV ch next p i);have m:=Wm f next all ch k A p i (aE (aP ch i) p).toNat (bV ch next p i) Q e c q hi r (by omega) (by omega);have w:bV ch next p (i+1)=bV ch next p i++List.replicate (aE (aP ch i) p).toNat (.node (-1) (next+i) []):=rfl;refine⟨⟨⟨vO f next all ch k A p++[(13,.d (ao U (bV ch next p (i+1)))),(14,aa (i+1:Nat))],Q⟩,?_,by simp[vO,aA,aB,e]⟩,fun _ _=>trivial⟩;rw[w];generalize (bV ch next p i++List.replicate (aE (aP ch i) p).toNat (.node (-1) (next+i) []))=K2 at*
   generalize bV ch next p i=K1 at*
   simp only[Er,vO,c9,co]at m;simp[uJ,lB,kR,lA,k8,kw,kl,li,lu,j9,lq,kD,kv,lZ,ky,kO,vO,hi,splice];rw[m];simp[uJ,lB,kR,lA,k8,kw,kl,li,lu,j9,lq,kD,kv,lZ,ky,kO,j])
  trivial (by simp[vO,aA,aB,e,bV])
 rw[dB]at h;exact h
theorem SH(Q:az)(tl:aG)(H:Q[k]?=some (some (.d (sg s)::tl)))(hs:s.length<=1099511627776)(o:WaysOk ch all.length)(hn:0<=next/\next<=1000)(hl:all.length<=1000):
 ∃R,aj XV 258 [.ptr k 0,aa f,.d (ao .sub all),.d (aH .sub ch),aa next] Q=some (.d (.sl U R),Q)/\R.map DV.clr=(db s f all ch next all.length).map (Eqn.enc .sub .sub)/\R.length=all.length/\∀y,y∈R->y.cells.length=6:=by
 have j:=q_len H;have O:¬(Q.length<=k):=by omega
 have e:∀p,∃g X,aj XV 193 [.d (sg s),aa f,.d (ao .sub (bV ch next p ch.length))] []=some (.d (.agg [.int .i64 (en s f (bV ch next p ch.length)).f,.int .i64 (en s f (bV ch next p ch.length)).v,.sl g X]),[])/\X.map DV.clr=(en s f (bV ch next p ch.length)).kids.map (T.enc .sub):=fun p=>by have P:=wk o next p ch.length;have h3:=o.len;obtain⟨d,Z,g,X,rfl,q⟩:=qvW s hs f (bV ch next p ch.length) (by omega);exact⟨g,X,Z,q⟩
 obtain⟨G,V⟩:=Classical.skolem.1 e;obtain⟨X,I⟩:=Classical.skolem.1 V;obtain⟨M,K⟩:∃M:Nat->T,M=fun p=>en s f (bV ch next p ch.length):=⟨_,rfl⟩
 refine⟨eZ all M G X all.length,?_,?_,Iu _ _ _ _ _,IU _ _ _ _ _⟩
 ·have h:=dW (X:=XV) (T:=XV.lin 258) (L:=Q.length) (live:=[0,1,2,3,4,11,12]) (b:=wz) (n:=all.length) (γ:=Unit) (R:=fun _=>(.ret,⟨[],[]⟩)) (step:=fun _ _=> .inl ())
   (st:=fun(_:Unit) p=>⟨vO f next all ch k (.sl U (eZ all M G X p)) p,Q⟩) 0 20 (fun _ _=>True) ()
   (fun _ _=>by simp[wz,lB,kR,lA,k8,kw,kl,li,lu,j9,lq,kD,kv,lZ,ky,kO,vO])
   (fun _ p i _=>by
    have r:=aV (n:=p) (by omega);have F:=Iu all M G X p;have w:=UT (eZ all M G X p) (sX all M G X p) (by omega) (IU all M G X p) rfl (by simp[sX,DV.cells,aY,a6]);have c:=Y4 f next all ch k (.sl U (eZ all M G X p)) p Q j o i hn;have J:=(I p).1;have C:en s f (bV ch next p ch.length)=M p:=by rw[K]
    rw[C]at J;have hE:eZ all M G X (p+1)=eZ all M G X p++[sX all M G X p]:=rfl;have D:=aZ i;refine⟨⟨⟨vO f next all ch k (.sl U (eZ all M G X (p+1))) (p+1),Q⟩,?_,by simp[vO,aA,aB,j]⟩,fun _ _=>trivial⟩;rw[hE];simp only[sX]at w⊢
    generalize eZ all M G X p=R1 at*
    generalize bV ch next p ch.length=kd at*
    generalize ai all p=t at*
    generalize M p=m at*
    generalize G p=g at*
    generalize X p=xs at*
    obtain⟨tf,tv,tk⟩:=t;simp only[Er,vO,c9,co,T.qaP,T.qbz,T.qav]at c w⊢
    simp[wz,lB,kR,lA,k8,kw,kl,li,lu,j9,lq,kD,kv,lZ,ky,kO,i,splice];rw[c];simp[wz,lB,kR,lA,k8,kw,kl,li,lu,j9,lq,kD,kv,lZ,ky,kO,i,D,J,O,w,r,j,dm H,cut,splice])
   trivial (by simp[vO,aA,aB,j,eZ])
  rw[dB]at h;rw[aK 258 wY rfl];simp only[Er,vO,eZ,dC,c9,co]at h;simp[wY,lB,kR,lA,k8,kw,kl,li,lu,j9,lq,kD,kv,lZ,ky,kO];rw[h];simp[wY,lB,kR,lA,k8,kw,kl,li,lu,j9,lq,kD,kv,lZ,ky,kO]
 ·have z:∀n,(eZ all M G X n).map DV.clr=(db s f all ch next n).map (Eqn.enc .sub .sub):=fun n=>by
   induction n with
   |zero=>rfl
   |succ n ih=>
    have q:=(I n).2;simp only[eZ,db,cL,ih,bF,bT]
    congr 2
    subst K;simp only[sX,pZ,Eqn.enc,DV.clr,DV.clrs,DV.qay,q,mg,ao]
  exact z _
end
def rU(s:aD)(S:US):aG:=[.d (sg s),.d (dI S.told),aa (400-S.work:Int),aa (if S.over then 2 else 0)]
theorem u7(s:aD)(S:US)(k:Nat)(Q:az)(c:Q[k]?=some (some (rU s S))):aj XV 251 [.ptr k 0] Q=some (.d (.tup []),Q.set k (some (rU s S.bad))):=by
 rw[aK 251 Cq rfl];have e:=q_len c;have h:¬(Q.length<=k):=by omega
 have i:rU s S.bad=[.d (sg s),.d (dI S.told),aa (400-S.work:Int),aa 2]:=rfl;rw[i];unfold rU at c;simp[Cq,e,h,c,dm c,splice]
section
variable {s:aD} (v next:Int) (t:T) (others:bh) (u:aF) (k:Nat) (S:US) (Q Q':az)
def pO(W:aF)(i:Nat):aI:=[(0,.ptr k 0),(1,.d (bf others)),(3,aa next),(12,.d (binds .sub W)),(13,aa i)]
theorem Rx(H:SgOk s)(W:aF)(e:AV)(B:az)(w:B=Q++[some [aa t.f,aa t.v,.d (ao .sub t.kids)]])(D:Q[k]?=some (some (rU s S)))(Z:W.length<=10000000)(M:∀b,b∈W->b.t.inner<=1099511627776):
 bq XV (XV.lin 252) (Q.length+1) [0,1,3,12,13] ry ⟨pO next others k W 0,B⟩=some (if ez s W then(.exit 0,⟨pO next others k W W.length++[(29,au false)],B⟩)else(.ret,⟨[],B.set k (some (rU s S.bad))⟩)):=by
 have V:=q_len D;have p:B.length=Q.length+1:=by rw[w];simp
 have j:B[k]?=some (some (rU s S)):=by rw[w];exact dv D _
 have m:k<Q.length+1:=by omega
 have r:=u7 s S k B j;have z:B.take (Q.length+1)=B:=dD (by omega);clear w;have C:¬(Q.length+1<=k):=by omega
 have h:=dW (X:=XV) (T:=XV.lin 252) (L:=Q.length+1) (live:=[0,1,3,12,13]) (b:=ry) (n:=W.length) (γ:=Nat) (R:=fun _=>(.ret,⟨[],B.set k (some (rU s S.bad))⟩)) (step:=bH (wU s W))
  (st:=fun(_:Unit) i=>⟨pO next others k W i,B⟩) 0 29 (fun _ _=>True) ()
  (fun _ _=>by simp[ry,nt,ny,oF,nz,mr,oc,mI,mN,ng,pO])
  (fun _ i hi _=>by
   have F:=aV (n:=i) (by omega);have q:=df hi;have o:=EL s H.len H.nam (aQ W i).t (M _ (iK hi));have K:wU s W i= !cq s (aQ W i).t:=rfl;unfold bH;refine⟨?_,fun _ _=>trivial⟩;rw[K];rw[rU]at j;generalize I:aQ W i=b at*
   obtain⟨bv,⟨P,O,J⟩⟩:=b;cases c:cq s (.node P O J)with
   |true=>rw[c]at o;simp only[lR,bg,if_false];exact⟨⟨pO next others k W (i+1),B⟩,by simp[ry,nt,ny,oF,nz,mr,oc,mI,mN,ng,pO,hi,F,m,p,j,dm j,C,q,o,Bd.enc,cut,splice],by simp[pO,aA,aB,m,z,p]⟩
   |false=>rw[c]at o;simp only[kX,if_true];exact⟨by simp,by simp[ry,nt,ny,oF,nz,mr,oc,mI,mN,ng,pO,hi,F,m,p,j,dm j,C,q,o,r,Bd.enc,cut,splice]⟩)
  trivial (by simp[pO,aA,aB,m,z,p])
 rw[cU]at h;rw[h];unfold ez;cases aR (wU s W) W.length 0<;>rfl
theorem WJ(J:SgOk s)(r:Q[k]?=some (some (rU s S)))(ht:t.inner<=1099511627776)(n:¬0<cnt t v->SubFit s u v t)(Z:Q'.length=Q.length)
 (m:¬0<cnt t v->ez s (bB s u v t)=true->∀e,aj XV 248 [.ptr k 0,.d (bf others),.d (binds .sub (bB s u v t)),aa next] (Q++e)=some (.d (.tup []),Q'++e)):
 aj XV 252 [.ptr k 0,.d (bf others),.d (binds .sub u),aa next,aa v,.d (t.enc .sub)] Q=some (.d (.tup []),if 0<cnt t v then Q else if ez s (bB s u v t)then Q' else Q.set k (some (rU s S.bad))):=by
 rw[aK 252 pg rfl];have D:=q_len r;have p:k<Q.length+1:=by omega
 have H:¬(Q.length+1<=k):=by omega
 have I:¬(Q.length+1<=Q.length):=by omega
 have hc:=KP t ht v;have F:cnt t v=IntKind.i64.wrap (T.sum (wC v) t):=rfl;rw[<-F]at hc
 by_cases q:0<cnt t v
 ·rw[ay q]
  generalize cnt t v=c at*
  obtain⟨O,tv,P⟩:=t;simp[pg,nt,ny,oF,nz,mr,oc,mI,mN,ng,hc,q,D,p,splice]
 ·rw[aC q]
  have n:=n q;have m:=m q;obtain⟨R,w,K⟩:=qqW s J.len u v t n.len n.b n.ti n.f;have M:=F7 s u v t;have V:=n.len;have j:=Rx next t others k S Q J (bB s u v t) .und _ rfl r (by omega) n.o;have z:=fun h=>m h [some [aa t.f,aa t.v,.d (ao .sub t.kids)]]
  have h1:=dv r [some [aa t.f,aa t.v,.d (ao .sub t.kids)]];generalize bB s u v t=W at*
  generalize cnt t v=c at*
  obtain⟨O,tv,P⟩:=t;have C:∀e,(Q'++e).take Q.length=Q':=fun e=>by rw[<-Z];simp
  simp only[qUT,pO,binds,dC,T.qaP,T.qbz,T.qav]at j z;have i:=r;unfold rU at i;cases hfu:ez s W with
  |false=>rw[hfu]at j;simp[pg,nt,ny,oF,nz,mr,oc,mI,mN,ng,hc,q,D,p,H,I,splice,w,K,dv i,gN i];rw[j];simp[pg,nt,ny,oF,nz,mr,oc,mI,mN,ng,gn r]
  |true=>rw[hfu]at j;have z:=z hfu;simp[pg,nt,ny,oF,nz,mr,oc,mI,mN,ng,hc,q,D,p,H,I,splice,w,K,dv i,gN i];rw[j];simp[pg,nt,ny,oF,nz,mr,oc,mI,mN,ng,z,C]
end
theorem Yq(xs:aw)(c:bh)(h:xs.length+c.length<=1099511627776)(j:∀y,y∈xs->y.cells.length=6):bU 6 80 (.sl U xs) (bf c)=some (.sl U (xs++c.map (Eqn.enc .sub .sub))):=by
 have d:(c.map (Eqn.enc .sub .sub)).all (fun e=>decide (e.cells.length=6/\e.cells.all DV.isCell=true))=true:=by
  rw[cm];intro y hy
  obtain⟨z,_,rfl⟩:=cC.1 hy;simp[aY,a6,DV.isCell]
 have i:xs.all (fun e=>decide (e.cells.length=6))=true:=by rw[cm];intro y hy;simpa using j y hy
 unfold bU;simp only;rw[ay d];cases c with
 |nil=>simp
 |cons x r=>simp only[bF,ge,bg,if_false];rw[ay ⟨by simp at h⊢;omega,trivial,i⟩]
theorem US.qPt(h:S.over=true):S.bad=S:=by unfold US.bad;rw[<-h]
theorem US.qsb(S:US):S.run [.bad]=S.bad:=by
 show S.ev .bad=_;unfold US.ev;split
 ·rename_i h;exact(US.qPt h).symm
 ·rfl
section
variable (f next:Int) (all:ah) (ways:List ax) (others:bh) (u:aF) (k N:Nat)
def iu(m:Nat):aI:=[(0,.ptr k 0),(3,.d (bf others)),(4,.d (binds .sub u)),(5,aa next),(7,.ptr N 0),(18,.d (aH .sub ways)),(20,.d (ao .sub all)),(21,aa m)]
def tE(i:Nat):Bool:=gx all ways i&&decide (99<next+(bc ways (i+1) ways.length).length-1)
theorem qtX(Q:az)(hQ:Q.length=N)(S:US)(hs:s.length<=1099511627776)(hn:0<=next/\next<=1000)(hol:others.length<=1000000000)(hq:Q[k]?=some (some (rU s S)))(bx:az)(xv yf yv:Int)(xk yk:ah)(a1:bx=[some [aa f,aa xv,.d (ao .sub xk)],some [aa yf,aa yv,.d (ao .sub yk)]])
 (E:Nat->ei) (hl:ways.length<=8) (hal:1<=all.length/\all.length<=1000)
 (hw:∀m,WaysOk (bc ways m ways.length) all.length) (hE:∀i,gx all ways i=false->E i=[]) (x3:∀i,tE next all ways i=true->E i=[.bad])
 (a2:∀i S' Q',S'=S.run ((List.range i).flatMap E)->gx all ways i=true->tE next all ways i=false->Q'[k]?=some (some (rU s S'))->
  aj XV 248 [.ptr k 0,.d (bf (db s f all (bc ways (i+1) ways.length) next all.length++others)),.d (binds .sub u),aa (next+(bc ways (i+1) ways.length).length)] Q'=some (.d (.tup []),Q'.set k (some (rU s (S'.run (E i)))))):
 ∃e r,(e= .exit 0\/e= .ret)/\bq XV (XV.lin 253) (N+2) [0,3,4,5,7,18,20,21] qm ⟨iu next all ways others u k N 1,Q++bx⟩=
  some (e,⟨r,Q.set k (some (rU s (S.run ((List.range (2^ways.length-1)).flatMap E))))++bx⟩):=by
 have hk:k<N:=by rw[<-hQ];exact q_len hq
 obtain⟨z,J⟩:∃z:Nat->US,∀i,z i=S.run ((List.range i).flatMap E):=⟨_,fun _=>rfl⟩;have hS0:z 0=S:=by rw[J];rfl
 have h2:∀i,z (i+1)=(z i).run (E i):=fun i=>by rw[J,J,US.qvk]
 have c1:bx.length=2:=by rw[a1];rfl
 obtain⟨c,o⟩:∃c:Nat->az,∀i,c i=Q.set k (some (rU s (z i)))++bx:=⟨_,fun _=>rfl⟩;have p:∀i,(c i).length=N+2:=fun i=>by rw[o];simp[hQ,c1]
 have hBk:∀i,(c i)[k]?=some (some (rU s (z i))):=fun i=>by rw[o];exact dv (by rw[pa (by omega)]) _
 have a3:∀i,(c i)[N]?=some (some [aa f,aa xv,.d (ao .sub xk)]):=fun i=>by rw[o,a1,dx (by simp[hQ])];simp[hQ]
 have b1:c 0=Q++bx:=by rw[o,hS0,lp hq]
 rw[<-b1,<-J,<-o];have V:∀i v,(c i).set k v=Q.set k v++bx:=fun i v=>by rw[o,gn (by rw[pa (by omega)]),wB]
 have hpow:2^ways.length<=2^8:=GG (by omega) hl;have hp1:1<=2^ways.length:=Nat.one_le_two_pow;have P:=KM ways.length (by omega);have q:k<N+2:=by omega
 have nk:¬(N+2<=k):=by omega
 have nN:¬(N+2<=N):=by omega
 have hT:∀i,(c i).take (N+2)=c i:=fun i=>dD (by rw[p];omega)
 obtain⟨D,hD⟩:∃D:Nat->Bool,∀i,D i=tE next all ways i:=⟨_,fun _=>rfl⟩;have h:=bG (X:=XV) (T:=XV.lin 253) (L:=N+2) (live:=[0,3,4,5,7,18,20,21]) (b:=qm) (n:=2^ways.length-1) (γ:=Nat)
  (st:=fun(_:Unit) i=>⟨iu next all ways others u k N (i+1),c i⟩) (step:=me D)
  (F:=fun _=>(.exit 0,⟨iu next all ways others u k N (2^ways.length-1+1)++[(74,au false)],c (2^ways.length-1)⟩)) (R:=fun i=>(.ret,⟨[],c (i+1)⟩))
  (fun _=>⟨by simp,by
   have I:¬((2^ways.length-1+1:Nat):Int)<((2^ways.length:Nat):Int):=by omega
   have hb:=p (2^ways.length-1);simp only[iu];generalize ((2^ways.length:Nat):Int)=M at*
   generalize ((2^ways.length-1+1:Nat):Int)=m at*
   generalize c (2^ways.length-1)=B at*
   simp[qm,kG,ko,kb,kU,j8,kY,kJ,kK,kz,kN,ls,ke,kI,kF,km,lF,k7,kS,P,I,q,hb]⟩)
  (fun _ i hi=>by
   have x1:=aV (n:=i+1) (by omega);have I:((i+1:Nat):Int)<((2^ways.length:Nat):Int):=by omega
   have hb:=p i;have h1:=hBk i;have x2:=a3 i;have hc:=Xw ways (i+1) (by omega) (by omega);have hwl:=(hw (i+1)).len;have hcl:=wV ways (i+1) ways.length;have w:=Rz all (bc ways (i+1) ways.length) hal (by omega);have hfd:pD all (dQ (bc ways (i+1) ways.length) all.length)=gx all ways i:=rfl;rw[hfd]at w;have w1:IntKind.i64.wrap (next+((bc ways (i+1) ways.length).length:Int))=next+((bc ways (i+1) ways.length).length:Int):=wrap_i64 (by omega) (by omega);have w2:IntKind.i64.wrap (next+((bc ways (i+1) ways.length).length:Int)-1)=next+((bc ways (i+1) ways.length).length:Int)-1:=wrap_i64 (by omega) (by omega);have hDi:=hD i;have h4:tE next all ways i=(gx all ways i&&decide (99<next+((bc ways (i+1) ways.length).length:Int)-1)):=rfl;have O:=a2 i (z i) (c i) (J i);have K:=u7 s (z i) k (c i) h1;have hw':=hw (i+1);have hei:=hE i;have h5:=x3 i;have Z:=h2 i;rw[V]at K;unfold me;rw[hDi];rw[h4]at O h5⊢
   generalize hch:bc ways (i+1) ways.length=ch at*
   generalize gx all ways i=ff at*
   cases ff with
   |false=>
    simp only[re,bg,if_false];have H:c (i+1)=c i:=by rw[o,o,Z,hei rfl,US.qh4]
    refine⟨⟨iu next all ways others u k N (i+1+1),c (i+1)⟩,?_,by simp[iu,aA,aB,p,hT,q]⟩;rw[H];simp only[iu];generalize ((2^ways.length:Nat):Int)=M at*
    generalize ((i+1:Nat):Int)=m at*
    generalize ((i+1+1:Nat):Int)=m2 at*
    generalize c i=B at*
    simp[qm,kG,ko,kb,kU,j8,kY,kJ,kK,kz,kN,ls,ke,kI,kF,km,lF,k7,kS,P,I,q,hb,hc,w,x1,splice]
   |true=>
    by_cases C:99<next+(ch.length:Int)-1
    ·have H:c (i+1)=Q.set k (some (rU s (z i).bad))++bx:=by rw[o,Z,h5 (by simp[C]),US.qsb]
     simp only[C,decide_true,eE,if_true];refine⟨by simp,?_⟩;rw[<-H]at K;simp only[iu];generalize ((2^ways.length:Nat):Int)=M at*
     generalize ((i+1:Nat):Int)=m at*
     generalize c (i+1)=B2 at*
     generalize c i=B at*
     simp[qm,kG,ko,kb,kU,j8,kY,kJ,kK,kz,kN,ls,ke,kI,kF,km,lF,k7,kS,P,I,q,hb,hc,w,w1,w2,C,K,splice]
    ·have H:c (i+1)=(c i).set k (some (rU s ((z i).run (E i)))):=by rw[V,o,Z]
     have O:=O rfl (by simp[C]) h1;rw[<-H]at O;simp only[C,decide_false,wL,bg,if_false];obtain⟨R,e1,e2,e3,e4⟩:=SH s f next all ch k (c i) _ h1 hs hw' hn (by omega);have b2:=Yq R others (by omega) e4;have c2:R.map (DV.clr∘DV.clr)=R.map DV.clr:=by rw[<-List.map_map,e2,eX,Eqn.qPs]
     have hb1:=p (i+1);refine⟨⟨iu next all ways others u k N (i+1+1),c (i+1)⟩,?_,by simp[iu,aA,aB,p,hT,q]⟩;simp only[iu];simp only[bf,cL,<-e2]at O;generalize ((2^ways.length:Nat):Int)=M at*
     generalize ((i+1:Nat):Int)=m at*
     generalize ((i+1+1:Nat):Int)=m2 at*
     generalize c (i+1)=B2 at*
     generalize c i=B at*
     simp[qm,kG,ko,kb,kU,j8,kY,kJ,kK,kz,kN,ls,ke,kI,kF,km,lF,k7,kS,P,I,q,nk,nN,hb,hb1,hc,w,w1,w2,C,e1,b2,c2,O,x1,x2,dm x2,splice])
  (2^ways.length-1) () 0 ⟨iu next all ways others u k N 1,c 0⟩ (by omega) (by simp[iu,aA,aB,p,hT,q])
 have h3:∀n i,match runN (me D) n () i with| .inl _=>True| .inr j=>c (j+1)=c (i+n):=by
  intro n
  induction n with
  |zero=>intro i;trivial
  |succ n ih=>
   intro i;simp only[runN,me];cases hd0:D i with
   |true=>
    simp only[if_true];have h0:(z (i+1)).over=true:=by rw[h2,x3 i (by rw[<-hD,hd0]),US.qsb];rfl
    have:∀m,z (i+1+m)=z (i+1):=fun m=>by
     induction m with
     |zero=>rfl
     |succ m ihm=>rw[<-Nat.add_assoc,h2,ihm,US.qeM _ h0]
    rw[o,o,show i+(n+1)=i+1+n by omega,this]
   |false=>simp only[bg,if_false];have:=ih (i+1);rwa[show i+1+n=i+(n+1)by omega]at this
 have O:=h3 (2^ways.length-1) 0;rw[h];cases hrn:runN (me D) (2^ways.length-1) () 0 with
 |inl a=>exact⟨_,_,.inl rfl,rfl⟩
 |inr j=>rw[hrn]at O;simp only[dE]at O;rw[<-O];exact⟨_,_,.inr rfl,rfl⟩
end
section
variable {s:aD} (f xv yv next:Int) (xk yk:ah) (others:bh) (u:aF) (k:Nat) (S:US) (Q:az) (rec:bh->aF->Int->ei)
theorem XT(hs:SgOk s)(Z:Q[k]?=some (some (rU s S)))(hn:0<=next/\next<=1000)(a3:others.length<=1000000000)(lx:xk.length<=1000000000)(ly:yk.length<=1000000000)(bx:∀t,t∈xk->t.inner<=1099511627776)(h3:∀t,t∈yk->t.inner<=1099511627776)
 (C:∀all ways m S' Q',lr (bz (bW xk yk).1).2 (bz (bW xk yk).2).2=true->all=(bz (bW xk yk).1).1++(bz (bW xk yk).2).1->ways=bL (bz (bW xk yk).1).2 (bz (bW xk yk).2).2->gx all ways m=true->(∃i,S'=S.run ((List.range i).flatMap (eW rec s f all ways others u next)))->Q'[k]?=some (some (rU s S'))->next+(bc ways (m+1) ways.length).length-1<=99->
  aj XV 248 [.ptr k 0,.d (bf (db s f all (bc ways (m+1) ways.length) next all.length++others)),.d (binds .sub u),aa (next+(bc ways (m+1) ways.length).length)] Q'=
   some (.d (.tup []),Q'.set k (some (rU s (S'.run (rec (db s f all (bc ways (m+1) ways.length) next all.length++others) u (next+(bc ways (m+1) ways.length).length))))))):
 aj XV 253 [.ptr k 0,.d ((T.node f xv xk).enc .sub),.d ((T.node f yv yk).enc .sub),.d (bf others),.d (binds .sub u),aa next] Q=some (.d (.tup []),Q.set k (some (rU s (S.run (uA rec s f xk yk others u next))))):=by
 rw[aK 253 nY rfl];have hk:=q_len Z;obtain⟨tg,q⟩:=RG xk yk (by omega) (by omega) bx h3
 obtain⟨F,J,P,M⟩:=zR xk ([],yk);have F:∀t,t∈(bW xk yk).1->t∈xk:=fun t h=>by rcases F t h with h|h;(·simp at h);exact h
 have J:∀t,t∈(bW xk yk).2->t∈yk:=J;have P:(bW xk yk).1.length<=xk.length:=by show(xk.foldl eF ([],yk)).1.length<=_;simpa using P
 have M:(bW xk yk).2.length<=yk.length:=M;generalize h5:bW xk yk=ap at*
 obtain⟨l,r⟩:=ap;simp only at F J P M q C;unfold uA;rw[h5];simp only;have n3:k<Q.length+1:=by omega
 have n4:k<Q.length+2:=by omega
 have n5:¬(Q.length+2<=Q.length):=by omega
 have n6:¬(Q.length+2<=Q.length+1):=by omega
 by_cases he:l.length=0\/r.length=0
 ·rw[ay he,US.qh4,lp Z]
  by_cases b1:l.length=0
  ·have:l=[]:=gS.1 b1
   subst this;simp[nY,kG,ko,kb,kU,j8,kY,kJ,kK,kz,kN,ls,ke,kI,kF,km,lF,k7,kS,hk,n3,n4,n5,n6,get_at,jb,splice,q]
  ·have a2:r.length=0:=by omega
   have:r=[]:=gS.1 a2;subst this;have D:(((l.length:Int))==0)=false:=dV (by omega);simp[nY,kG,ko,kb,kU,j8,kY,kJ,kK,kz,kN,ls,ke,kI,kF,km,lF,k7,kS,hk,n3,n4,n5,n6,get_at,jb,splice,q,D]
 ·rw[aC he]
  have D:(((l.length:Int))==0)=false:=dV (by omega);have R:(((r.length:Int))==0)=false:=dV (by omega);have I:=LM l (by omega) (fun t h=>bx t (F t h));have H:=LM r (by omega) (fun t h=>h3 t (J t h));obtain⟨cm1,O⟩:=qi l ([],[]);obtain⟨dm1,V⟩:=qi r ([],[]);have ce:=sQ l;have de:=sQ r;have O:(bz l).1.length<=l.length:=by show(l.foldl cntF ([],[])).1.length<=_;simpa using O
  have V:(bz r).1.length<=r.length:=by show(r.foldl cntF ([],[])).1.length<=_;simpa using V
  have o:=qsS (bz l).2 (bz r).2 (by omega) (by omega);generalize b2:bz l=c at*
  generalize hcr:bz r=d at*
  obtain⟨c1,w⟩:=c;obtain⟨d1,d2⟩:=d;simp only at ce de O V o I H C⊢
  cases hbo:lr w d2 with
  |false=>
   have K:=u7 s S k _ (dv Z [some [aa f,aa xv,.d (ao .sub xk)],some [aa f,aa yv,.d (ao .sub yk)]]);simp only[bg,if_false];rw[US.qsb]
   by_cases j:b_ w=true/\b_ d2=true/\(bL w d2).length<=60
   ·rw[ay j]at o
    have h8:(8:Int)<(bL w d2).length:=by unfold lr at hbo;rw[j.1,j.2.1]at hbo;simp at hbo;omega
    generalize bL w d2=W at*
    simp[nY,kG,ko,kb,kU,j8,kY,kJ,kK,kz,kN,ls,ke,kI,kF,km,lF,k7,kS,hk,n3,n4,n5,n6,get_at,jb,splice,q,D,R,I,H,o,h8,K,gn Z]
   ·rw[aC j]at o
    simp[nY,kG,ko,kb,kU,j8,kY,kJ,kK,kz,kN,ls,ke,kI,kF,km,lF,k7,kS,hk,n3,n4,n5,n6,get_at,jb,splice,q,D,R,I,H,o,K,gn Z]
  |true=>
   have n:b_ w=true/\b_ d2=true/\(bL w d2).length<=8:=by unfold lr at hbo;simpa[Ao]using hbo
   rw[ay ⟨n.1,n.2.1,by omega⟩]at o;have lc:=dA n.1;have ld:=dA n.2.1;have h8:¬(8:Int)<(bL w d2).length:=by omega
   have h2:=tm [] c1 U (by simp;omega);have h4:=tm c1 d1 U (by omega);have h1:=GH n.1 n.2.1 n.2.2;have x1:(c1++d1).length=w.length+d2.length:=by rw[cG];omega
   rw[<-x1]at h1;obtain⟨e,rr,x3,z⟩:=qtX f next (c1++d1) (bL w d2) others u k Q.length Q rfl S hs.len hn a3 Z _ xv f yv xk yk rfl (eW rec s f (c1++d1) (bL w d2) others u next) n.2.2 (by omega) h1 (fun i h=>by unfold eW;rw[h];rfl) (fun i h=>by
    unfold tE at h;simp only[cd,cB]at h;unfold eW;rw[ay h.1,ay h.2]) (fun i S' Q' a1 hf p x2=>by
    unfold tE at p;rw[hf]at p;simp only[eE,GK]at p;unfold eW;rw[ay hf,aC p];exact C _ _ i S' Q' hbo rfl rfl hf ⟨_,a1⟩ x2 (by omega))
   simp only[if_true];simp only[UG,iu,dC,ao,cL]at z;generalize US.run S _=S2 at*
   generalize bL w d2=W at*
   simp only[bT,co,cL]at h2 h4;simp[nY,kG,ko,kb,kU,j8,kY,kJ,kK,kz,kN,ls,ke,kI,kF,km,lF,k7,kS,hk,n3,n4,n5,n6,get_at,jb,splice,q,D,R,I,H,o,h8,h2,h4];rw[z];rcases x3 with rfl|rfl<;>simp[nY,kG,ko,kb,kU,j8,kY,kJ,kK,kz,kN,ls,ke,kI,kF,km,lF,k7,kS]
end
section
variable {s:aD} (u:aF) (next:Int) (k:Nat) (S:US) (Q Q':az)
theorem nh(s:aD)(S:US):rU s S=[.d (sg s),.d (dI S.told),aa (400-S.work:Int),aa (if S.over then 2 else 0)]:=rfl
theorem N7(l:bh)(c:Q[k]?=some (some (rU s S)))(i:S.over=true):
 aj XV 248 [.ptr k 0,.d (bf l),.d (binds .sub u),aa next] Q=some (.d (.tup []),Q):=by
 rw[aK 248 d0 rfl];have e:=q_len c;rw[nh,i]at c;have h:¬(Q.length<=k):=by omega
 simp[d0,fV,fM,gf,iy,hH,gI,fT,fb,gZ,fD,hI,gM,gg,gV,gD,gP,g0,gW,io,gr,gU,f_,hJ,ir,gH,gm,e,h,c,dm c,splice]
theorem q2l(h:Q[k]?=some (some (rU s S)))(p:S.over=false)(M:S.told.length<=60)(I:∀w,w∈S.told->small w)(F:small u):
 aj XV 248 [.ptr k 0,.d (bf []),.d (binds .sub u),aa next] Q=some (.d (.tup []),Q.set k (some (rU s (S.ev (.found u))))):=by
 rw[aK 248 d0 rfl];have q:=q_len h;have r:¬(Q.length<=k):=by omega
 have c:=Vb S.told u (by omega) I F;have o:=qJk u F;have m:=ON S.told U u (by omega);have J:S.ev (.found u)={S with told:=if jo S.told u then S.told else S.told++[u],over:=decide (60<(if jo S.told u then S.told else S.told++[u]).length)}:=by unfold US.ev;rw[p];rfl
 have e:=u7 s {S with told:=S.told++[u]} k (Q.set k (some (rU s {S with told:=S.told++[u]}))) (pa q);rw[J];have D:=h;rw[nh,p]at h;cases hh:jo S.told u with
 |true=>
  rw[hh]at c;have C:decide (60<S.told.length)=false:=by simp;omega
  have i:¬(60:Int)<(S.told.length:Int):=by omega
  have K:({S with told:=S.told,over:=false}:US)=S:=by rw[<-p]
  simp only[if_true,C];rw[K,lp D];simp[d0,fV,fM,gf,iy,hH,gI,fT,fb,gZ,fD,hI,gM,gg,gV,gD,gP,g0,gW,io,gr,gU,f_,hJ,ir,gH,gm,q,r,h,dm h,splice,c,i]
 |false=>
  rw[hh]at c;simp only[bg,if_false];have H:(S.told++[u]).length=S.told.length+1:=by simp
  have n:rU s {S with told:=S.told++[u]}=[.d (sg s),.d (.sl U (S.told.map (binds U)++[binds U u])),aa (400-S.work:Int),aa 0]:=by rw[nh];simp[dI,p]
  rw[n]at e
  by_cases i:60<(S.told++[u]).length
  ·have j:(60:Int)<(S.told.length:Int)+1:=by omega
   have z:({S with told:=S.told++[u],over:=decide (60<(S.told++[u]).length)}:US)=US.bad {S with told:=S.told++[u]}:=by unfold US.bad;simp only[i,decide_true]
   rw[z];rw[wB]at e;simp[d0,fV,fM,gf,iy,hH,gI,fT,fb,gZ,fD,hI,gM,gg,gV,gD,gP,g0,gW,io,gr,gU,f_,hJ,ir,gH,gm,q,r,h,dm h,splice,c,o,m,j,e]
  ·have j:¬(60:Int)<(S.told.length:Int)+1:=by omega
   have z:({S with told:=S.told++[u],over:=decide (60<(S.told++[u]).length)}:US)={S with told:=S.told++[u]}:=by simp only[i,decide_false,p]
   rw[z,n];simp[d0,fV,fM,gf,iy,hH,gI,fT,fb,gZ,fD,hI,gM,gg,gV,gD,gP,g0,gW,io,gr,gU,f_,hJ,ir,gH,gm,q,r,h,dm h,splice,c,o,m,j]
theorem UB(l:bh)(w:l≠[])(e:Q[k]?=some (some (rU s S)))(o:S.over=false)(D:400<S.work+1)(r:S.work<=1000):
 aj XV 248 [.ptr k 0,.d (bf l),.d (binds .sub u),aa next] Q=some (.d (.tup []),Q.set k (some (rU s {S with work:=S.work+1,over:=true}))):=by
 rw[aK 248 d0 rfl];have n:=q_len e;have p:¬(Q.length<=k):=by omega
 have c:=u7 s {S with work:=S.work+1} k (Q.set k (some (rU s {S with work:=S.work+1}))) (pa n);have h:rU s {S with work:=S.work+1}=[.d (sg s),.d (dI S.told),aa (400-(S.work+1:Nat):Int),aa 0]:=by rw[nh];simp[o]
 have C:US.bad {S with work:=S.work+1}={S with work:=S.work+1,over:=true}:=rfl;rw[h,C,wB]at c;rw[nh,o]at e;have z:0<l.length:=yl.2 w;have j:(((l.length:Int))==0)=false:=dV (by omega);have i:IntKind.i64.wrap ((400-S.work:Int)-1)=400-(S.work+1:Nat):=by rw[IntKind.wrap_i64];omega
 have q:(400-(S.work+1:Nat):Int)<0:=by omega
 generalize (400-(S.work+1:Nat):Int)=m at*
 simp[d0,fV,fM,gf,iy,hH,gI,fT,fb,gZ,fD,hI,gM,gg,gV,gD,gP,g0,gW,io,gr,gU,f_,hJ,ir,gH,gm,n,p,e,dm e,splice,j,i,q,c]
end
structure Eqr(s:aD)(u:aF)(S:US)(Q:az)(k:Nat)(a b x y:T)(g g':Tag)(X Y:aw):Prop where
 q:Q[k]?=some (some (rU s S))
 o:S.over=false
 w:S.work+1<=400
 hx:aj XV 141 [.d (sg s),.d (binds .sub u),.d (a.enc .sub)] []=some (.d (.agg [.int .i64 x.f,.int .i64 x.v,.sl g X]),[])
 hy:aj XV 141 [.d (sg s),.d (binds .sub u),.d (b.enc .sub)] []=some (.d (.agg [.int .i64 y.f,.int .i64 y.v,.sl g' Y]),[])
 cx:X.map DV.clr=x.kids.map (T.enc .sub)
 cy:Y.map DV.clr=y.kids.map (T.enc .sub)
 bx:x.inner<=1099511627776
 b':y.inner<=1099511627776
def oq:VCode:=
 match d0.code with
 | .seq _ (.seq _ (.seq _ (.seq _ (.seq _ (.seq _ b)))))=>b
 |_=> .skip
def da(x y:T)(g g':Tag)(X Y:aw):az:=[some [aa x.f,aa x.v,.d (.sl g X)],some [aa y.f,aa y.v,.d (.sl g' Y)]]
def e_(u:aF)(k N:Nat)(next:Int)(rest:bh):aI:=[(0,.ptr k 0),(2,.d (binds .sub u)),(3,aa next),(8,.d (bf rest)),(9,.ptr N 0),(10,.ptr (N+1) 0)]
section
variable {s:aD} {u:aF} {S:US} {Q:az} {k:Nat} {a b x y:T} {g g':Tag} {X Y:aw}
theorem tn(h:Eqr s u S Q k a b x y g g' X Y)(rest:bh)(next:Int)(P:rest.length<=1099511627776):
 aj XV 248 [.ptr k 0,.d (bf (⟨a,b⟩::rest)),.d (binds .sub u),aa next] Q=uh Q.length [] (aS XV (XV.lin 248) oq ⟨e_ u k Q.length next rest,Q.set k (some (rU s S.st))++da x y g g' X Y⟩):=by
 rw[aK 248 d0 rfl];obtain⟨c,w,Z,hx,hy,cx,cy,bx,b'⟩:=h;have e:=q_len c;have z:¬(Q.length<=k):=by omega
 have n:rU s S.st=[.d (sg s),.d (dI S.told),aa (400-(S.work+1:Nat):Int),aa 0]:=by rw[nh];simp[US.st,w]
 rw[n];rw[nh,w]at c;obtain⟨p,av,o⟩:=a;obtain⟨q,bv,r⟩:=b;obtain⟨xf,xv,xk⟩:=x;obtain⟨yf,yv,yk⟩:=y;have D:k<Q.length+1:=by omega
 have H:k<Q.length+2:=by omega
 have R:¬(Q.length+1<=k):=by omega
 have I:¬(Q.length+2<=k):=by omega
 have O:¬(Q.length+2<=Q.length):=by omega
 have V:¬(Q.length+2<=Q.length+1):=by omega
 have K:¬(Q.length+1<Q.length):=by omega
 have F:(0:Int)<=(rest.length:Int):=by omega
 have i:(((rest.length:Int)+1)==0)=false:=dV (by omega);have j:IntKind.i64.wrap ((400-S.work:Int)-1)=400-(S.work+1:Nat):=by rw[IntKind.wrap_i64];omega
 have C:¬(400-(S.work+1:Nat):Int)<0:=by omega
 have M:List.take rest.length (rest.map (Eqn.enc .sub .sub))=rest.map (Eqn.enc .sub .sub):=dD (by simp);have J:(Eqn.mk (.node p av o) (.node q bv r)).enc .sub .sub= .agg [.int .i64 p,.int .i64 av,ao .sub o,.int .i64 q,.int .i64 bv,ao .sub r]:=rfl;generalize (400-(S.work+1:Nat):Int)=m at*
 simp only[T.qaP,T.qbz,T.qav]at hx hy;simp[-FJ,d0,oq,da,e_,fV,fM,fT,fb,fD,hI,e,z,D,H,R,I,O,V,K,J,c,dm c,dv c,gN c,gn c,splice,F,i,j,C,M,cut,hx,hy,jk e,ml e,jJ e]
end
section
variable {s:aD} {u:aF} {S:US} {Q:az} {k:Nat} {a b x y:T} {g g':Tag} {X Y:aw}
theorem XZ(h:Eqr s u S Q k a b x y g g' X Y)(rest:bh)(next:Int)(Q':az)(j:rest.length<=1099511627776)(hc:(T.cmp x y==0)=true)(n:Q'.length=Q.length)
 (i:∀e,aj XV 248 [.ptr k 0,.d (bf rest),.d (binds .sub u),aa next] (Q.set k (some (rU s S.st))++e)=some (.d (.tup []),Q'++e)):
 aj XV 248 [.ptr k 0,.d (bf (⟨a,b⟩::rest)),.d (binds .sub u),aa next] Q=some (.d (.tup []),Q'):=by
 rw[tn h rest next j];obtain⟨q,D,C,hx,hy,cx,cy,bx,b'⟩:=h;have o:=q_len q;have c:=lU x y bx b';rw[hc]at c;have m:=i (da x y g g' X Y);obtain⟨F,xv,xk⟩:=x;obtain⟨z,yv,yk⟩:=y;generalize some (rU s S.st)=v at*
 have r:Q.length+1<Q.length+2:=by omega
 have w:k<Q.length+2:=by omega
 have p:∀e,(Q'++e).take Q.length=Q':=fun e=>by rw[<-n];simp
 simp only[da,T.qaP,T.qbz,T.qav,ao,binds,bf]at m cx cy c;simp[oq,d0,fV,fM,gf,iy,hH,gI,fT,fb,gZ,fD,hI,gM,gg,gV,gD,gP,g0,gW,io,gr,gU,f_,hJ,ir,gH,gm,e_,da,splice,cx,cy,c,m,o,r,w,p,n]
theorem X3(h:Eqr s u S Q k a b x y g g' X Y)(rest:bh)(next:Int)(Q':az)(j:rest.length<=1099511627776)(hc:(T.cmp x y==0)=false)(o:x.f= -1)(m:Q'.length=Q.length)
 (i:∀e,aj XV 252 [.ptr k 0,.d (bf rest),.d (binds .sub u),aa next,aa x.v,.d (y.enc .sub)] (Q.set k (some (rU s S.st))++e)=some (.d (.tup []),Q'++e)):
 aj XV 248 [.ptr k 0,.d (bf (⟨a,b⟩::rest)),.d (binds .sub u),aa next] Q=some (.d (.tup []),Q'):=by
 rw[tn h rest next j];obtain⟨p,H,C,hx,hy,cx,cy,bx,b'⟩:=h;have w:=q_len p;have c:=lU x y bx b';rw[hc]at c;have n:=i (da x y g g' X Y);obtain⟨D,xv,xk⟩:=x;obtain⟨F,yv,yk⟩:=y;simp only[T.qaP]at o;subst o;generalize some (rU s S.st)=v at*
 have q:Q.length+1<Q.length+2:=by omega
 have r:k<Q.length+2:=by omega
 have z:∀e,(Q'++e).take Q.length=Q':=fun e=>by rw[<-m];simp
 simp only[da,T.qaP,T.qbz,T.qav,ao,binds,bf]at n cx cy c;simp[oq,d0,fV,fM,gf,iy,hH,gI,fT,fb,gZ,fD,hI,gM,gg,gV,gD,gP,g0,gW,io,gr,gU,f_,hJ,ir,gH,gm,e_,da,splice,cx,cy,c,n,w,q,r,z,m]
theorem qOn(h:Eqr s u S Q k a b x y g g' X Y)(rest:bh)(next:Int)(Q':az)(m:rest.length<=1099511627776)(hc:(T.cmp x y==0)=false)(p:x.f≠-1)(j:y.f= -1)(n:Q'.length=Q.length)
 (i:∀e,aj XV 252 [.ptr k 0,.d (bf rest),.d (binds .sub u),aa next,aa y.v,.d (x.enc .sub)] (Q.set k (some (rU s S.st))++e)=some (.d (.tup []),Q'++e)):
 aj XV 248 [.ptr k 0,.d (bf (⟨a,b⟩::rest)),.d (binds .sub u),aa next] Q=some (.d (.tup []),Q'):=by
 rw[tn h rest next m];obtain⟨q,J,H,hx,hy,cx,cy,bx,b'⟩:=h;have D:=q_len q;have c:=lU x y bx b';rw[hc]at c;have o:=i (da x y g g' X Y);obtain⟨z,xv,xk⟩:=x;obtain⟨I,yv,yk⟩:=y;simp only[T.qaP]at p j;subst j;have C:(z== -1)=false:=by simpa using p
 generalize some (rU s S.st)=v at*
 have r:Q.length+1<Q.length+2:=by omega
 have w:k<Q.length+2:=by omega
 have F:∀e,(Q'++e).take Q.length=Q':=fun e=>by rw[<-n];simp
 simp only[da,T.qaP,T.qbz,T.qav,ao,binds,bf]at o cx cy c;simp[oq,d0,fV,fM,gf,iy,hH,gI,fT,fb,gZ,fD,hI,gM,gg,gV,gD,gP,g0,gW,io,gr,gU,f_,hJ,ir,gH,gm,e_,da,splice,cx,cy,c,C,o,D,r,w,F,n]
theorem Uc(h:Eqr s u S Q k a b x y g g' X Y)(rest:bh)(next:Int)(n:rest.length<=1099511627776)(hc:(T.cmp x y==0)=false)(q:x.f≠-1)(c:y.f≠-1)(p:x.f≠y.f):
 aj XV 248 [.ptr k 0,.d (bf (⟨a,b⟩::rest)),.d (binds .sub u),aa next] Q=some (.d (.tup []),Q.set k (some (rU s S.st))):=by
 rw[tn h rest next n];obtain⟨C,J,I,hx,hy,cx,cy,bx,b'⟩:=h;have w:=q_len C;have i:=lU x y bx b';rw[hc]at i;obtain⟨r,xv,xk⟩:=x;obtain⟨o,yv,yk⟩:=y;simp only[T.qaP]at q c p;have H:(r== -1)=false:=by simpa using q
 have m:(o== -1)=false:=by simpa using c
 have j:(r !=o)=true:=by simpa using p
 generalize some (rU s S.st)=v at*
 have D:Q.length+1<Q.length+2:=by omega
 have F:k<Q.length+2:=by omega
 have z:∀v e,(Q.set k v++e).take Q.length=Q.set k v:=fun v e=>by rw[List.take_left' (by simp)]
 simp only[T.qaP,T.qbz,T.qav,ao]at cx cy;simp[oq,d0,fV,fM,gf,iy,hH,gI,fT,fb,gZ,fD,hI,gM,gg,gV,gD,gP,g0,gW,io,gr,gU,f_,hJ,ir,gH,gm,e_,da,splice,cx,cy,i,H,m,j,w,D,F,z]
theorem Ws(h:Eqr s u S Q k a b x y g g' X Y)(rest:bh)(next:Int)(Q':az)(p:rest.length<=1099511627776)(O:SgOk s)(hc:(T.cmp x y==0)=false)(w:x.f≠-1)(q:x.f=y.f)(n:br s x.f=true)(r:Q'.length=Q.length)
 (j:∀e,aj XV 253 [.ptr k 0,.d (x.enc .sub),.d (y.enc .sub),.d (bf rest),.d (binds .sub u),aa next] (Q.set k (some (rU s S.st))++e)=some (.d (.tup []),Q'++e)):
 aj XV 248 [.ptr k 0,.d (bf (⟨a,b⟩::rest)),.d (binds .sub u),aa next] Q=some (.d (.tup []),Q'):=by
 rw[tn h rest next p];obtain⟨z,V,P,hx,hy,cx,cy,bx,b'⟩:=h;have m:=q_len z;have i:=lU x y bx b';rw[hc]at i;have o:=j (da x y g g' X Y);have c:=BS s O.len x.f;rw[n]at c;obtain⟨I,xv,xk⟩:=x;obtain⟨R,yv,yk⟩:=y;simp only[T.qaP]at w q c;subst q;have J:(I== -1)=false:=by simpa using w
 rw[nh]at o⊢
 have D:Q.length+1<Q.length+2:=by omega
 have F:k<Q.length+2:=by omega
 have M:¬(Q.length+2<=k):=by omega
 have H:¬(Q.length+2<=Q.length):=by omega
 have C:¬(Q.length+2<=Q.length+1):=by omega
 have K:∀e,(Q'++e).take Q.length=Q':=fun e=>by rw[<-r];simp
 simp only[da,T.qaP,T.qbz,T.qav,ao,binds,bf]at o cx cy i;simp[oq,d0,fV,fM,gf,iy,hH,gI,fT,fb,gZ,fD,hI,gM,gg,gV,gD,gP,g0,gW,io,gr,gU,f_,hJ,ir,gH,gm,e_,da,splice,cx,cy,i,J,c,o,m,D,F,M,H,C,K,r,jk m,ml m]
theorem TQ(v:Option aG)(rest:bh)(next:Int)(hk:k<Q.length)(cx:X.map DV.clr=x.kids.map (T.enc .sub))(cy:Y.map DV.clr=y.kids.map (T.enc .sub))(O:x.kids.length<=1099511627776)(K:x.kids.length=y.kids.length):
 bq XV (XV.lin 248) (Q.length+2) [0,2,3,8,9,10,11,12] wK ⟨e_ u k Q.length next rest++[(11,.d (.sl U [])),(12,aa 0)],Q.set k v++da x y g g' X Y⟩=
  some (.exit 1,⟨e_ u k Q.length next rest++[(11,.d (.sl U ((bE x.kids y.kids x.kids.length).map (Eqn.enc .sub .sub)))),(12,aa x.kids.length),(95,au false)],Q.set k v++da x y g g' X Y⟩):=by
 have C:(Q.set k v++da x y g g' X Y).length=Q.length+2:=by simp[da]
 have w:(Q.set k v++da x y g g' X Y).take (Q.length+2)=Q.set k v++da x y g g' X Y:=dD (by omega);have e:k<Q.length+2:=by omega
 have j:Q.length+1<Q.length+2:=by omega
 have z:¬(Q.length+2<=Q.length):=by omega
 have D:¬(Q.length+2<=Q.length+1):=by omega
 have o:X.length=x.kids.length:=by have:=Eg List.length cx;simpa using this
 have J:Y.length=y.kids.length:=by have:=Eg List.length cy;simpa using this
 have h:=dW (X:=XV) (T:=XV.lin 248) (L:=Q.length+2) (live:=[0,2,3,8,9,10,11,12]) (b:=wK) (n:=x.kids.length) (γ:=Unit) (R:=fun _=>(.ret,⟨[],[]⟩)) (step:=fun _ _=> .inl ())
  (st:=fun(_:Unit) i=>⟨e_ u k Q.length next rest++[(11,.d (.sl U ((bE x.kids y.kids i).map (Eqn.enc .sub .sub)))),(12,aa i)],Q.set k v++da x y g g' X Y⟩) 1 95 (fun _ _=>True) ()
  (fun _ _=>by simp[wK,fV,fM,gf,iy,hH,gI,fT,fb,gZ,fD,hI,gM,gg,gV,gD,gP,g0,gW,io,gr,gU,f_,hJ,ir,gH,gm,e_,da,e,j,z,D,o,cx,splice])
  (fun _ i hi _=>by
   have m:=aV (n:=i) (by omega);have c:i<y.kids.length:=by omega
   have F:=o_ x.kids y.kids i;have I:=Cf (bE x.kids y.kids i) .sub .sub ⟨ai x.kids i,ai y.kids i⟩ (by omega);have M:bE x.kids y.kids (i+1)=bE x.kids y.kids i++[⟨ai x.kids i,ai y.kids i⟩]:=rfl;have H:=aZ hi;have r:=aZ c;refine⟨⟨⟨e_ u k Q.length next rest++[(11,.d (.sl U ((bE x.kids y.kids (i+1)).map (Eqn.enc .sub .sub)))),(12,aa (i+1:Nat))],Q.set k v++da x y g g' X Y⟩,?_,by simp[e_,aA,aB,w,C,e,j]⟩,fun _ _=>trivial⟩;rw[M];generalize (bE x.kids y.kids i++[Eqn.mk (ai x.kids i) (ai y.kids i)]).map (Eqn.enc .sub .sub)=L2 at*
   generalize (bE x.kids y.kids i).map (Eqn.enc .sub .sub)=L1 at*
   generalize ai x.kids i=p at*
   generalize ai y.kids i=q at*
   obtain⟨xf,xv,xk⟩:=x;obtain⟨P,yv,yk⟩:=y;obtain⟨Z,pv,V⟩:=p;obtain⟨qf,qv,qk⟩:=q;simp only[T.qav,Eqn.enc,T.qaP,T.qbz]at H r hi c I o J cx cy⊢
   simp[wK,fV,fM,gf,iy,hH,gI,fT,fb,gZ,fD,hI,gM,gg,gV,gD,gP,g0,gW,io,gr,gU,f_,hJ,ir,gH,gm,e_,da,hi,c,m,cut,H,r,I,e,j,z,D,o,J,cx,cy,splice])
  trivial (by simp[e_,aA,aB,w,C,e,j,bE])
 rw[dB]at h;exact h
theorem Ys(h:Eqr s u S Q k a b x y g g' X Y)(rest:bh)(next:Int)(Q':az)(V:rest.length<=1000000000)(Z:SgOk s)(hc:(T.cmp x y==0)=false)(J:x.f≠-1)(r:x.f=y.f)(p:br s x.f=false)(m:x.kids.length=y.kids.length)(hl:x.kids.length<=1000000000)(F:Q'.length=Q.length)
 (o:∀e,aj XV 248 [.ptr k 0,.d (bf (bE x.kids y.kids x.kids.length++rest)),.d (binds .sub u),aa next] (Q.set k (some (rU s S.st))++e)=some (.d (.tup []),Q'++e)):
 aj XV 248 [.ptr k 0,.d (bf (⟨a,b⟩::rest)),.d (binds .sub u),aa next] Q=some (.d (.tup []),Q'):=by
 rw[tn h rest next (by omega)];obtain⟨K,ho,hw,hx,hy,cx,cy,bx,b'⟩:=h;have n:=q_len K;have j:=lU x y bx b';rw[hc]at j;have q:=o (da x y g g' X Y);have i:=BS s Z.len x.f;rw[p]at i;have c:=TQ (u:=u) (g:=g) (g':=g') (some (rU s S.st)) rest next n cx cy (by omega) m;have O:=o_ x.kids y.kids x.kids.length;have H:=GD (bE x.kids y.kids x.kids.length) rest .sub .sub (by omega);obtain⟨M,xv,xk⟩:=x;obtain⟨yf,yv,yk⟩:=y;simp only[T.qaP,T.qav]at J r i m;subst r;have P:(M== -1)=false:=by simpa using J
 rw[nh]at q c⊢
 have z:Q.length+1<Q.length+2:=by omega
 have C:k<Q.length+2:=by omega
 have I:¬(Q.length+2<=k):=by omega
 have D:¬(Q.length+2<=Q.length):=by omega
 have w:¬(Q.length+2<=Q.length+1):=by omega
 have R:∀e,(Q'++e).take Q.length=Q':=fun e=>by rw[<-F];simp
 simp only[da,e_,T.qaP,T.qbz,T.qav,qUW,cL,bf,binds,ao,c9,co]at q c H cx cy j;simp[oq,d0,fV,fM,gf,iy,hH,gI,fT,fb,gZ,fD,hI,gM,gg,gV,gD,gP,g0,gW,io,gr,gU,f_,hJ,ir,gH,gm,e_,da,splice,cx,cy,j,P,i,n,z,C,I,D,w,jk n,ml n];rw[c];simp[d0,fV,fM,gf,iy,hH,gI,fT,fb,gZ,fD,hI,gM,gg,gV,gD,gP,g0,gW,io,gr,gU,f_,hJ,ir,gH,gm,n,z,C,I,D,w,H,q,R,F,splice]
end
section
variable {s:aD} {G:Nat->bh->aF->Int->Prop}
def EF(s:aD)(G:Nat->bh->aF->Int->Prop)(k n:Nat):Prop:=
 ∀(l:bh) (u:aF) (next:Int) (S:US) (Q:az),Q[k]?=some (some (rU s S))->G n l u next->S.Ok->(S.over=true\/402<=n+S.work)->
  aj XV 248 [.ptr k 0,.d (bf l),.d (binds .sub u),aa next] Q=some (.d (.tup []),Q.set k (some (rU s (S.run (cN s n l u next)))))
theorem Pm(r:SgOk s){n:Nat}(q:EF s G k n){rest:bh}(p:S.Ok)(j:402<=n+S.work)(o:t.inner<=1099511627776)
 (i:¬0<cnt t v->SubFit s u v t/\(ez s (bB s u v t)=true->G n rest (bB s u v t) next)) (R:az) (c:R[k]?=some (some (rU s S))):
 aj XV 252 [.ptr k 0,.d (bf rest),.d (binds .sub u),aa next,aa v,.d (t.enc .sub)] R=some (.d (.tup []),R.set k (some (rU s (S.run (oU (cN s n) s v t rest u next))))):=by
 rw[WJ v next t rest u k S R (R.set k (some (rU s (S.run (cN s n rest (bB s u v t) next))))) r c o (fun h=>(i h).1) (by simp) (fun hc m e=>by rw[q rest _ next S (R++e) (dv c e) ((i hc).2 m) p (.inr j),gn c])]
 unfold oU
 by_cases hc:0<cnt t v
 ·rw[ay hc,ay hc,US.qh4,lp c]
 ·rw[aC hc,aC hc]
  split
  ·rfl
  ·rw[US.qsb]
theorem L6(R:SgOk s)(F:Safe s G):∀n,EF s G k n
 |0=>fun l u next S Q r C hO hn=>by
  have ho:S.over=true:=by
   rcases hn with h|h
   ·exact h
   ·cases c:S.over with
    |true=>rfl
    |false=>have:=(hO.o c).2;omega
  rw[US.qeM S ho,lp r];exact N7 u next k S Q l r ho
 |n+1=>fun l u next S Q r C hO hn=>by
  have ih:EF s G k n:=L6 R F n;cases c:S.over with
  |true=>rw[US.qeM S c,lp r];exact N7 u next k S Q l r c
  |false=>
   have hn:402<=n+1+S.work:=by rcases hn with h|h;(·rw[c]at h;cases h);exact h
   obtain⟨h60,h400⟩:=hO.o c;obtain⟨z,K,hul,h4,hnx1⟩:=F.len C
   match l,C,z with
   | [],C,z=>show _=some (AV.d (.tup []),Q.set k (some (rU s (S.ev (.found u)))));exact q2l u next k S Q r c h60 hO.t K
   |⟨a,b⟩::rest,C,z=>
    have hrl:rest.length<=10000000:=by simp only[c7]at z;omega
    have D:S.ev .step={S with work:=S.work+1,over:=decide (400<S.work+1)}:=by unfold US.ev;rw[c];rfl
    by_cases hwk:S.work+1<=400
    case neg=>
     have:S.run (cN s (n+1) (⟨a,b⟩::rest) u next)={S with work:=S.work+1,over:=true}:=by
      simp only[cN];rw[US.qgO,D];have:decide (400<S.work+1)=true:=by simp;omega
      rw[this];exact US.qeM _ rfl _
     rw[this];exact UB u next k S Q _ (by simp) r c (by omega) (by omega)
    case pos=>
     have hst:S.ev .step=S.st:=by
      rw[D];have:decide (400<S.work+1)=false:=by simp;omega
      rw[this,<-c];rfl
     have x1:S.run (cN s (n+1) (⟨a,b⟩::rest) u next)=S.st.run (tS (cN s n) s (aT s u a) (aT s u b) rest u next):=by simp only[cN];rw[US.qgO,hst]
     rw[x1];obtain⟨a1,a2,a3⟩:=F.a C;obtain⟨b1,b2,b3⟩:=F.b C;obtain⟨_,hx,g,X,rfl,cx⟩:=Hu s R.len u a K.1 K.2 a1 a2;obtain⟨_,hy,g',Y,rfl,cy⟩:=Hu s R.len u b K.1 K.2 b1 b2;have Z:Eqr s u S Q k a b (aT s u a) (aT s u b) g g' X Y:=⟨r,c,hwk,hx,hy,cx,cy,by omega,by omega⟩;have O:=US.q3v hO c hwk;have V:402<=n+S.st.work:=by show 402<=n+(S.work+1);omega
     have hk:=q_len r;have hR:∀e,(Q.set k (some (rU s S.st))++e)[k]?=some (some (rU s S.st)):=fun e=>jk hk _ e
     have h5:∀l' u' next' e,G n l' u' next'->aj XV 248 [.ptr k 0,.d (bf l'),.d (binds .sub u'),aa next'] (Q.set k (some (rU s S.st))++e)=some (.d (.tup []),Q.set k (some (rU s (S.st.run (cN s n l' u' next'))))++e):=fun l' u' next' e h1=>by rw[ih l' u' next' S.st _ (hR e) h1 O (.inr V),jJ hk]
     unfold tS
     by_cases hc:(T.cmp (aT s u a) (aT s u b)==0)=true
     ·rw[ay hc]
      exact XZ Z rest next _ (by omega) hc (by simp) fun e=>h5 _ _ _ e (F.same C)
     ·rw[aC hc]
      have hc:(T.cmp (aT s u a) (aT s u b)==0)=false:=by simpa using hc
      by_cases H:(aT s u a).f= -1
      ·rw[ay H]
       refine X3 Z rest next _ (by omega) hc H (by simp) fun e=> ?_
       rw[Pm R ih O V (by omega) (fun h=>F.bindx C H h) _ (hR e),jJ hk]
      ·rw[aC H]
       by_cases I:(aT s u b).f= -1
       ·rw[ay I]
        refine qOn Z rest next _ (by omega) hc H I (by simp) fun e=> ?_
        rw[Pm R ih O V (by omega) (fun h=>F.bindy C H I h) _ (hR e),jJ hk]
       ·rw[aC I]
        by_cases M:(aT s u a).f=(aT s u b).f
        case neg=>rw[ay M,US.qh4];exact Uc Z rest next (by omega) hc H I M
        case pos=>
         rw[aC (fun h=>h M)];have h2:∀t:T,t.inner<=1000000000->t.kids.length<=1000000000/\∀q,q∈t.kids->q.inner<=1000000000:=fun t ht=>by obtain⟨f,v,ks⟩:=t;rw[T.qa1]at ht;exact⟨by have:=g8 ks;simp only[T.qav];omega,fun q r=>by have:=eS (show q∈ks from r);omega⟩
         have h3:=h2 _ a3;have hxb:=h2 _ b3
         by_cases p:br s (aT s u a).f=true
         ·rw[ay p]
          refine Ws Z rest next _ (by omega) R hc H M p (by simp) fun e=> ?_
          have x2:=fun all ways m=>F.choose (rest:=rest) (next:=next) all ways m C M p
          clear Z hx hy cx cy;generalize hX:aT s u a=x at*
          generalize hY:aT s u b=y at*
          obtain⟨xf,xv,xk⟩:=x;obtain⟨yf,yv,yk⟩:=y;simp only[T.qaP,T.qav]at*
          subst M;rw[XT xf xv yv next xk yk rest u k S.st _ (cN s n) R (hR e) ⟨h4,hnx1⟩ (by omega) (by omega) (by omega) (fun q r=>by have:=h3.2 q r;omega) (fun q r=>by have:=hxb.2 q r;omega) (fun all ways m S' Q' x3 P J hf hrr hq' h99=>by
           have h1:=x2 all ways m x3 P J hf h99;obtain⟨i,c2⟩:=hrr;have c1:∀w,UEv.found w∈(List.range i).flatMap (eW (cN s n) s xf all ways rest u next)->small w:=fun w hw=>by
            obtain⟨j,_,hj⟩:=tX.1 hw;unfold eW at hj;split at hj
            ·rename_i hfj
             split at hj
             ·simp at hj
             ·rename_i hj99
              exact ML F n _ _ _ (x2 all ways j x3 P J hfj (by omega)) w hj
            ·simp at hj
           have hO':S'.Ok:=by rw[c2];exact US.Ok.run O c1
           have hw':402<=n+S'.work:=by have:=(US.qnV ((List.range i).flatMap (eW (cN s n) s xf all ways rest u next)) S.st).1;rw[<-c2]at this;omega
           exact ih _ _ _ S' Q' hq' h1 hO' (.inr hw')),jJ hk]
         ·rw[aC p]
          have p:br s (aT s u a).f=false:=by simpa using p
          exact Ys Z rest next _ (by omega) R hc H M p (F.arity C H M p) h3.1 (by simp) fun e=>h5 _ _ _ e (F.pairs C H M p)
end
end Go.Proofs.YtpcoohnjllclnaaGreat.VS
