/- Contracts of the program's functions on the evaluator without names, and plain lemmas: part 7. -/
import Derived.Test.YtpcoohnjllclnaaGreatXP6
import Derived.Test.YtpcoohnjllclnaaGreatNat1
import Derived.Test.YtpcoohnjllclnaaGreatEngC
import Derived.Shelf.Spec.SlicesInsertGrow
import Derived.Laws.AppendOwn
set_option linter.unusedSimpArgs false
set_option linter.unusedVariables false
namespace Go.Proofs.YtpcoohnjllclnaaGreat.VS
theorem qIZ(n v w:Int):cz (cz n v) w=cz (cz n w) v:=by
 unfold cz
 repeat' split
 all_goals omega
variable{s:aD}
theorem BV{t:T}(h:cq s t=true):t.inner+1<=60:=by unfold cq at h;simp only[cd,cB]at h;exact h.2.1
def eT(n:Int)(t:T):Int:=(dj t).foldl cz n
theorem xF:∀(ts:ah) (n:Int),ts.foldl eT n=(ts.flatMap dj).foldl cz n
 | [],n=>rfl
 |t::ts,n=>by rw[jv,xF ts,mC,xO];rfl
theorem KC:∀(l:bh) (n:Int),l.foldl lW n=(l.map Eqn.b).foldl eT ((l.map Eqn.a).foldl eT n)
 | [],n=>rfl
 |e::l,n=>by
  have key:∀(xs:ax) (m v:Int),xs.foldl cz (cz m v)=cz (xs.foldl cz m) v:=fun xs=>by
   induction xs with
   |nil=>intro m v;rfl
   |cons x xs g=>intro m v;simp only[jv];rw[qIZ,g]
  have swap:∀(xs d:ax) (m:Int),xs.foldl cz (d.foldl cz m)=d.foldl cz (xs.foldl cz m):=fun xs d=>by
   induction d with
   |nil=>intro m;rfl
   |cons y d g=>intro m;simp only[jv];rw[g,key]
  rw[jv,KC l];simp only[bF,jv];rw[xF,xF,xF,xF];unfold lW eT;rw[xO,swap ((l.map Eqn.a).flatMap dj) (dj e.b)]
section
variable (ts:ah)
def nO(n:Int)(i:Nat):aI:=[(0,.d (ao .sub ts)),(1,aa n),(5,aa i)]
theorem qxd(i:Nat)(n:Int)(vs:ax)(C:∀v,v∈vs->0<=v/\v<=99)(D:0<=n/\n<=100)(F:vs.length<=1000000):
 bq XV (XV.lin 247) 0 [0,1,5,6,7] xe ⟨nO ts n i++[(6,.d (is vs)),(7,aa 0)],[]⟩=
  some (.exit 2,⟨nO ts (vs.foldl cz n) i++[(6,.d (is vs)),(7,aa vs.length),(22,au false)],[]⟩):=by
 have h:=dW (X:=XV) (T:=XV.lin 247) (L:=0) (live:=[0,1,5,6,7]) (b:=xe) (n:=vs.length) (γ:=Unit) (R:=fun _=>(.ret,⟨[],[]⟩)) (step:=fun a j=> .inl (cz a ((vs[j]?).getD 0)))
  (st:=fun(a:Int) j=>⟨nO ts a i++[(6,.d (is vs)),(7,aa j)],[]⟩) 2 22 (fun a _=>0<=a/\a<=100) n
  (fun a _=>by simp[xe,ow,pN,pt,pM,oM,po,oX,o7,pE,px,nO])
  (fun a j p w=>by
   have r:=aV (n:=j) (by omega);have q:(vs[j]?).getD 0=vs[j]:=by simp[p]
   have o:=C _ (gB p);rw[q];have z:=FZ w o;generalize hx:vs[j]=x at*
   have g:IntKind.i64.wrap (x+1)=x+1:=wrap_i64 (by omega) (by omega);have e:=JZ a (x+1);have l:(if x+1>a then x+1 else a)=cz a x:=rfl;rw[l]at e;refine⟨⟨⟨nO ts (cz a x) i++[(6,.d (is vs)),(7,aa (j+1:Nat))],[]⟩,?_,by simp[nO,aA,aB]⟩,fun a' h=>by cases h;exact z⟩;generalize cz a x=m at*
   simp[xe,ow,pN,pt,pM,oM,po,oX,o7,pE,px,nO,p,r,g,hx,e,cut,splice])
  D (by simp[nO,aA,aB])
 rw[C3 vs 0 cz vs.length 0 n (by omega)]at h;simpa[nO]using h
theorem Pz(n:Int)(F:0<=n/\n<=100)(Q:ts.length<=1000000)(p:∀t,t∈ts->cq s t=true):
 aj XV 247 [.d (ao .sub ts),aa n] []=some (aa (ts.foldl eT n),[])/\0<=ts.foldl eT n/\ts.foldl eT n<=100:=by
 have j:∀a t,0<=a/\a<=100->t∈ts->0<=eT a t/\eT a t<=100:=fun a t e r=>B3 _ a e fun v o=>so (p t r) o
 have h:=dW (X:=XV) (T:=XV.lin 247) (L:=0) (live:=[0,1,5]) (b:=wP) (n:=ts.length) (γ:=Unit) (R:=fun _=>(.ret,⟨[],[]⟩)) (step:=fun a i=> .inl (eT a (ai ts i)))
  (st:=fun(a:Int) i=>⟨nO ts a i,[]⟩) 0 11 (fun a _=>0<=a/\a<=100) n
  (fun a _=>by simp[wP,ow,pN,pt,pM,oM,po,oX,o7,pE,px,nO])
  (fun a i hi e=>by
   have J:=aV (n:=i) (by omega);have r:=bM hi;have C:=p _ r;have H:=BV C;have M:=Gs C;have o:=Q7 (ai ts i) (by omega);have g:=qxd ts i a (dj (ai ts i)) (fun v o=>so C o) e (by omega);have z:=aZ hi;refine⟨⟨⟨nO ts (eT a (ai ts i)) (i+1),[]⟩,?_,by simp[nO,aA,aB]⟩,fun a' h=>by cases h;exact j a _ e r⟩;unfold eT;generalize dj (ai ts i)=vs at*
   generalize ai ts i=t at*
   generalize vs.foldl cz a=m at*
   obtain⟨N,S,O⟩:=t;simp only[PD,nO,c9,co]at g;simp[wP,ow,pN,pt,pM,oM,po,oX,o7,pE,px,nO,hi,z,o,cut,splice];rw[g];simp[wP,ow,pN,pt,pM,oM,po,oX,o7,pE,px,J])
  F (by simp[nO,aA,aB])
 rw[xm]at h;have w:∀(l:ah) (a:Int),(∀t,t∈l->t∈ts)->0<=a/\a<=100->0<=l.foldl eT a/\l.foldl eT a<=100:=fun l=>by
  induction l with
  |nil=>intro a _ e;exact e
  |cons t l K=>intro a D e;exact K _ (fun q I=>D q (by simp[I])) (j a t e (D t (by simp)))
 refine⟨?_,w ts n (fun t h=>h) F⟩;rw[aK 247 x7 rfl];simp only[PD,nO,dC,c9,co]at h;simp[x7,ow,pN,pt,pM,oM,po,oX,o7,pE,px];rw[h];simp[x7,ow,pN,pt,pM,oM,po,oX,o7,pE,px]
end
theorem Jy(x y:ah):∀n,n<=x.length->(bE x y n).map Eqn.a=x.take n
 |0,_=>by simp[bE]
 |n+1,h=>by simp only[bE,cL,Jy x y n (by omega),bF,bT];rw[pW,fp (by omega),aZ (by omega)];rfl
theorem OG(x y:ah):∀n,n<=y.length->(bE x y n).map Eqn.b=y.take n
 |0,_=>by simp[bE]
 |n+1,h=>by simp only[bE,cL,OG x y n (by omega),bF,bT];rw[pW,fp (by omega),aZ (by omega)];rfl
theorem NX(x y:ah):∀n e,e∈bE x y n->∃i,i<n/\e=⟨ai x i,ai y i⟩
 |0,e,h=>by simp[bE]at h
 |n+1,e,h=>by
  rcases bw.1 h with h|h
  ·obtain⟨i,hi,d⟩:=NX x y n e h
   exact⟨i,by omega,d⟩
  ·exact⟨n,by omega,fS.1 h⟩
def lw(s:aD)(x y:ah)(i:Nat):Bool:= !jX s ⟨ai x i,ai y i⟩
theorem S4(s:aD)(x y:ah):∀n,fP s (bE x y n)=(aR (lw s x y) n 0).isNone:=fun n=>by
 have key:∀n,fP s (bE x y n)=true↔∀i,i<n->lw s x y i=false:=fun n=>by
  induction n with
  |zero=>simp[fP,bE]
  |succ n l=>
   have:fP s (bE x y (n+1))=(fP s (bE x y n)&&jX s ⟨ai x n,ai y n⟩):=by simp[fP,bE,HE]
   rw[this,cd,l];constructor
   ·intro⟨g,d⟩ i hi
    by_cases e:i=n
    ·subst e;unfold lw;rw[d];rfl
    ·exact g i (by omega)
   ·intro h
    exact⟨fun i hi=>h i (by omega),by have:=h n (by omega);unfold lw at this;simpa using this⟩
 rw[pY,key n];constructor
 ·intro h
  cases hf:aR (lw s x y) n 0 with
  |none=>rfl
  |some j=>obtain⟨_,g,d⟩:=dy _ _ _ _ hf;rw[h j (by omega)]at d;cases d
 ·intro h i hi
  exact q_ _ _ h i hi
def tQ(s:aD)(x y:ah):List aF×Int:=if x.length=y.length/\b4 x.length 1 4=true then qH s (bE x y x.length)else([],1)
section
variable {s:aD} {G:Nat->bh->aF->Int->Prop} (x y:ah)
end
def md(s:aD)(a b:T):List aF×Int:=tQ s [a] [b]
def yn(s:aD)(a b:T):Bool:=((md s a b).2==0)&&decide (0<(md s a b).1.length)
section
variable {s:aD} {G:Nat->bh->aF->Int->Prop}
theorem qmj(x y:ah)(F:SgOk s)(hS:Safe s G)(hG:∀l,l.length<=4->fP s l=true->G 402 l [] (fy l))(hl:x.length<=1099511627776)(bx:∀t,t∈x->t.inner<=1099511627776)(Y:∀t,t∈y->t.inner<=1099511627776):
 aj XV 240 [.d (sg s),.d (ao .sub x),.d (ao .sub y)] []=some (.d (.tup [dI (tQ s x y).1,.int .i64 (tQ s x y).2]),[]):=by
 rw[aK 240 l7 rfl];have g:=lT x.length 1 4;unfold tQ
 by_cases r:x.length=y.length
 case neg=>
  rw[aC (fun h=>r h.1)];have:((x.length:Int) !=(y.length:Int))=true:=by simp;omega
  simp[l7,jx,jV,jZ,jL,jF,jB,jK,jG,jN,lm,jA,jM,jU,jz,kH,jP,this,splice]
 case pos=>
  have w:((x.length:Int) !=(y.length:Int))=false:=by simp;omega
  cases hi4:b4 x.length 1 4 with
  |false=>rw[hi4]at g;rw[aC (by simp)];rw[r]at g w;simp[l7,jx,jV,jZ,jL,jF,jB,jK,jG,jN,lm,jA,jM,jU,jz,kH,jP,w,g,r,splice]
  |true=>
   rw[hi4]at g;rw[ay ⟨r,rfl⟩];have h4:x.length<=4:=by unfold b4 at hi4;simp at hi4;omega
   have h5:=o_ x y x.length;have h:=dW (X:=XV) (T:=XV.lin 240) (L:=0) (live:=[0,1,2,8,9,10]) (b:=sU) (n:=x.length) (γ:=Nat) (R:=fun _=>(.ret,⟨[(6,.d (.sl U [])),(7,aa 1)],[]⟩)) (step:=bH (lw s x y))
    (st:=fun(_:Unit) i=>⟨[(0,.d (sg s)),(1,.d (ao .sub x)),(2,.d (ao .sub y)),(8,.d (.sl U [])),(9,.d (.sl U ((bE x y i).map (Eqn.enc .sub .sub)))),(10,aa i)],[]⟩) 0 29 (fun _ _=>True) ()
    (fun _ _=>by simp[sU,jx,jV,jZ,jL,jF,jB,jK,jG,jN,lm,jA,jM,jU,jz,kH,jP])
    (fun _ i hi _=>by
     have Q:=aV (n:=i) (by omega);have o:i<y.length:=by omega
     have h3:=o_ x y i;have ha:=Cf (bE x y i) .sub .sub ⟨ai x i,ai y i⟩ (by omega);have O:bE x y (i+1)=bE x y i++[⟨ai x i,ai y i⟩]:=rfl;have I:=aZ hi;have V:=aZ o;have C:=EL s F.len F.nam (ai x i) (bx _ (bM hi));have H:=EL s F.len F.nam (ai y i) (Y _ (bM o));unfold bH;have K:lw s x y i= !(cq s (ai x i)&&cq s (ai y i)):=rfl;rw[K];refine⟨?_,fun _ _=>trivial⟩;cases c1:cq s (ai x i)with
     |false=>
      rw[c1]at C;simp only[re,kX,if_true];generalize (bE x y i).map (Eqn.enc .sub .sub)=L1 at*
      generalize ai x i=p at*
      obtain⟨pf,pv,pk⟩:=p;exact⟨by simp,by simp[sU,jx,jV,jZ,jL,jF,jB,jK,jG,jN,lm,jA,jM,jU,jz,kH,jP,hi,o,cut,I,V,C,splice]⟩
     |true=>
      rw[c1]at C;cases c2:cq s (ai y i)with
      |false=>
       rw[c2]at H;simp only[eE,kX,if_true];generalize (bE x y i).map (Eqn.enc .sub .sub)=L1 at*
       generalize ai x i=p at*
       generalize ai y i=q at*
       obtain⟨pf,pv,pk⟩:=p;obtain⟨qf,qv,qk⟩:=q;exact⟨by simp,by simp[sU,jx,jV,jZ,jL,jF,jB,jK,jG,jN,lm,jA,jM,jU,jz,kH,jP,hi,o,cut,I,V,C,H,splice]⟩
      |true=>
       rw[c2]at H;simp only[eE,lR,bg,if_false];refine⟨⟨[(0,.d (sg s)),(1,.d (ao .sub x)),(2,.d (ao .sub y)),(8,.d (.sl U [])),(9,.d (.sl U ((bE x y (i+1)).map (Eqn.enc .sub .sub)))),(10,aa (i+1:Nat))],[]⟩,?_,by simp[aA,aB]⟩;rw[O];generalize (bE x y i++[Eqn.mk (ai x i) (ai y i)]).map (Eqn.enc .sub .sub)=L2 at*
       generalize (bE x y i).map (Eqn.enc .sub .sub)=L1 at*
       generalize ai x i=p at*
       generalize ai y i=q at*
       obtain⟨pf,pv,pk⟩:=p;obtain⟨qf,qv,qk⟩:=q;simp only[Eqn.enc,T.qaP,T.qbz,T.qav]at ha;simp[sU,jx,jV,jZ,jL,jF,jB,jK,jG,jN,lm,jA,jM,jU,jz,kH,jP,hi,o,Q,cut,I,V,C,H,ha,splice])
    trivial (by simp[aA,aB,bE])
   rw[cU]at h;have e:=S4 s x y x.length;simp only[Uz,bE,bT,dC]at h;unfold qH;cases hf:aR (lw s x y) x.length 0 with
   |some j=>rw[hf]at h e;simp only[Option.isNone_some]at e;rw[e];simp only[bg,if_false];simp[l7,jx,jV,jZ,jL,jF,jB,jK,jG,jN,lm,jA,jM,jU,jz,kH,jP,w,g,splice];rw[h];simp[l7,jx,jV,jZ,jL,jF,jB,jK,jG,jN,lm,jA,jM,jU,jz,kH,jP]
   |none=>
    rw[hf]at h e;simp only[Option.isNone_none]at e;rw[e];simp only[if_true];have z:∀t,(t∈x\/t∈y)->cq s t=true:=fun t D=>by
     have hq:=q_ (lw s x y) x.length (by rw[hf];rfl);rcases D with D|D
     ·obtain⟨i,hi,rfl⟩:=mT D
      have:=hq i hi;rw[aZ hi];unfold lw jX at this;simp at this;exact this.1
     ·obtain⟨i,hi,rfl⟩:=mT D
      have:=hq i (by omega);rw[aZ hi];unfold lw jX at this;simp at this;exact this.2
    obtain⟨n1,M,Z⟩:=Pz x 0 ⟨by omega,by omega⟩ (by omega) (fun t h=>z t (.inl h));obtain⟨N,_,_⟩:=Pz y _ ⟨M,Z⟩ (by omega) (fun t h=>z t (.inr h));have J:y.foldl eT (x.foldl eT 0)=fy (bE x y x.length):=by unfold fy;rw[KC,Jy x y _ (bI _),OG x y _ (by omega),jY,dD (by omega)]
    rw[J]at N;have hg:=hG _ (by omega) e;have hx:=L6 (k:=0) F hS 402 (bE x y x.length) [] _ ⟨[],0,false⟩ [some (rU s ⟨[],0,false⟩)] rfl hg ⟨nofun,c8 _,fun _=>⟨c8 _,c8 _⟩⟩ (.inr (by show 402<=402+0;omega));have O:(US.run ⟨[],0,false⟩ (cN s 402 (bE x y x.length) [] (fy (bE x y x.length))))=to s (bE x y x.length):=rfl;rw[O]at hx;generalize to s (bE x y x.length)=S at*
    generalize fy (bE x y x.length)=m at*
    generalize x.foldl eT 0=m0 at*
    generalize bE x y x.length=l at*
    obtain⟨told,work,over⟩:=S;simp only[rU,dI,bT,binds,bf]at hx⊢
    simp[l7,jx,jV,jZ,jL,jF,jB,jK,jG,jN,lm,jA,jM,jU,jz,kH,jP,w,g,splice];rw[h];cases over with
    |true=>simp at hx;simp[l7,jx,jV,jZ,jL,jF,jB,jK,jG,jN,lm,jA,jM,jU,jz,kH,jP,hx,n1,N,splice]
    |false=>simp at hx;simp[l7,jx,jV,jZ,jL,jF,jB,jK,jG,jN,lm,jA,jM,jU,jz,kH,jP,hx,n1,N,splice]
theorem qt4(a b:T)(w:SgOk s)(C:Safe s G)(q:∀l,l.length<=4->fP s l=true->G 402 l [] (fy l))(p:a.inner<=1099511627776)(D:b.inner<=1099511627776):
 aj XV 333 [.d (sg s),.d (a.enc .sub),.d (b.enc .sub)] []=some (.d (.tup [dI (md s a b).1,.int .i64 (md s a b).2]),[]):=by
 rw[aK 333 Ac rfl];have j:=Ss s [⟨a,b⟩] w (by simp) (fun e g=>by rw[fS.1 g];exact⟨p,D⟩) C (q _ (by simp));have g:md s a b=qH s [⟨a,b⟩]:=rfl;rw[g];generalize qH s [⟨a,b⟩]=r at*
 obtain⟨m,av,i⟩:=a;obtain⟨o,bv,h⟩:=b;have z:bf [⟨.node m av i,.node o bv h⟩]= .sl .sub [.agg [.int .i64 m,.int .i64 av,ao .sub i,.int .i64 o,.int .i64 bv,ao .sub h]]:=rfl;rw[z]at j;simp[Ac,j,splice]
theorem qsL(a b:T)(j:SgOk s)(m:Safe s G)(i:∀l,l.length<=4->fP s l=true->G 402 l [] (fy l))(g:a.inner<=1099511627776)(o:b.inner<=1099511627776):
 aj XV 302 [.d (sg s),.d (a.enc .sub),.d (b.enc .sub)] []=some (.d (.tup [dI (md s a b).1,.int .i64 (md s a b).2]),[]):=by
 rw[aK 302 BK rfl];have e:=qmj [a] [b] j m i (by simp) (by simpa using g) (by simpa using o);have h:md s a b=tQ s [a] [b]:=rfl;rw[h];generalize tQ s [a] [b]=r at*
 obtain⟨w,av,q⟩:=a;obtain⟨z,bv,p⟩:=b;simp only[ao,bF,bT]at e;simp[BK,e,splice]
theorem W8(a b:T)(i:SgOk s)(j:Safe s G)(g:∀l,l.length<=4->fP s l=true->G 402 l [] (fy l))(e:a.inner<=1099511627776)(m:b.inner<=1099511627776):
 aj XV 376 [.d (sg s),.d (a.enc .sub),.d (b.enc .sub)] []=some (au (yn s a b),[]):=by
 rw[aK 376 y4 rfl];have h:=qt4 a b i j g e m;unfold yn;generalize md s a b=r at*
 obtain⟨w,c⟩:=r;obtain⟨q,av,p⟩:=a;obtain⟨z,bv,o⟩:=b;cases hc:(c==0)<;>simp[y4,h,hc,splice]
theorem qn9(a b:T)(i:SgOk s)(j:Safe s G)(g:∀l,l.length<=4->fP s l=true->G 402 l [] (fy l))(e:a.inner<=1099511627776)(m:b.inner<=1099511627776):
 aj XV 375 [.d (sg s),.d (a.enc .sub),.d (b.enc .sub)] []=some (au (yn s a b),[]):=by
 rw[aK 375 DO rfl];have h:=qsL a b i j g e m;unfold yn;generalize md s a b=r at*
 obtain⟨w,c⟩:=r;obtain⟨q,av,p⟩:=a;obtain⟨z,bv,o⟩:=b;cases hc:(c==0)<;>simp[DO,h,hc,splice]
end
def RY(t:T)(n:Int):Int:=IntKind.i64.wrap (T.sum (wC n) t)
variable{f:Int}
theorem xE{l:aD}(h:br l f=true):f≠-1:=by unfold br at h;simp only[cd]at h;have:=(od h.1).1;omega
theorem count_le(t:T)(n:Int):0<=T.sum (wC n) t/\T.sum (wC n) t<=(t.inner:Int)+1:=by have h:=TY t [n] (ru _ _);simp only[bF,bT,nP,List.sum_nil]at h;have e:=yu (wC n) t;have d:=Jk (l:=t.nodes) (w:=wC n) (fun x _=>LH n x);have g:=IQ t;omega
theorem qKu(t:T)(n:Int)(h:t.inner<=1099511627776):RY t n=T.sum (wC n) t:=by have:=count_le t n;exact wrap_i64 (by omega) (by omega)
def bQ(s:aD)(u:aF)(t:T):T:=(bN u t).norm s
theorem nR(u:aF)(v:Int):bN u (.node (-1) v [])=cH u v:=by simp[bN]
variable{ks:ah}
theorem mW(u:aF){v:Int}(h:¬(f= -1/\ks.length=0)):bN u (.node f v ks)= .node f v (cb u ks):=by simp only[bN];rw[aC h]
theorem vF(s:aD)(u:aF){v:Int}(h:¬(f= -1/\ks.length=0))(d:¬br s f=true):bQ s u (.node f v ks)= .node f v (ks.map (bQ s u)):=by unfold bQ;rw[mW u h];simp only[T.norm];rw[aC d,nm s f d,T.norms_map,iW,eX];rfl
theorem uI(s:aD)(u:aF){v:Int}(d:br s f=true):bQ s u (.node f v ks)= .node f v (dL (flatK s f (ks.map (bQ s u)))):=by unfold bQ;rw[mW u (fun h=>xE d h.1)];simp only[T.norm];rw[ay d,T.norms_map,iW,eX];rfl
theorem MX{v:Int}(d:br s f=true):dw s f (.node f v ks)=ks:=by simp[dw,d]
variable{k:T}
theorem WN(h:k.f≠f):dw s f k=[k]:=by
 have:(k.f==f)=false:=by simpa using h
 simp[dw,this]
theorem qOE(s:aD)(u:aF)(f:Int)(d:br s f=true)(k:T):(flatK s f ((dw s f k).map (bQ s u))).Perm (dw s f (bQ s u k)):=by
 by_cases h:k.f=f
 ·obtain⟨e,v,ks⟩:=k
  simp only[T.qaP]at h;subst h;rw[MX d,uI s u d,MX d];exact(kM _).symm
 ·rw[WN h]
  simp[flatK]
theorem NK(s:aD)(u:aF)(f:Int)(d:br s f=true):∀l:ah,(flatK s f ((flatK s f l).map (bQ s u))).Perm (flatK s f (l.map (bQ s u)))
 | []=> .refl _
 |k::l=>by rw[lh,cL,LU,bF,lh];exact(qOE s u f d k).append (NK s u f d l)
mutual
theorem FF(s:aD)(u:aF):∀t:T,bQ s u (t.norm s)=bQ s u t
 | .node f v ks=>by
  have g:=MV s u ks
  by_cases e:f= -1/\ks.length=0
  ·obtain⟨rfl,i⟩:=e
   have:ks=[]:=kp i;subst this;have d:¬br s (-1)=true:=fun h=>xE h rfl
   simp only[T.norm];rw[aC d,nm s _ d];rfl
  ·by_cases d:br s f=true
   ·simp only[T.norm]
    rw[ay d,uI s u d,uI s u d,T.norms_map];rw[OC (qCb s f ((kM (flatK s f (ks.map (T.norm s)))).map (bQ s u)))];rw[OC (NK s u f d (ks.map (T.norm s)))];rw[eX,show ks.map (bQ s u∘T.norm s)=ks.map (bQ s u)from yY g]
   ·simp only[T.norm]
    rw[aC d,nm s f d,T.norms_map,vF s u (by simpa using e) d,vF s u e d,eX];rw[show ks.map (bQ s u∘T.norm s)=ks.map (bQ s u)from yY g]
theorem MV(s:aD)(u:aF):∀(l:ah) (t:T),t∈l->bQ s u (t.norm s)=bQ s u t
 | [],t,h=>by simp at h
 |a::l,t,h=>by
  rcases cE.1 h with h|h
  ·rw[h];exact FF s u a
  ·exact MV s u l t h
end
mutual
theorem Ji(u:aF):∀t:T,(∀x,x∈t.nodes->x.f= -1->cp u x.v=none)->bN u t=t
 | .node f v ks,h=>by
  by_cases d:f= -1/\ks.length=0
  ·obtain⟨rfl,g⟩:=d
   have e:ks=[]:=kp g;subst e;have:=h (.node (-1) v []) (by simp[T.nodes]) rfl;simp only[T.qbz]at this;rw[nR];unfold cH;rw[this]
  ·rw[mW u d,Lj u ks (fun x hx=>h x (by simp[T.nodes,hx]))]
theorem Lj(u:aF):∀ks:ah,(∀x,x∈T.nodess ks->x.f= -1->cp u x.v=none)->cb u ks=ks
 | [],_=>rfl
 |t::r,h=>by simp only[cb];rw[Ji u t (fun x hx=>h x (by simp[T.nodess,hx])),Lj u r (fun x hx=>h x (by simp[T.nodess,hx]))]
end
def vz(u:aF):Prop:=∀i,i<u.length->bN u (aQ u i).t=(aQ u i).t
variable{u:aF}
theorem Tg(h:vz u)(v:Int):bN u (cH u v)=cH u v:=by
 unfold cH;cases hf:cp u v with
 |none=>simp only;rw[nR];unfold cH;rw[hf]
 |some i=>simp only;unfold cp at hf;exact h i (by have:=(dy _ _ _ _ hf).2.1;omega)
mutual
theorem Kz{u:aF}(h:vz u):∀t:T,bN u (bN u t)=bN u t
 | .node f v ks=>by
  by_cases d:f= -1/\ks.length=0
  ·obtain⟨rfl,i⟩:=d
   have g:ks=[]:=kp i;subst g;rw[nR,Tg h]
  ·have e:¬(f= -1/\(cb u ks).length=0):=by rw[iW,cT];exact d
   rw[mW u d,mW u e,Ni h ks]
theorem Ni{u:aF}(h:vz u):∀l:ah,cb u (cb u l)=cb u l
 | []=>rfl
 |t::r=>by simp only[cb];rw[Kz h t,Ni h r]
end
theorem Ll(s:aD)(h:vz u)(t:T):aT s u (aT s u t)=aT s u t:=by show bQ s u ((bN u t).norm s)=bQ s u t;rw[FF];unfold bQ;rw[Kz h]
theorem OQ{w:T->Int}:∀{l:ah},(∀x,x∈l->0<=w x)->∀x,x∈l->w x<=(l.map w).sum
 | [],_,x,h=>by simp at h
 |a::l,d,x,h=>by
  have e:=d a (by simp);have g:=Jk (l:=l) (w:=w) (fun y hy=>d y (by simp[hy]));simp only[bF,nP];rcases cE.1 h with h|h
  ·subst h;omega
  ·have:=OQ (fun y hy=>d y (by simp[hy])) x h;omega
theorem Nl(L:aF)(v:Int)(t:T)(e:∀b,b∈L->b.v=v->b.t=t)(g:∃b,b∈L/\b.v=v):cH L v=t:=by
 unfold cH;cases hf:cp L v with
 |none=>exfalso;obtain⟨b,j,d⟩:=g;obtain⟨i,hi,rfl⟩:=mT j;unfold cp at hf;have:=q_ _ _ (by rw[hf];rfl) i hi;rw[df hi]at d;simp only[beq_eq_false_iff_ne,eg]at this;exact this d
 |some i=>unfold cp at hf;obtain⟨_,l,h⟩:=dy _ _ _ _ hf;exact e _ (iK (by omega)) (by simpa using h)
theorem I8(l:aD)(u:aF)(v:Int)(t:T):∀i,∀b,b∈cM l u v t i->b.v=v->b.t=t
 |0,b,h,_=>by simp[cM]at h
 |i+1,b,h,d=>by
  simp only[cM]at h;rcases bw.1 h with h|h
  ·exact I8 l u v t i b h d
  ·unfold ka at h
   rcases bw.1 h with h|h
   ·split at h
    ·simp at h;subst h;rfl
    ·simp at h
   ·split at h
    ·simp at h
    ·rename_i hc
     simp at h;subst h
     simp only at d;exact absurd (by simpa using d) hc
theorem Jl(l:aD)(u:aF)(v:Int)(t:T)(j:Nat)(d:jQ u v j=true):∀i,j<i->(⟨v,t⟩:Bd)∈cM l u v t i
 |0,h=>by omega
 |i+1,h=>by
  simp only[cM]
  by_cases c:j=i
  ·subst c
   refine qn _ ?_;unfold ka;rw[ay d];simp
  ·exact ov _ (Jl l u v t j d i (by omega))
theorem Xt(l:aD)(u:aF)(v:Int)(t:T):cH (bB l u v t) v=t:=by
 refine Nl _ v t (fun b d g=> ?_) ?_
 ·unfold bB at d
  rcases bw.1 d with h|h
  ·exact I8 l u v t _ b h g
  ·split at h
   ·simp at h
   ·simp at h;subst h;rfl
 ·unfold bB
  cases hp:dl u v with
  |none=>exact⟨⟨v,t⟩,by simp,rfl⟩
  |some j=>
   have e:j<u.length:=by unfold dl at hp;have:=(dy _ _ _ _ hp).2.1;omega
   refine⟨⟨v,t⟩,ov _ (Jl l u v t j (by unfold jQ;simp[hp]) _ e),rfl⟩
def pc(s:aD)(x:T):Prop:=(x.f= -1->x.kids=[])/\(x.f≠-1->br s x.f=false->(x.kids.length:Int)=(aX s x.f.toNat).arity)
def T.ar(s:aD)(t:T):Prop:=∀x,x∈t.nodes->pc s x
variable{x:T}
theorem Pj:∀{ks:ah},x∈T.nodess ks↔∃k,k∈ks/\x∈k.nodes
 | []=>by simp[T.nodess]
 |t::r=>by simp[T.nodess,Pj (ks:=r)]
theorem ic{v:Int}:x∈(T.node f v ks).nodes↔x= .node f v ks\/∃k,k∈ks/\x∈k.nodes:=by rw[T.nodes,cE,Pj]
theorem kg(t:T):t∈t.nodes:=by cases t;exact ic.2 (.inl rfl)
theorem Bt{v:Int}(h:(T.node f v ks).ar s)(d:k∈ks):k.ar s:=fun x hx=>h x (ic.2 (.inr ⟨k,d,hx⟩))
theorem Wt{q:T}(d:q∈dw s f k)(hx:x∈q.nodes):x∈k.nodes:=by
 unfold dw at d;split at d
 ·obtain⟨g,v',e⟩:=k
  exact ic.2 (.inr ⟨q,d,hx⟩)
 ·rw[fS.1 d]at hx;exact hx
mutual
theorem A2(s:aD):∀(t x:T),x∈(t.norm s).nodes->∃y,y∈t.nodes/\y.f=x.f/\y.v=x.v/\(br s x.f=false->y.kids.length=x.kids.length)
 | .node f v ks,x,hx=>by
  have m:=Ou s ks
  by_cases i:br s f=true
  ·simp only[T.norm]at hx
   rw[ay i]at hx;rcases ic.1 hx with rfl|⟨k,e,hx⟩
   ·exact⟨_,kg _,rfl,rfl,fun h=>by rw[show(T.node f v _).f=f from rfl,i]at h;cases h⟩
   ·have e:=(kM _).mem_iff.1 e
    obtain⟨p,l,o⟩:=(ID s f _ k).1 e;rw[T.norms_map]at l;obtain⟨d,g,rfl⟩:=cC.1 l;obtain⟨y,hy,j⟩:=m d g x (Wt o hx);exact⟨y,ic.2 (.inr ⟨d,g,hy⟩),j⟩
  ·simp only[T.norm]at hx
   rw[aC i,nm s f i,T.norms_map]at hx;rcases ic.1 hx with rfl|⟨k,e,hx⟩
   ·exact⟨_,kg _,rfl,rfl,fun _=>by simp⟩
   ·obtain⟨d,g,rfl⟩:=cC.1 e
    obtain⟨y,hy,j⟩:=m d g x hx;exact⟨y,ic.2 (.inr ⟨d,g,hy⟩),j⟩
theorem Ou(s:aD):∀(l:ah) (t:T),t∈l->∀x,x∈(t.norm s).nodes->∃y,y∈t.nodes/\y.f=x.f/\y.v=x.v/\(br s x.f=false->y.kids.length=x.kids.length)
 | [],t,h=>by simp at h
 |a::l,t,h=>by
  rcases cE.1 h with h|h
  ·rw[h];exact A2 s a
  ·exact Ou s l t h
end
mutual
theorem HD(s:aD)(u:aF):∀t:T,t.ar s->∀x,x∈(bN u t).nodes->(∃b,b∈u/\x∈b.t.nodes)\/(∃y,y∈t.nodes/\y.f=x.f/\y.v=x.v/\y.kids.length=x.kids.length/\(x.f= -1->cp u x.v=none))
 | .node f v ks,h,x,hx=>by
  have o:=NC s u ks (fun k e=>Bt h e)
  by_cases g:f= -1/\ks.length=0
  ·obtain⟨rfl,p⟩:=g
   have e:ks=[]:=kp p;subst e;rw[nR]at hx;unfold cH at hx;cases d:cp u v with
   |none=>
    rw[d]at hx;have:x= .node (-1) v []:=by simpa[T.nodes,T.nodess]using hx
    subst this;exact .inr ⟨_,kg _,rfl,rfl,rfl,fun _=>d⟩
   |some j=>rw[d]at hx;unfold cp at d;exact .inl ⟨_,iK (by have:=(dy _ _ _ _ d).2.1;omega),hx⟩
  ·rw[mW u g,iW]at hx
   rcases ic.1 hx with rfl|⟨k,e,hx⟩
   ·refine .inr ⟨_,kg _,rfl,rfl,by simp,fun d=>absurd ⟨d,?_⟩ g⟩
    have:=(h _ (kg _)).1 d;simp only[T.qav]at this;rw[this];rfl
   ·obtain⟨l,i,rfl⟩:=cC.1 e
    rcases o l i x hx with h|⟨y,hy,m⟩
    ·exact .inl h
    ·exact .inr ⟨y,ic.2 (.inr ⟨l,i,hy⟩),m⟩
theorem NC(s:aD)(u:aF):∀l:ah,(∀t,t∈l->t.ar s)->∀t,t∈l->∀x,x∈(bN u t).nodes->(∃b,b∈u/\x∈b.t.nodes)\/(∃y,y∈t.nodes/\y.f=x.f/\y.v=x.v/\y.kids.length=x.kids.length/\(x.f= -1->cp u x.v=none))
 | [],_,t,h=>by simp at h
 |a::l,d,t,h=>by
  rcases cE.1 h with h|h
  ·rw[h];exact HD s u a (d a (by simp))
  ·exact NC s u l (fun q e=>d q (by simp[e])) t h
end
structure Ur(s:aD)(u:aF):Prop where
 sm:∀b,b∈u->b.t.inner<=59
 ok:∀b,b∈u->∀x,x∈b.t.nodes->pc s x/\(x.f= -1->cp u x.v=none)
 nf:∀b,b∈u->b.t.norm s=b.t
 fn:∀b b',b∈u->b'∈u->b.v=b'.v->b.t=b'.t
theorem EO{y:T}(h:pc s y)(i:y.f=x.f)(g:br s x.f=false->y.kids.length=x.kids.length):pc s x:=by
 obtain⟨a,b⟩:=h;rw[i]at a b;refine⟨fun e=> ?_,fun e d=>by rw[<-g d];exact b e d⟩;have d:br s x.f=false:=by
  cases d:br s x.f with
  |false=>rfl
  |true=>exact absurd e (xE d)
 exact kp (by rw[<-g d,a e];rfl)
section
variable {s:aD} {u:aF}
theorem Ur.idem(h:Ur s u):vz u:=fun i hi=>Ji u _ fun x hx d=>(h.ok _ (iK hi) x hx).2 d
theorem Ur.out(h:Ur s u){t:T}(g:t.ar s):∀x,x∈(bQ s u t).nodes->pc s x/\(x.f= -1->cp u x.v=none):=fun x hx=>by
 obtain⟨y,hy,e,j,r⟩:=A2 s _ x hx;have key:pc s y/\(y.f= -1->cp u y.v=none):=by
  rcases HD s u t g y hy with⟨b,m,d⟩|⟨z,i,q,w,o,l⟩
  ·exact h.ok b m y d
  ·exact⟨EO (g z i) q (fun _=>o),l⟩
 exact⟨EO key.1 e r,fun p=>by rw[<-j];exact key.2 (by rw[e];exact p)⟩
theorem Ur.size(h:Ur s u)(t:T)(M:Nat)(d:t.inner<=M):(bN u t).inner+1<=(M+1)*60:=by
 have:=IW u 59 (fun i hi=>h.sm _ (iK hi)) t;have e:(t.inner+1)*(59+1)<=(M+1)*60:=by omega
 omega
theorem Ur.size2(h:Ur s u)(t:T)(M:Nat)(d:t.inner<=M):(bQ s u t).inner+1<=(M+1)*60:=by have:=h.size t M d;have e:(bQ s u t).inner<=(bN u t).inner:=qj s _;omega
def qvq(s:aD)(u:aF)(c:T):Prop:=c.inner<=4000/\∃o:T,o.inner<=59/\o.ar s/\bQ s u c=bQ s u o
mutual
theorem LY(h:Ur s u):∀o:T,o.inner<=59->o.ar s->∀q,q∈(bQ s u o).kids->∃F:T,F.inner<=59/\F.ar s/\bQ s u q=bQ s u F
 | .node f v ks,hi,z,q,d=>by
  have g:∀k,k∈ks->k.inner<=59:=fun k r=>by have:=eS r;rw[T.qa1]at hi;omega
  have I:=Pk h ks g (fun k r=>Bt z r)
  by_cases H:f= -1/\ks.length=0
  ·obtain⟨rfl,J⟩:=H
   have r:ks=[]:=kp J;subst r;unfold bQ at d;rw[nR]at d;unfold cH at d;cases hf:cp u v with
   |none=>
    rw[hf]at d;have w:¬br s (-1)=true:=fun h=>xE h rfl
    simp only[T.norm]at d;rw[aC w,nm s _ w]at d;simp[T.norms]at d
   |some j=>
    rw[hf]at d;simp only at d;unfold cp at hf;have D:=iK (l:=u) (i:=j) (by have:=(dy _ _ _ _ hf).2.1;omega);rw[h.nf _ D]at d;have C:=h.sm _ D;have p:=h.ok _ D;generalize (aQ u j).t=b at*
    obtain⟨N,bv,K⟩:=b;simp only[T.qav]at d;have:=eS d;rw[T.qa1]at C;exact⟨q,by omega,fun x hx=>(p x (ic.2 (.inr ⟨q,d,hx⟩))).1,rfl⟩
  ·by_cases w:br s f=true
   ·rw[uI s u w,T.qav]at d
    have d:=(kM _).mem_iff.1 d;obtain⟨M,C,p⟩:=(ID s f _ q).1 d;obtain⟨e,m,rfl⟩:=cC.1 C;unfold dw at p;split at p
    ·exact I e m q p
    ·rw[fS.1 p]
     exact⟨e,g e m,Bt z m,Ll s h.idem e⟩
   ·rw[vF s u H w,T.qav]at d
    obtain⟨e,m,rfl⟩:=cC.1 d;exact⟨e,g e m,Bt z m,Ll s h.idem e⟩
theorem Pk(h:Ur s u):∀l:ah,(∀k,k∈l->k.inner<=59)->(∀k,k∈l->k.ar s)->∀o,o∈l->∀q,q∈(bQ s u o).kids->∃g:T,g.inner<=59/\g.ar s/\bQ s u q=bQ s u g
 | [],_,_,o,d=>by simp at d
 |a::l,i,j,o,d=>by
  rcases cE.1 d with d|d
  ·rw[d];exact LY h a (i a (by simp)) (j a (by simp))
  ·exact Pk h l (fun k e=>i k (by simp[e])) (fun k e=>j k (by simp[e])) o d
end
theorem qvq.app(h:Ur s u){c:T}(hc:qvq s u c):(aT s u c).inner<=3600/\(∀x,x∈(aT s u c).nodes->pc s x/\(x.f= -1->cp u x.v=none))/\∀q,q∈(aT s u c).kids->qvq s u q:=by
 obtain⟨j,o,g,i,p⟩:=hc;have l:aT s u c=bQ s u o:=p;rw[l];have d:=h.size2 o 59 g;refine⟨by omega,h.out i,fun q e=>⟨?_,LY h o g i q e⟩⟩;generalize bQ s u o=x at*
 obtain⟨w,r,m⟩:=x;have:=eS (show q∈m from e);rw[T.qa1]at d;omega
end
theorem NF(s:aD)(u:aF)(v:Int)(t:T):∀i,i<=u.length->∀b,b∈cM s u v t i->b=⟨v,t⟩\/∃a,a∈u/\a.v≠v/\b=⟨a.v,aT s [⟨v,t⟩] a.t⟩
 |0,_,b,h=>by simp[cM]at h
 |i+1,hi,b,h=>by
  simp only[cM]at h;rcases bw.1 h with h|h
  ·exact NF s u v t i (by omega) b h
  ·unfold ka at h
   rcases bw.1 h with h|h
   ·split at h
    ·exact .inl (fS.1 h)
    ·simp at h
   ·split at h
    ·simp at h
    ·rename_i hc
     exact .inr ⟨aQ u i,iK (by omega),by simpa using hc,fS.1 h⟩
theorem Po(s:aD)(u:aF)(v:Int)(t:T)(j:Nat)(d:(aQ u j).v≠v):∀i,j<i->(⟨(aQ u j).v,aT s [⟨v,t⟩] (aQ u j).t⟩:Bd)∈cM s u v t i
 |0,h=>by omega
 |i+1,h=>by
  simp only[cM]
  by_cases c:j=i
  ·subst c
   refine qn _ (qn _ ?_);rw[aC (by simpa using d)];simp
  ·exact ov _ (Po s u v t j d i (by omega))
theorem qW{v:Int}{t:T}{b:Bd}(h:b∈bB s u v t):b=⟨v,t⟩\/∃a,a∈u/\a.v≠v/\b=⟨a.v,aT s [⟨v,t⟩] a.t⟩:=by
 unfold bB at h;rcases bw.1 h with h|h
 ·exact NF s u v t _ (bI _) b h
 ·split at h
  ·simp at h
  ·exact .inl (fS.1 h)
theorem qFb{v:Int}{t:T}{a:Bd}(h:a∈u)(e:a.v≠v):(⟨a.v,aT s [⟨v,t⟩] a.t⟩:Bd)∈bB s u v t:=by
 obtain⟨j,d,rfl⟩:=mT h;rw[df d]at e⊢
 exact ov _ (Po s u v t j e _ d)
theorem MA(s:aD)(u:aF)(v:Int)(t:T):∀i,(cM s u v t i).length<=i+(match dl u v with|some j=>if j<i then 1 else 0|none=>0)
 |0=>by simp[cM]
 |i+1=>by
  have e:=MA s u v t i;simp only[cM,cG];unfold ka jQ;rw[cG];have g:(if((aQ u i).v==v)=true then []else [(⟨(aQ u i).v,aT s [⟨v,t⟩] (aQ u i).t⟩:Bd)]).length<=1:=by split<;>simp
  cases hp:dl u v with
  |none=>
   rw[hp]at e;simp only[reduceCtorEq,decide_false,bg,if_false,lE]at e⊢
   omega
  |some j=>
   rw[hp]at e;simp only[ca,cB]at e⊢
   by_cases c:j=i
   ·subst c
    rw[aC (Nat.lt_irrefl _)]at e;rw[ay rfl,ay (nL _)];simp only[c7,lE];omega
   ·rw[aC c]
    simp only[lE]
    by_cases d:j<i
    ·rw[ay d]at e;rw[ay (show j<i+1 by omega)];omega
    ·rw[aC d]at e;rw[aC (show¬j<i+1 by omega)];omega
theorem W7(s:aD)(u:aF)(v:Int)(t:T):(bB s u v t).length<=u.length+1:=by
 have h:=MA s u v t u.length;unfold bB;rw[cG];cases hp:dl u v with
 |none=>rw[hp]at h;simp_all
 |some j=>rw[hp]at h;simp at h⊢;split at h<;>omega
theorem E7{L:aF}{v:Int}:cp L v=none↔∀b,b∈L->b.v≠v:=by
 constructor
 ·intro h b g d
  obtain⟨i,hi,rfl⟩:=mT g;unfold cp at h;have:=q_ _ _ (by rw[h];rfl) i hi;rw[df hi]at d;simp only[beq_eq_false_iff_ne,eg]at this;exact this d
 ·intro h
  unfold cp;cases hf:aR (fun i=>(aQ L i).v==v) L.length 0 with
  |none=>rfl
  |some i=>obtain⟨_,j,e⟩:=dy _ _ _ _ hf;exact absurd (by simpa using e) (h _ (iK (by omega)))
theorem Nr{L:aF}{v:Int}(h:cp L v=none):cH L v= .node (-1) v []:=by unfold cH;rw[h]
section
variable {s:aD} {u:aF} {v:Int} {t:T}
theorem C_{w:Int}(g:w≠v)(h:cp u w=none):cp (bB s u v t) w=none:=E7.2 fun b i d=>by
 rcases qW i with rfl|⟨a,e,_,rfl⟩
 ·exact g d.symm
 ·exact E7.1 h a e d
theorem Up(w:Int):cH [(⟨v,t⟩:Bd)] w=if v=w then t else .node (-1) w []:=by
 unfold cH cp
 by_cases h:v=w<;>simp[aR,aQ,h]
mutual
theorem I5{u w:aF}:∀t:T,(∀x,x∈t.nodes->x.f= -1->cH u x.v=cH w x.v)->bN u t=bN w t
 | .node f v ks,h=>by
  by_cases e:f= -1/\ks.length=0
  ·obtain⟨rfl,g⟩:=e
   have d:ks=[]:=kp g;subst d;rw[nR,nR];exact h _ (kg _) rfl
  ·rw[mW u e,mW w e,KH ks fun k d x hx=>h x (ic.2 (.inr ⟨k,d,hx⟩))]
theorem KH{u w:aF}:∀ks:ah,(∀k,k∈ks->∀x,x∈k.nodes->x.f= -1->cH u x.v=cH w x.v)->cb u ks=cb w ks
 | [],_=>rfl
 |t::r,h=>by simp only[cb];rw[I5 t (h t (by simp)),KH r fun k d=>h k (by simp[d])]
end
theorem Qy(h:Ur s u)(p:cp u v=none)(w:Int):bQ s (bB s u v t) (cH u w)=bQ s (bB s u v t) (.node (-1) w []):=by
 cases hf:cp u w with
 |none=>rw[Nr hf]
 |some j=>
  have z:w≠v:=fun e=>by rw[e,p]at hf;cases hf
  have I:cH u w=(aQ u j).t:=by unfold cH;rw[hf]
  unfold cp at hf;obtain⟨_,K,J⟩:=dy _ _ _ _ hf;have r:=iK (l:=u) (i:=j) (by omega);have m:(aQ u j).v=w:=by simpa using J
  rw[I];generalize aQ u j=b at*
  ·have D:cH (bB s u v t) w=aT s [⟨v,t⟩] b.t:=Nl _ w _ (fun c hc g=>by
    rcases qW hc with rfl|⟨a,C,F,rfl⟩
    ·exact absurd g.symm z
    ·simp only at g⊢
     rw[h.fn a b C r (by rw[g,m])]) ⟨_,qFb r (by rw[m];exact z),m⟩
   have H:bQ s (bB s u v t) (.node (-1) w [])=aT s [⟨v,t⟩] b.t:=by unfold bQ;rw[nR,D];exact qIP s _
   rw[H];unfold bQ aT
   congr 1
   refine I5 _ fun x hx q=> ?_
   have o:=(h.ok b r x hx).2 q;rw[Up]
   by_cases d:v=x.v
   ·rw[ay d,<-d,Xt]
   ·rw[aC d,Nr (C_ (fun e=>d e.symm) o)]
mutual
theorem Ko(h:Ur s u)(d:cp u v=none):∀x:T,bQ s (bB s u v t) (bN u x)=bQ s (bB s u v t) x
 | .node f w ks=>by
  by_cases g:f= -1/\ks.length=0
  ·obtain⟨rfl,o⟩:=g
   have l:ks=[]:=kp o;subst l;rw[nR];exact Qy h d w
  ·have i:¬(f= -1/\(cb u ks).length=0):=by rw[iW,cT];exact g
   have m:=NW h d ks;have j:(cb u ks).map (bQ s (bB s u v t))=ks.map (bQ s (bB s u v t)):=by rw[iW,eX];exact yY m
   rw[mW u g]
   by_cases e:br s f=true
   ·rw[uI _ _ e,uI _ _ e,j]
   ·rw[vF _ _ i e,vF _ _ g e,j]
theorem NW(h:Ur s u)(d:cp u v=none):∀(l:ah) (x:T),x∈l->bQ s (bB s u v t) (bN u x)=bQ s (bB s u v t) x
 | [],x,hx=>by simp at hx
 |a::l,x,hx=>by
  rcases cE.1 hx with hx|hx
  ·rw[hx];exact Ko h d a
  ·exact NW h d l x hx
end
theorem MO(h:Ur s u)(d:cp u v=none)(x:T):bQ s (bB s u v t) (bQ s u x)=bQ s (bB s u v t) x:=by show bQ s _ ((bN u x).norm s)=_;rw[FF,Ko h d]
end
theorem Oo{v:Int}(h:T.form s (.node f v ks)=true):pc s (.node f v ks):=by
 refine⟨fun e=> ?_,fun e g=> ?_⟩
 ·simp only[T.qaP]at e
  simp only[T.form]at h;rw[ay e]at h;simp only[cd,cB]at h;exact kp h.2
 ·simp only[T.qaP,T.qav]at e g⊢
  have d:=(F8 h e).1;unfold i_ at d;unfold br at g;split at d
  ·rename_i j
   rw[j]at g;split at d
   ·split at d
    ·rename_i i;rw[i]at g;simp at g
    ·simpa using d
   ·cases d
  ·cases d
mutual
theorem CI{s:aD}:∀t:T,T.form s t=true->t.ar s
 | .node f v ks,h=>fun x hx=>by
  rcases ic.1 hx with rfl|⟨k,d,hx⟩
  ·exact Oo h
  ·by_cases e:f= -1
   ·have:=(Oo h).1 e
    simp only[T.qav]at this;rw[this]at d;simp at d
   ·exact Lx ks (F8 h e).2 k d x hx
theorem Lx{s:aD}:∀l:ah,(∀k,k∈l->T.form s k=true)->∀k,k∈l->k.ar s
 | [],_,k,d=>by simp at d
 |a::l,h,k,d=>by
  rcases cE.1 d with d|d
  ·rw[d];exact CI a (h a (by simp))
  ·exact Lx l (fun q e=>h q (by simp[e])) k d
end
theorem Hn{t:T}(h:cq s t=true):T.form s t=true:=by unfold cq at h;simp only[cd]at h;exact h.2.2
theorem F9(h:ez s u=true){b:Bd}(e:b∈u):cq s b.t=true:=by obtain⟨j,d,rfl⟩:=mT e;have:=q_ _ _ h j d;unfold wU at this;rw[df d];simpa using this
theorem Ur.add{v:Int}{t:T}(h:Ur s u)(C:ez s (bB s u v t)=true)(D:∀x,x∈t.nodes->x.f= -1->cp u x.v=none/\x.v≠v):Ur s (bB s u v t) where
 sm b d:=by have:=BV (F9 C d);omega
 nf b d:=qvJ s _ (F9 C d)
 fn b b' d hb' hv:=by
  rcases qW d with rfl|⟨a,r,q,rfl⟩
  ·rcases qW hb' with rfl|⟨a',m,g,rfl⟩
   ·rfl
   ·exact absurd hv.symm g
  ·rcases qW hb' with rfl|⟨a',m,g,rfl⟩
   ·exact absurd hv q
   ·simp only at hv⊢
    rw[h.fn a a' r m hv]
 ok b d x hx:=by
  refine⟨CI _ (Hn (F9 C d)) x hx,fun o=> ?_⟩;rcases qW d with rfl|⟨a,r,q,rfl⟩
  ·obtain⟨j,l⟩:=D x hx o
   exact C_ l j
  ·obtain⟨y,hy,H,I,K⟩:=A2 s _ x hx
   rw[<-I];have i:y.f= -1:=by rw[H];exact o
   rcases HD s [⟨v,t⟩] a.t (fun z w=>(h.ok a r z w).1) y hy with⟨b,d,p⟩|⟨z,w,j,l,M,J⟩
   ·rw[fS.1 d]at p
    obtain⟨j,l⟩:=D y p i;exact C_ l j
   ·have F:=(h.ok a r z w).2 (by rw[j];exact i)
    rw[l]at F;refine C_ (fun e=> ?_) F;exact E7.1 (J i) ⟨v,t⟩ (by simp) e.symm
def Nb(ch:List ax):Prop:=∀i p,aE (aP ch i) p<=4
variable{ch:List ax}
theorem I3{m:Nat}(h:WaysOk ch m)(e:Nb ch)(next:Int){p:Nat}(d:p<m):∀j,j<=ch.length->aE (cu m ch j) p=((bV ch next p j).length:Int)/\(bV ch next p j).length<=4*j/\bJ (bV ch next p j)=(bV ch next p j).length
 |0,_=>by simp[cu,bV,aE,d,bJ,T.inners]
 |j+1,i=>by obtain⟨g,q,e3⟩:=I3 h e next d j (by omega);obtain⟨r,l⟩:=h.num j p;have o:=e j p;have w:=h.len;rw[K7 m ch j p d,ay (by rw[h.row j (by omega)];exact d),g];simp only[bV,cG,NE,AU,Kt];rw[wrap_i64 (by omega) (by omega)];omega
theorem PG(ch:List ax)(next:Int)(p:Nat):∀j k,k∈bV ch next p j->k.f= -1/\k.kids=[]
 |0,k,h=>by simp[bV]at h
 |j+1,k,h=>by
  rcases bw.1 h with h|h
  ·exact PG ch next p j k h
  ·rw[Og h];exact⟨rfl,rfl⟩
theorem Oh{t:T}(h:t.ar s):(t.norm s).ar s:=fun x hx=>by obtain⟨y,hy,d,g,e⟩:=A2 s t x hx;exact EO (h y hy) d e
theorem VW(h:k.f= -1/\k.kids=[]):k.ar s:=fun x hx=>by
 obtain⟨f,v,ks⟩:=k;simp only[T.qaP,T.qav]at h;obtain⟨rfl,rfl⟩:=h;rcases ic.1 hx with rfl|⟨q,d,_⟩
 ·exact⟨fun _=>rfl,fun h=>absurd rfl h⟩
 ·simp at d
theorem qUw(e:br s f=true)(i:1<=ks.length)(g:∀k,k∈ks->k.ar s):(en s f ks).ar s:=by
 unfold en;rw[aC (fun h=>by omega)];split
 ·exact Oh (g _ (bM (by omega)))
 ·rw[ay (Yd e)]
  refine Oh fun x hx=> ?_
  rcases ic.1 hx with rfl|⟨k,d,hx⟩
  ·exact⟨fun h=>absurd h (xE e),fun _ h=>by simp only[T.qaP]at h;rw[e]at h;cases h⟩
  ·exact g k d x hx
theorem Ob{all:ah}{next:Int}:∀{n:Nat} {e:Eqn},e∈db s f all ch next n->∃p,p<n/\e=pZ s f all ch next p
 |0,e,h=>by simp[db]at h
 |n+1,e,h=>by
  rcases bw.1 h with h|h
  ·obtain⟨p,g,d⟩:=Ob h
   exact⟨p,by omega,d⟩
  ·exact⟨n,by omega,fS.1 h⟩
theorem V9{t:T}{v:Int}(hi:t.inner<=1099511627776)(h:¬0<cnt t v):∀x,x∈t.nodes->x.f= -1->x.v≠v:=fun x hx g d=>by
 have e:cnt t v=T.sum (wC v) t:=qKu _ _ hi;rw[e,yu]at h;have:=OQ (w:=wC v) (fun y _=>LH _ y) x hx;have i:wC v x=1:=by unfold wC;rw[ay ⟨g,d⟩]
 omega
structure Gd(s:aD)(n:Nat)(l:bh)(u:aF)(next:Int):Prop where
 gl:l.length+8000*n<=3216010
 gu:u.length+n<=402
 nx:0<=next/\next<=100
 ur:Ur s u
 eq:∀e,e∈l->qvq s u e.a/\qvq s u e.b
section
variable {s:aD} {u:aF} {next:Int} {n:Nat} {a b:T} {rest:bh}
theorem qvq.bound(h:Ur s u){c:T}(hc:qvq s u c):c.inner<=1099511627776/\(bN u c).inner<=1099511627776/\(aT s u c).inner<=1000000000:=by have d:=hc.1;have e:=h.size c 4000 d;have g:=(hc.app h).1;exact⟨by omega,by omega,by omega⟩
theorem qvq.bind(h:Ur s u){v:Int}{t:T}(d:cp u v=none){c:T}(hc:qvq s u c):qvq s (bB s u v t) c:=by obtain⟨e,o,j,g,i⟩:=hc;exact⟨e,o,j,g,by rw[<-MO h d c,i,MO h d o]⟩
theorem Gd.bind(h:Gd s (n+1) (⟨a,b⟩::rest) u next){c d:T}(hc:qvq s u c)(z:qvq s u d)(C:(aT s u c).f= -1)(F:¬0<cnt (aT s u d) (aT s u c).v):
 SubFit s u (aT s u c).v (aT s u d)/\(ez s (bB s u (aT s u c).v (aT s u d))=true->Gd s n rest (bB s u (aT s u c).v (aT s u d)) next):=by
 obtain⟨K,D,I⟩:=hc.app h.ur;obtain⟨d1,d2,d3⟩:=z.app h.ur;have g:=(D _ (kg _)).2 C;generalize (aT s u c).v=v at*
 generalize aT s u d=t at*
 have H:=h.gu;have q:∀b,b∈u->(bN [⟨v,t⟩] b.t).inner<=1099511627776:=fun b l=>by have o:=IW [⟨v,t⟩] 3600 (fun i hi=>by simp at hi;subst hi;exact d1) b.t;have p:=h.ur.sm b l;have J:(b.t.inner+1)*(3600+1)<=60*3601:=Nat.mul_le_mul (by omega) (by omega);omega
 refine⟨⟨by omega,fun i hi=>by have:=h.ur.sm _ (iK hi);omega,by omega,fun i hi=>q _ (iK hi),fun b l=> ?_⟩,fun m=>⟨?_,?_,h.nx,h.ur.add m fun x hx j=>⟨(d2 x hx).2 j,V9 (by omega) F x hx j⟩,fun e w=> ?_⟩⟩
 ·rcases qW l with rfl|⟨a,r,_,rfl⟩
  ·simp only;omega
  ·exact eG (SY s _ _) (q a r)
 ·have:=h.gl
  simp only[c7]at this;omega
 ·have:=W7 s u v t
  omega
 ·obtain⟨o,p⟩:=h.eq e (by simp[w])
  exact⟨o.bind h.ur g,p.bind h.ur g⟩
theorem qBY(t:T):t.kids.length<=t.inner:=by obtain⟨f,v,ks⟩:=t;have:=g8 ks;rw[T.qa1];exact this
theorem Gd.new(h:Gd s (n+1) (⟨a,b⟩::rest) u next)(l:bh)(next':Int)(j:l.length<=8000)(g:0<=next'/\next'<=100)(i:∀e,e∈l->qvq s u e.a/\qvq s u e.b):Gd s n (l++rest) u next':=by
 refine⟨?_,by have:=h.gu;omega,g,h.ur,fun e d=> ?_⟩
 ·have:=h.gl
  simp only[c7,cG]at this⊢;omega
 ·rcases bw.1 d with d|d
  ·exact i e d
  ·exact h.eq e (by simp[d])
theorem LA:Safe s (Gd s) where
 len h:=⟨by have:=h.gl;omega,⟨by have:=h.gu;omega,fun i hi=>by have:=h.ur.sm _ (iK hi);omega⟩,by have:=h.gu;omega,h.nx.1,by have:=h.nx.2;omega⟩
 a h:=(h.eq _ (jH ..)).1.bound h.ur
 b h:=(h.eq _ (jH ..)).2.bound h.ur
 arity h hf hff hb:=by obtain⟨F,I⟩:=h.eq _ (jH ..);have S:=((F.app h.ur).2.1 _ (kg _)).1.2 hf hb;have M:=((I.app h.ur).2.1 _ (kg _)).1.2 (by rw[<-hff];exact hf) (by rw[<-hff];exact hb);simp only at S M;rw[<-hff]at M;omega
 same h:=h.new [] _ (by simp) h.nx (by simp)
 bindx h hf hc:=h.bind (h.eq _ (jH ..)).1 (h.eq _ (jH ..)).2 hf hc
 bindy h _ hf hc:=h.bind (h.eq _ (jH ..)).2 (h.eq _ (jH ..)).1 hf hc
 pairs {n a b rest u next} h hf hff hb:=by
  obtain⟨F,I⟩:=h.eq _ (jH ..);obtain⟨Y,V,J⟩:=F.app h.ur;obtain⟨d1,d2,d3⟩:=I.app h.ur;have S:=(V _ (kg _)).1.2 hf hb;have M:=(d2 _ (kg _)).1.2 (by rw[<-hff];exact hf) (by rw[<-hff];exact hb);simp only at S M Y J d3;rw[<-hff]at M;have hk:=qBY (aT s u a);refine h.new _ _ (by rw[o_];omega) h.nx fun e Q=> ?_
  obtain⟨i,hi,rfl⟩:=NX _ _ _ e Q;exact⟨J _ (bM hi),d3 _ (bM (by omega))⟩
 choose {n a b rest u next} all ways m h hff hb hbo hall hways hfit h99:=by
  obtain⟨F,I⟩:=h.eq _ (jH ..);obtain⟨Y,V,J⟩:=F.app h.ur;obtain⟨d1,d2,d3⟩:=I.app h.ur;simp only at Y V J d1 d2 d3;generalize aT s u a=x at*
  generalize aT s u b=y at*
  obtain⟨w,o,_,_⟩:=zR x.kids ([],y.kids);have w:∀t,t∈(bW x.kids y.kids).1->t∈x.kids:=fun t h=>by rcases w t h with h|h;(·simp at h);exact h
  have o:∀t,t∈(bW x.kids y.kids).2->t∈y.kids:=o;generalize (bW x.kids y.kids).1=l at*
  generalize (bW x.kids y.kids).2=r at*
  obtain⟨C,_⟩:=qi l ([],[]);obtain⟨z,_⟩:=qi r ([],[]);have C:∀t,t∈(bz l).1->t∈l:=fun t h=>by rcases C t h with h|h;(·simp at h);exact h
  have z:∀t,t∈(bz r).1->t∈r:=fun t h=>by rcases z t h with h|h;(·simp at h);exact h
  have ce:=sQ l;have de:=sQ r;have d:b_ (bz l).2=true/\b_ (bz r).2=true/\(bL (bz l).2 (bz r).2).length<=8:=by unfold lr at hbo;simpa[Ao]using hbo
  have lc:=dA d.1;have ld:=dA d.2.1;have q:=GH d.1 d.2.1 d.2.2 (m+1);have j:Nb (bc (bL (bz l).2 (bz r).2) (m+1) (bL (bz l).2 (bz r).2).length):=fun i p=>by
   by_cases hi:i<(bc (bL (bz l).2 (bz r).2) (m+1) (bL (bz l).2 (bz r).2).length).length
   ·have:=(IG d.1 d.2.1 (yB (bI _) (jR hi))).2
    exact(GV _ 0 4 (by omega) (by omega) this p).2
   ·have:aP (bc (bL (bz l).2 (bz r).2) (m+1) (bL (bz l).2 (bz r).2).length) i=[]:=by unfold aP;rw[jm (by omega)];rfl
    rw[this];simp[aE]
  have Z:all.length=(bz l).2.length+(bz r).2.length:=by rw[hall,cG];omega
  rw[<-hways,<-Z]at q;rw[<-hways]at j;have K:∀t,t∈all->qvq s u t:=fun t D=>by
   rw[hall]at D;rcases bw.1 D with D|D
   ·exact J t (w t (C t D))
   ·exact d3 t (o t (z t D))
  have H:pD all (dQ (bc ways (m+1) ways.length) all.length)=true:=hfit;have O:dQ (bc ways (m+1) ways.length) all.length=cu all.length (bc ways (m+1) ways.length) (bc ways (m+1) ways.length).length:=by unfold dQ;rw[ay (by omega)];rfl
  rw[O]at H;generalize bc ways (m+1) ways.length=ch at*
  have h4:=q.len;refine h.new _ _ (by rw[Ay];omega) ⟨by have:=h.nx.1;omega,by omega⟩ fun e Q=> ?_
  obtain⟨p,R,rfl⟩:=Ob Q;refine⟨K _ (bM R),?_⟩;obtain⟨k1,k2,k3⟩:=I3 q j next R ch.length (bI _);have g:=q_ _ _ H p (by rw[qp];exact R);unfold lH at g;simp only[Bool.or_eq_false_iff,GK]at g;have N:1<=(bV ch next p ch.length).length:=by have:=g.1;omega
  have h3:=Vm s x.f (bV ch next p ch.length);show qvq s u (en s x.f (bV ch next p ch.length));exact⟨by omega,_,by omega,qUw hb N (fun k hk=>VW (PG ch next p _ k hk)),rfl⟩
theorem Gd.start{l:bh}(F:l.length<=4)(h:fP s l=true):Gd s 402 l [] (fy l):=by
 unfold fP at h;rw[cm]at h;have o:∀e,e∈l->cq s e.a=true/\cq s e.b=true:=fun e j=>by have:=h e j;unfold jX at this;simpa using this
 have w:∀(k:bh) (n:Int),(∀e,e∈k->e∈l)->0<=n/\n<=100->0<=k.foldl lW n/\k.foldl lW n<=100:=fun k=>by
  induction k with
  |nil=>intro n _ m;exact m
  |cons e k z=>
   intro n p m;obtain⟨g,i⟩:=o e (p e (by simp));refine z _ (fun q r=>p q (by simp[r])) (B3 _ n m fun v d=> ?_);rcases bw.1 d with d|d
   ·exact so g d
   ·exact so i d
 refine⟨by omega,by simp,w l 0 (fun e h=>h) ⟨by omega,by omega⟩,⟨by simp,by simp,by simp,by simp⟩,fun e j=> ?_⟩;obtain⟨g,i⟩:=o e j;have C:=BV g;have D:=BV i;exact⟨⟨by omega,e.a,by omega,CI _ (Hn g),rfl⟩,⟨by omega,e.b,by omega,CI _ (Hn i),rfl⟩⟩
end
theorem Wc(l:aD)(M:l.length<=maxLen)(I:∀s,s∈l->s.ok)(a:T)(w:a.ok)(b:T)(N:b.ok):∃B,aj XV 374 [.d (sg l),.d (a.enc .sub),.d (b.enc .sub)] []=some (au true,B):=by
 rw[aK 374 rh rfl];have j:=qE3 l 1048576 M I (by omega) (by omega)
 by_cases m:(1048576:Int)-lK l<0
 ·rw[rG m]at j
  simp[rh,Dh,Ef,CU,j]
 rw[vC m]at j;have e:l.length<=1099511627776:=by unfold lK at m;omega
 have r:∀i,i<l.length->(aX l i).name.size<=1099511627776:=fun i hi=>by have:=qUv l i hi;omega
 have o:=F6 a (1048576-lK l) w (by omega) (by omega)
 by_cases g:(1048576:Int)-lK l-a.inner<0
 ·rw[rG g]at o
  simp[rh,Dh,Ef,CU,j,m,o]
 rw[vC g]at o;have p:=F6 b (1048576-lK l-a.inner) N (by omega) (by omega)
 by_cases h:(1048576:Int)-lK l-a.inner-b.inner<0
 ·rw[rG h]at p
  simp[rh,Dh,Ef,CU,j,m,o,g,p]
 rw[vC h]at p;have z:=Rk l e;have t1:=Ih a (by omega);have F:=Ih b (by omega);have s1:=qn9 a b ⟨e,r⟩ LA (fun k g h=>Gd.start g h) (by omega) (by omega);have C:=W8 a b ⟨e,r⟩ LA (fun k g h=>Gd.start g h) (by omega) (by omega);generalize yn l a b=q at*
 have D:(q !=q)=false:=by simp
 have J:=Tz l e;have H:=Gn a (by omega);have K:=Gn b (by omega);simp[rh,Dh,Ef,CU,j,m,o,g,p,h,z,t1,F,s1,C,J,H,K,D,splice,bb,aY,a6,De,eP,ba,P0,aW]
mutual
def TT.erase:TT->T
 | .node f v g ks=> .node f v (TT.erases ks)
def TT.erases:nU->ah
 | []=>[]
 |t::r=>t.erase::TT.erases r
end
theorem TT.qkP:∀l:nU,TT.erases l=l.map TT.erase
 | []=>by unfold TT.erases;rfl
 |t::r=>by unfold TT.erases;simp[TT.qkP r]
mutual
theorem TT.qdK:∀t:TT,DV.clrs t.cells=[.int .i64 t.erase.f,.int .i64 t.erase.v,ao .sub t.erase.kids]
 | .node f v g ks=>by simp only[TT.cells,DV.clrs,DV.clr,TT.erase,T.qaP,T.qbz,T.qav,ao];rw[TT.qgQ ks]
theorem TT.qgQ:∀l:nU,DV.clrs (TT.encs l)=(TT.erases l).map (T.enc .sub)
 | []=>by simp[TT.encs,DV.clrs,TT.erases]
 |t::r=>by simp only[TT.encs,DV.clrs,DV.clr,TT.erases,bF];rw[TT.qdK t,TT.qgQ r,T.qb8]
end
theorem TT.qfj(t:TT):t.enc.clr=t.erase.enc .sub:=by simp only[TT.enc,DV.clr];rw[TT.qdK,T.qb8]
mutual
theorem TT.qgP:∀t:TT,t.ok->t.erase.ok
 | .node f v g ks,h=>by simp only[TT.ok]at h;simp only[TT.erase,T.ok,TT.qkP,cT];refine⟨h.2.2.1,?_⟩;rw[<-TT.qkP];exact TT.qnW ks h.2.2.2
theorem TT.qnW:∀l:nU,TT.oks l->T.oks (TT.erases l)
 | [],_=>by simp[TT.erases,T.oks]
 |t::r,h=>by simp only[TT.oks]at h;simp only[TT.erases,T.oks];exact⟨TT.qgP t h.1,TT.qnW r h.2⟩
end
theorem qOR(s:SymL):s.enc.clr=s.enc:=by unfold SymL.enc SymL.cells;simp only[DV.clr,DV.clrs]
theorem UJ(g:Tag)(l:aD):(Bc g l).clr= .sl .sub (l.map SymL.enc):=by simp only[Bc,Ov,eX,mf,qOR]
theorem qBI(i:XOK XV){k:Nat}{vs:aw}(h:∃B,aj XV k ((DV.clrs vs).map .d) []=some (au true,B)):∃A B,AM E [] k (vs.map .d) [] Ids.none=some ⟨au true,A,B⟩:=by
 obtain⟨B,h⟩:=h;obtain⟨u,A,Bv,g,e⟩:=Z4 i (DV.qcB vs) (DV.qcA vs) (d:= .bool true) (by simp[DV.clr]) h;simp only[DV.fit]at e;subst e
 exact⟨A,Bv,g⟩
variable{P:Program}
theorem Uh{a:TypeId}:∀{xs:List aw},xI P [a] xs->∃x,xs=[x]
 | [x],_=>⟨x,rfl⟩
 | [],h=>h.elim
 |_::_::_,h=>h.2.elim
theorem q6K{a b:TypeId}:∀{xs:List aw},xI P [a,b] xs->∃x y,xs=[x,y]
 |x::r,h=>by obtain⟨y,rfl⟩:=Uh h.2;exact⟨x,y,rfl⟩
theorem q6J{a b c:TypeId}:∀{xs:List aw},xI P [a,b,c] xs->∃x y z,xs=[x,y,z]
 |x::r,h=>by obtain⟨y,z,rfl⟩:=q6K h.2;exact⟨x,y,z,rfl⟩
structure L where
 p:Bool
 a:T
 b:T
def L.enc(g:Tag)(x:L):DV:= .agg [.bool x.p,.int .i64 x.a.f,.int .i64 x.a.v,ao g x.a.kids,.int .i64 x.b.f,.int .i64 x.b.v,ao g x.b.kids]
def L.ok(x:L):Prop:=x.a.ok/\x.b.ok
@[simp] theorem L.qfk(g:Tag)(x:L):(x.enc g).cells=[.bool x.p,.int .i64 x.a.f,.int .i64 x.a.v,ao g x.a.kids,.int .i64 x.b.f,.int .i64 x.b.v,ao g x.b.kids]:=rfl
@[simp] theorem L.qkQ(g:Tag)(x:L):(AV.d (x.enc g)).cells=[au x.p,aa x.a.f,aa x.a.v,.d (ao g x.a.kids),aa x.b.f,aa x.b.v,.d (ao g x.b.kids)]:=rfl
@[simp] theorem L.qkO(g:Tag)(x:L):(x.enc g).isCell=false:=rfl
@[simp] theorem L.qfj(g:Tag)(x:L):(x.enc g).clr=x.enc .sub:=by simp only[L.enc,DV.clr,DV.clrs,ao,DV.qay,mg]
theorem L.agg_enc(g:Tag)(x:L):DV.agg [.bool x.p,.int .i64 x.a.f,.int .i64 x.a.v,ao g x.a.kids,.int .i64 x.b.f,.int .i64 x.b.v,ao g x.b.kids]=x.enc g:=rfl
def L.cmp(x y:L):Int:=if !x.p&&y.p then-1 else if x.p&& !y.p then 1 else if T.cmp x.a y.a≠0 then T.cmp x.a y.a else T.cmp x.b y.b
def L.same(x y:L):Bool:=x.p==y.p&&(T.cmp x.a y.a==0)&&(T.cmp x.b y.b==0)
theorem L.cmp_zero(x y:L):(L.cmp x y==0)=L.same x y:=by obtain⟨p,a,b⟩:=x;obtain⟨q,a',b'⟩:=y;unfold L.cmp L.same;cases p<;>cases q<;>by_cases c:T.cmp a a'=0<;>simp[c]
section
variable {P:Program}
structure LL where
 p:Bool
 a:TT
 b:TT
def LL.cells(x:LL):aw:= .bool x.p::(x.a.cells++x.b.cells)
def LL.enc(x:LL):DV:= .agg x.cells
def LL.ok(x:LL):Prop:=x.a.ok/\x.b.ok
def LL.erase(x:LL):L:=⟨x.p,x.a.erase,x.b.erase⟩
theorem LL.qgP(x:LL)(h:x.ok):x.erase.ok:=⟨TT.qgP _ h.1,TT.qgP _ h.2⟩
theorem LL.qfj(x:LL):x.enc.clr=x.erase.enc .sub:=by have d:=TT.qdK x.a;have e:=TT.qdK x.b;rw[DV.qay]at d e;simp only[LL.enc,LL.cells,DV.clr,DV.qay,bF,cL,d,e,LL.erase,L.enc];rfl
structure BB where
 v:Int
 t:TT
def BB.cells(x:BB):aw:= .int .i64 x.v::x.t.cells
def BB.enc(x:BB):DV:= .agg x.cells
def BB.ok(x:BB):Prop:=(-9223372036854775808<=x.v/\x.v<=9223372036854775807)/\x.t.ok
def BB.erase(x:BB):Bd:=⟨x.v,x.t.erase⟩
theorem BB.qfj(x:BB):x.enc.clr=x.erase.enc .sub:=by have d:=TT.qdK x.t;rw[DV.qay]at d;simp only[BB.enc,BB.cells,DV.clr,DV.qay,bF,d,BB.erase,Bd.enc]
theorem BB.qnW{l:List BB}(h:∀s,s∈l->BB.ok s):∀s,s∈l.map BB.erase->Bd.ok s:=by intro s e;obtain⟨t,d,rfl⟩:=cC.1 e;exact⟨(h t d).1,TT.qgP _ (h t d).2⟩
end
open Go.RowKit
variable {P:Program} {fid:Nat->FuncId}
variable{X:XEnv}
theorem Nv(N:XOK X)(I:EnvOK P fid X.env){f:Nat}{xs:aG}{B:az}{v':AV}{B':az}(h:aj X f xs B=some (v',B')){vs:aG}{Bv:az}(K:AV.fits xs vs)(J:qbv B Bv)
 (m:∀ℓ,aU (bn 0 xs) B (bn 0 vs) Bv ℓ=[]) {g:Gh} {w:World} {us:ee} (q:us.size=vs.length) (l:∀(j:Nat) (v:AV) (u:Value),vs[j]?=some v->us[j]?=some u->AVR fid g w v u)
 (hc:Core fid g w Bv Ids.none) (p:Eu g [] 0):Calls P (fid f) us w fun e w'=>∃u g' r A' i,e= .returned u/\v'.fit r/\qbv B' i/\Post fid (from_ [] 0) g w Ids.none ⟨r,A',i⟩ u g' w':=by
 obtain⟨n,F⟩:=l9.1 h;obtain⟨v,i,A',H,D,M,_⟩:=Mm N n f _ _ _ _ F [] vs Bv Ids.none (fun _=>False) K J
  ⟨fun ℓ=>by rw[m];simp,fun ℓ ℓ' a d=>by rw[m]at d;simp at d,fun ℓ a d=>by rw[m]at d;simp at d,fun a d=>by simp at d⟩ (fun j _=>m (.reg j)) (fun a d=>by simp[Ids.none]at d)
 obtain⟨_,o⟩:=callN_ok I n [] f vs Bv Ids.none _ H;exact(o g w us q l hc p).mono fun e w' ⟨u,g',z,C⟩=>⟨u,g',v,A',i,z,D,M,C⟩
structure IntsAt(w:World)(base:kV)(n c:Nat)(xs:ax):Prop where
 len:xs.length=n
 cap:n<=c
 lim:(n+1)*8<=140737488355328
 capm:c<=maxLen
 nil:base=none->n=0/\c=0
 cell:∀ad,base=some ad->0<n->ad.spot=none/\∀(j:Nat) (x:Int),xs[j]?=some x->w.cell? ⟨ad.block,ad.off+j,none⟩=some (.int .i64 x)
theorem WX{w:World}{b o:Nat}{v:Value}(h:w.cell? ⟨b,o,none⟩=some v):b<w.heap.size:=by
 unfold World.cell? at h;split at h
 ·rename_i d;exact(oV.1 d).1
 ·simp at h
variable{xs:ax}{n c:Nat}{base:kV}
theorem IntsAt.lt{w:World}(h:IntsAt w base n c xs){ad:Addr}(g:base=some ad)(e:0<n):ad.block<w.heap.size:=by
 have d:xs[0]?=some xs[0]!:=by have:=h.len;cases xs with|nil=>simp at this;omega|cons a r=>simp
 exact WX ((h.cell ad g e).2 0 _ d)
def ja(base:kV)(n:Nat)(bx:Nat->bi):Gh:={K:=fun b=>match base with|some ad=>if b=ad.block/\0<n then ad.off+n else 0|none=>0,row:=fun _=>none,bx:=bx}
def wS(base:kV):Tag:=match base with|some _=> .sub|none=> .nil
theorem J_{w:World}(h:IntsAt w base n c xs)(bx:Nat->bi):VR (ja base n bx) w (.sl (wS base) (xs.map (.int .i64))) (.slice base n c):=by
 cases base with
 |none=>obtain⟨rfl,rfl⟩:=h.nil rfl;have:xs=[]:=gS.1 h.len;subst this;exact .nil
 |some ad=>
  have key:VR (ja (some ad) n bx) w (.sl .sub (xs.map (.int .i64))) (.slice (some ad) (xs.map (DV.int .i64)).length c):=by
   refine .row _ _ ad c 1 (fun k=> .int .i64 (xs.getD k 0)) (by simp) (by simpa[h.len]using h.cap) h.capm (fun k p=> ?_) ?_ (fun i x hx=> ?_) (fun i x j v hi e=> ?_) (fun a sz q=>by simp at q)
   ·have d:k<xs.length:=by simpa using p
    obtain⟨g,m⟩:=h.cell ad rfl (by have:=h.len;omega);have:ad.add k=⟨ad.block,ad.off+k,none⟩:=by obtain⟨z,o,C⟩:=ad;simp only at g;subst g;unfold Addr.add;split<;>simp_all
    rw[this,m k xs[k] (by simp[d])];simp[List.getD,d]
   ·by_cases r:0<n
    ·right
     simp only[ja];rw[ay ⟨trivial,r⟩];simp[h.len]
    ·left;have:=h.len;simp;cases xs with|nil=>rfl|cons _ _=>simp at this;omega
   ·simp only[dP,aN]at hx
    obtain⟨y,_,rfl⟩:=hx;exact⟨rfl,fun v l=>by simp[DV.cells]at l;subst l;rfl⟩
   ·simp only[dP,aN]at hi
    obtain⟨y,hy,rfl⟩:=hi;cases j with
    |succ j=>simp[DV.cells]at e
    |zero=>
     simp[DV.cells]at e;subst e
     simp only[Nat.mul_one,Cx,List.getD,hy,qB];exact .int _ _
  rw[cT,h.len]at key;exact key
theorem J1{w:World}(h:IntsAt w base n c xs)(bx:Nat->bi)(b:Nat)(e:w.heap.size<=b):(ja base n bx).K b=0:=by
 cases base with
 |none=>rfl
 |some ad=>
  simp only[ja];rw[aC]
  rintro⟨rfl,d⟩
  have:=h.lt rfl d;omega
theorem M6(t:Tag)(xs:ax):(AV.d (is xs)).fit (.d (.sl t (xs.map (.int .i64)))):=by simp only[AV.fit,DV.fit];refine⟨_,rfl,_,_,rfl,?_,.inl rfl⟩;rw[DV.qbq];refine⟨rfl,fun i x y hx hy=> ?_⟩;rw[hx]at hy;simp only[ca]at hy;subst hy;simp only[dP,aN]at hx;obtain⟨z,_,rfl⟩:=hx;simp only[DV.fit]
theorem OZ(t:Tag)(xs:ax):(AV.d (is xs)).own (.d (.sl t (xs.map (.int .i64))))=[]:=by
 have e:(.sub:Tag)≠U:=by decide
 simp only[AV.own,DV.own,e,Dv,if_false,co];have:∀(l:ax) (m:aw),DV.owns (l.map (.int .i64)) m=[]:=by
  intro l
  induction l with
  |nil=>intro m;simp[DV.owns]
  |cons a r g=>intro m;cases m<;>simp[DV.owns,DV.own,g]
 exact this xs _
theorem qwZ(O:XOK X)(M:EnvOK P fid X.env){k:Nat}(K:∀(l:ax) (n:Int),l.length<=140737488355328->aj X k [.d (is l),aa n] []=some (au (l.contains n),[]))
 {w:World}(h:IntsAt w base n c xs) (m:Int):
 Calls P (fid k) #[.slice base n c,.int .i64 m] w fun e w'=>e= .returned (.bool (xs.contains m))/\Below w.heap.size w w':=by
 have H:=h.lim;have z:∀ℓ,aU (bn 0 [.d (is xs),aa m]) [] (bn 0 [.d (.sl (wS base) (xs.map (.int .i64))),aa m]) [] ℓ=[]:=by
  intro ℓ;cases ℓ with
  |box j=>simp[aU,bD,b5]
  |reg t=>
   simp only[aU,bp,bn,lk]
   by_cases I:t=0
   ·subst I;simp only[if_true];exact OZ _ _
   ·by_cases J:t=0+1
    ·subst J;simp[AV.own,DV.own]
    ·simp[I]
     split<;>simp_all
 refine(Nv (P:=P) (fid:=fid) O M (K xs m (by rw[h.len];omega)) (vs:=[.d (.sl (wS base) (xs.map (.int .i64))),aa m]) (Bv:=[]) ?_ ⟨rfl,by simp⟩ z (g:=ja base n (fun _=>none)) (w:=w) rfl ?_ ?_ (fun q j _=>rfl)).mono ?_
 ·simp only[AV.fits]
  exact⟨_,_,rfl,M6 _ _,_,_,rfl,by simp only[AV.fit,DV.fit];exact⟨_,rfl,rfl⟩,rfl⟩
 ·intro j v u D r
  match j with
  |0=>simp at D r;subst D;subst r;exact .d _ _ (J_ h _)
  |1=>simp at D r;subst D;subst r;exact .d _ _ (.int _ _)
  |j+2=>simp at D
 ·exact⟨fun i b C=>by simp[ja]at C,fun i j b C=>by simp[ja]at C,fun a F=>by simp[Ids.none]at F,fun a a' b x x' F=>by simp[Ids.none]at F,J1 h _⟩
 ·rintro e w' ⟨u,g',Q,A',N,rfl,o,_,p⟩
  simp only[AV.fit,DV.fit]at o;obtain⟨y,rfl,rfl⟩:=o;have r:=ZK p.val;subst r;exact⟨rfl,p.step.os,p.step.tape,p.step.output,p.step.size,fun b C=>(p.step.keep b C (fun i h=>by simp[ja]at h) (fun a h=>by simp[Ids.none]at h)).1⟩
theorem Ya(hX:XOK X)(hE:EnvOK P fid X.env){k kc:Nat}(hq:∀(l:ax) (n:Int),l.length<=140737488355328->aj X k [.d (is l),.fn kc [.ptr 0 0]] [some [aa n]]=some (aa (bC (aR (fun i=>decide (aE l i>n)) l.length 0)),[some [aa n]]))
 {w:World}(h:IntsAt w base n c xs) (m:Int) (o:Nat) (ty:TypeId) (Y:w.heap[o]?=some (.cells #[.int .i64 m] ty (0,0))) (S:∀ad,base=some ad->0<n->ad.block≠o):
 Calls P (fid k) #[.slice base n c,.func (.func (fid kc)) #[] #[.pointer (some ⟨o,0,none⟩)]] w fun e w'=>e= .returned (.int .i64 (bC (aR (fun i=>decide (aE xs i>m)) xs.length 0)))/\
  w'.os=w.os/\w'.tape=w.tape/\w'.output=w.output/\w.heap.size<=w'.heap.size/\(∀b,b<w.heap.size->b≠o->w'.heap[b]?=w.heap[b]?)/\w'.cell? ⟨o,0,none⟩=some (.int .i64 m):=by
 have Z:=h.lim;have H:∀ℓ,aU (bn 0 [.d (is xs),.fn kc [.ptr 0 0]]) [some [aa m]] (bn 0 [.d (.sl (wS base) (xs.map (.int .i64))),.fn kc [.ptr 0 0]]) [some [aa m]] ℓ=[]:=by
  intro ℓ;cases ℓ with
  |box j=>
   cases j with
   |zero=>simp[aU,bD,b5,AV.owns,AV.own,DV.own]
   |succ j=>simp[aU,bD,b5]
  |reg t=>
   simp only[aU,bp,bn,lk]
   by_cases h0:t=0
   ·subst h0;simp only[if_true];exact OZ _ _
   ·by_cases r:t=0+1
    ·subst r;simp[AV.own]
    ·simp[h0]
     split<;>simp_all
 have z:∀i b,(ja base n (fun i=>if i=0 then some o else none)).bx i=some b->i=0/\b=o:=by
  intro i b p;simp only[ja]at p;split at p
  ·rename_i hi;simp at p;exact⟨hi,p.symm⟩
  ·simp at p
 refine(Nv (P:=P) (fid:=fid) hX hE (hq xs m (by rw[h.len];omega)) (vs:=[.d (.sl (wS base) (xs.map (.int .i64))),.fn kc [.ptr 0 0]]) (Bv:=[some [aa m]]) ?_ ?_ H (g:=ja base n (fun i=>if i=0 then some o else none)) (w:=w) rfl ?_ ?_ (fun q j _=>rfl)).mono ?_
 ·simp only[AV.fits]
  refine⟨_,_,rfl,M6 _ _,_,_,rfl,?_,rfl⟩;simp only[AV.fit,AV.fits];exact⟨_,rfl,⟨_,_,rfl,rfl,rfl⟩,by simp[AV.owns,AV.own]⟩
 ·refine⟨rfl,fun i=> ?_⟩
  cases i with
  |zero=>exact⟨by simp,fun cs K=>by simp at K;subst K;exact⟨_,rfl,AV.qeN (by simp only[AV.fit,DV.fit];exact⟨_,rfl,rfl⟩)⟩⟩
  |succ i=>simp
 ·intro j v u M F
  match j with
  |0=>simp at M F;subst M;subst F;exact .d _ _ (J_ h _)
  |1=>
   simp at M F;subst M;subst F
   exact .fn kc _ _ rfl fun j v u r I=>by
    cases j with
    |zero=>simp at r I;subst r;subst I;exact .ptr 0 0 o rfl
    |succ j=>simp at r
  |j+2=>simp at M
 ·refine⟨fun i b p=> ?_,fun i j b p O=>by rw[(z i b p).1,(z j b O).1],fun a Q=>by simp[Ids.none]at Q,fun a a' b x x' Q=>by simp[Ids.none]at Q,J1 h _⟩
  obtain⟨rfl,rfl⟩:=z i b p;refine⟨[aa m],_,ty,rfl,Y,by simp,fun j v u r I=> ?_,fun v hv=>by simp at hv;subst hv;exact⟨rfl,ba _ _⟩,?_⟩
  ·cases j with
   |zero=>simp at r I;subst r;subst I;exact .d _ _ (.int _ _)
   |succ j=>simp at r
  ·cases base with
   |none=>rfl
   |some ad=>simp only[ja];rw[aC];rintro⟨he,hn⟩;exact S ad rfl hn he.symm
 ·rintro e w' ⟨u,g',vv,A',h3,rfl,C,R,D⟩
  simp only[AV.fit,DV.fit]at C;obtain⟨y,rfl,rfl⟩:=C;have F:=GF D.val;subst F;refine⟨rfl,D.step.os,D.step.tape,D.step.output,D.step.size,fun b p V=>(D.step.keep b p (fun i h=>V (z i b h).2) (fun a h=>by simp[Ids.none]at h)).1,?_⟩;have N:=D.boxes.old 0 o rfl;obtain⟨cs,arr,e',c1,c2,c3,c4,_⟩:=D.core.box 0 o N;obtain⟨ds,d1,d2⟩:=(R.2 0).2 _ rfl;rw[c1]at d1;simp at d1;subst d1
  simp only[AV.fits,AV.fit,DV.fit]at d2;obtain⟨_,_,rfl,⟨_,rfl,rfl⟩,rfl⟩:=d2;have J:0<arr.size:=by simp at c3;omega
  have:=GF (c4 0 _ arr[0] rfl (by simp[J]));simp[World.cell?,c2,J,this]
theorem sM(b:Nat):∀(vs:cX) (o:Nat) (w:World) (arr:ee) (t:TypeId),w.heap[b]?=some (.cells arr t (0,0))->∃d,(w.setCells b o vs).heap[b]?=some (.cells d t (0,0))/\d.size=arr.size
 | [],o,w,arr,t,h=>⟨arr,h,rfl⟩
 |v::r,o,w,arr,t,h=>by obtain⟨d,e,g⟩:=sM b r (o+1) (w.setCell ⟨b,o,none⟩ v) _ t (heap_setCell_same w b o arr t v h);exact⟨d,e,by rw[g];simp⟩
theorem uY(b:Nat):∀(vs:cX) (o:Nat) (w:World) (k:Nat),k≠b->(w.setCells b o vs).heap[k]?=w.heap[k]?
 | [],o,w,k,h=>rfl
 |v::r,o,w,k,h=>by rw[World.setCells,uY b r (o+1) _ k h];exact heap_setCell_other w _ k v h
theorem uU(b:Nat):∀(vs:cX) (o:Nat) (w:World),(w.setCells b o vs).os=w.os/\(w.setCells b o vs).tape=w.tape/\(w.setCells b o vs).output=w.output/\(w.setCells b o vs).heap.size=w.heap.size
 | [],o,w=>⟨rfl,rfl,rfl,rfl⟩
 |v::r,o,w=>by obtain⟨d,h,e,g⟩:=uU b r (o+1) (w.setCell ⟨b,o,none⟩ v);exact⟨d,h,e,by rw[World.setCells,g];simp[World.setCell]⟩
structure InsertSays(P:Program)(f:FuncId)(T:TypeId):Prop where
 shift:∀(b off n c i vb voff m vc:Nat) (cs vs:cX) (w:World),i<n->0<m->n+m<=c->c<=9223372036854775807->vb≠b->cs.length=n->vs.length=m->
  (∀(j:Nat) (v:Value),cs[j]?=some v->w.cell? ⟨b,off+j,none⟩=some v)->(∀j,j<n+m->(w.cell? ⟨b,off+j,none⟩).isSome=true)->(∀j,j<n+m->w.frozen? ⟨b,off+j,none⟩=false)->
  (∀(j:Nat) (v:Value),vs[j]?=some v->w.cell? ⟨vb,voff+j,none⟩=some v)->(∀v∈cs,v.oneCell'=true)->(∀v∈vs,v.oneCell'=true)->∀(tA tB:TypeId) (kA kB:Nat),w.shape? vb=some (tA,kA)->w.shape? b=some (tB,kB)->kB≠0->
  w.frozen? ⟨vb,voff,none⟩=false->w.frozen? ⟨vb,kA,none⟩=false->Calls P f #[.slice (some ⟨b,off,none⟩) n c,.int .i64 i,.slice (some ⟨vb,voff,none⟩) m vc] w fun e w'=>e= .returned (.slice (some ⟨b,off,none⟩) (n+m) c)/\w'=(w.drew.setCells b (off+(i+m)) (cs.drop i)).setCells b (off+i) vs
 room:∀(b off n c vb voff m vc:Nat) (vs:cX) (w:World),0<m->n+m<=c->c<=9223372036854775807->vs.length=m->(∀j,j<m->(w.cell? ⟨b,off+n+j,none⟩).isSome=true)->(∀j,j<m->w.frozen? ⟨b,off+n+j,none⟩=false)->
  (∀(j:Nat) (v:Value),vs[j]?=some v->w.cell? ⟨vb,voff+j,none⟩=some v)->(∀v∈vs,v.oneCell'=true)->Calls P f #[.slice (some ⟨b,off,none⟩) n c,.int .i64 n,.slice (some ⟨vb,voff,none⟩) m vc] w fun e w'=>e= .returned (.slice (some ⟨b,off,none⟩) (n+m) c)/\w'=w.setCells b (off+n) vs
 endGrow:∀(base:kV) (n c vb voff m vc:Nat) (cs vs:cX) (w:World),0<m->n<=c->c<n+m->(n+m)*8<=140737488355328->cs.length=n->vs.length=m->(base=none->n=0)->
  (∀a,base=some a->∀(j:Nat) (v:Value),cs[j]?=some v->w.cell? (a.add j)=some v)->(∀(j:Nat) (v:Value),vs[j]?=some v->w.cell? ⟨vb,voff+j,none⟩=some v)->(∀v∈vs,v.oneCell'=true)->
  Calls P f #[.slice base n c,.int .i64 n,.slice (some ⟨vb,voff,none⟩) m vc] w fun e w'=>e= .returned (.slice (some ⟨w.heap.size,0,none⟩) (n+m) (grownCap w (n+m) c T))/\
   w'=w.drew.alloc (.cells ((cs++vs).toArray++Builtin.zeroCells (Value.int .i64 0).cells (grownCap w (n+m) c T-(n+m))) T)
 grow:∀(b off n c i vb voff m vc:Nat) (cs vs:cX) (w:World),i<n->0<m->n<=c->c<n+m->(n+m)*8<=140737488355328->cs.length=n->vs.length=m->(∀(j:Nat) (v:Value),cs[j]?=some v->w.cell? ⟨b,off+j,none⟩=some v)->
  (∀(j:Nat) (v:Value),vs[j]?=some v->w.cell? ⟨vb,voff+j,none⟩=some v)->(∀v∈cs,v.oneCell'=true)->(∀v∈vs,v.oneCell'=true)->Calls P f #[.slice (some ⟨b,off,none⟩) n c,.int .i64 i,.slice (some ⟨vb,voff,none⟩) m vc] w fun e w'=>
   e= .returned (.slice (some ⟨w.heap.size,0,none⟩) (n+m) (grownCap w (n+m) c T))/\
   w'=(((w.alloc (.cells ((cs.take i).toArray++Builtin.zeroCells (Value.int .i64 0).cells (n+m-i)++Builtin.zeroCells (Value.int .i64 0).cells (grownCap w (n+m) c T-(n+m))) T)).drew.setCells w.heap.size i vs).drew).setCells w.heap.size (i+m) (cs.drop i)
theorem jW{w:World}{b:Nat}{arr:ee}{t:TypeId}{z:Nat×Nat}(h:w.heap[b]?=some (.cells arr t z))(k:Nat):w.cell? ⟨b,k,none⟩=arr[k]?:=by simp[World.cell?,h]
theorem lM(w:World)(o:Obj):(w.alloc o).heap[w.heap.size]?=some o:=by show(w.heap.push o)[w.heap.size]?=some o;simp
theorem dF(w:World)(o:Obj):(w.alloc o).heap.size=w.heap.size+1:=by show(w.heap.push o).size=_;simp
theorem Cb(n:Nat):(Builtin.zeroCells (Value.int .i64 0).cells n).size=n:=by rw[size_zeroCells];simp[Value.cells]
theorem Ny(l:ax):∀v∈l.map (Value.int .i64),v.oneCell'=true:=by intro v d;obtain⟨x,_,rfl⟩:=cC.1 d;rfl
structure Inserted(w w':World)(e:Ending)(xs:ax)(g:bi):Prop where
 ret:∃blk cap arr ty,e= .returned (.slice (some ⟨blk,0,none⟩) xs.length cap)/\(g=some blk\/w.heap.size<=blk)/\w'.heap[blk]?=some (.cells arr ty (0,0))/\cap<=arr.size/\xs.length<=cap/\cap<=maxLen/\
  ∀(j:Nat) (x:Int),xs[j]?=some x->arr[j]?=some (.int .i64 x)
 os:w'.os=w.os
 tape:w'.tape=w.tape
 output:w'.output=w.output
 size:w.heap.size<=w'.heap.size
 block:∀b,b<w.heap.size->g≠some b->w'.heap[b]?=w.heap[b]?
theorem qB5{f:FuncId}{T:TypeId}(hi:InsertSays P f T)(w:World)(vb:Nat)(v:Int)(g:w.cell? ⟨vb,0,none⟩=some (.int .i64 v))(base:kV):
 Calls P f #[.slice base 0 0,.int .i64 (0:Nat),.slice (some ⟨vb,0,none⟩) 1 1] w fun e w'=>Inserted w w' e [v] none:=by
 refine(hi.endGrow base 0 0 vb 0 1 1 [] [.int .i64 v] w (by omega) (by omega) (by omega) (by omega) rfl rfl (fun _=>rfl) (fun a _ j x hx=>by simp at hx) (fun j x hx=>by
  cases j with
  |zero=>simp at hx;subst hx;exact g
  |succ j=>simp at hx) (fun x hx=>by simp at hx;subst hx;rfl)).mono ?_
 rintro e w' ⟨rfl,rfl⟩
 have d:=grownCap_ge w (0+1) 0 T;refine⟨⟨w.heap.size,_,_,T,rfl,.inr (bI _),lM w.drew _,?_,d,grownCap_le_maxLen w _ _ _ (by unfold maxLen;omega),fun j x hx=> ?_⟩,rfl,rfl,rfl,by rw[dF];exact b7 _,fun b h _=>Below.heap_alloc w.drew _ b h⟩
 ·rw[Ce,Cb];simp;omega
 ·cases j with
  |zero=>simp at hx;subst hx;rw[G6 (by simp)];rfl
  |succ j=>simp at hx
theorem Kf{f:FuncId}{T:TypeId}(hi:InsertSays P f T)(w:World)(g cap:Nat)(arr:ee)(ty:TypeId)(xs:ax)(i:Nat)(vb:Nat)(h4:TypeId)(v:Int)(Z:w.heap[g]?=some (.cells arr ty (0,0)))(a3:cap<=arr.size)(hn:xs.length<=cap)(hm:cap<=maxLen)
 (O:∀(j:Nat) (x:Int),xs[j]?=some x->arr[j]?=some (.int .i64 x)) (I:(xs.length+1)*8<=140737488355328) (hv:w.heap[vb]?=some (.cells #[.int .i64 v] h4 (0,0))) (x2:vb≠g) (hile:i<=xs.length):
 Calls P f #[.slice (some ⟨g,0,none⟩) xs.length cap,.int .i64 (i:Nat),.slice (some ⟨vb,0,none⟩) 1 1] w fun e w'=>Inserted w w' e (xs.take i++v::xs.drop i) (some g):=by
 have m:∀k,w.cell? ⟨g,k,none⟩=arr[k]?:=jW Z;have h5:w.cell? ⟨vb,0,none⟩=some (.int .i64 v):=by rw[jW hv];rfl
 have H:∀(j:Nat) (x:Value),[Value.int .i64 v][j]?=some x->w.cell? ⟨vb,0+j,none⟩=some x:=fun j x hx=>by
  cases j with
  |zero=>simp at hx;subst hx;exact h5
  |succ j=>simp at hx
 have F:∀x∈[Value.int .i64 v],x.oneCell'=true:=fun x hx=>by simp at hx;subst hx;rfl
 have K:∀(j:Nat) (x:Value),(xs.map (Value.int .i64))[j]?=some x->w.cell? ⟨g,0+j,none⟩=some x:=fun j x hx=>by simp only[dP,aN]at hx;obtain⟨y,hy,rfl⟩:=hx;rw[dE,m];exact O j y hy
 have h3:∀k,w.frozen? ⟨g,k,none⟩=false:=fun k=>by simp[World.frozen?,Z]
 have l:∀k,k<arr.size->(w.cell? ⟨g,k,none⟩).isSome=true:=fun k R=>by rw[m];simp[R]
 have hmx:maxLen=9223372036854775807:=rfl;have d:(xs.take i++v::xs.drop i).length=xs.length+1:=by simp;omega
 have z:∀j,(xs.take i++v::xs.drop i)[j]?=if j<i then xs[j]? else if j=i then some v else xs[j-1]?:=by
  intro j
  by_cases p:j<i
  ·rw[ay p,d8 (by simp;omega),pX,ay p]
  ·rw[aC p,dx (by simp;omega)]
   have:(xs.take i).length=i:=by simp;omega
   rw[this]
   by_cases q:j=i
   ·subst q;simp
   ·rw[aC q,show j-i=(j-i-1)+1 by omega,Cj,DD]
    congr 1;omega
 by_cases hroom:xs.length+1<=cap
 ·by_cases C:i=xs.length
  ·subst C
   refine(hi.room g 0 xs.length cap vb 0 1 1 [.int .i64 v] w (by omega) hroom (by omega) rfl (fun j S=>l _ (by omega)) (fun j _=>h3 _) H F).mono ?_
   rintro e w' ⟨rfl,rfl⟩
   obtain⟨o,J,a2⟩:=sM g [.int .i64 v] (0+xs.length) w arr ty Z;obtain⟨r1,Y,r3,r4⟩:=uU g [.int .i64 v] (0+xs.length) w;refine⟨⟨g,cap,o,ty,by rw[d],.inl rfl,J,by omega,by rw[d];exact hroom,hm,fun j x hx=> ?_⟩,r1,Y,r3,by omega,fun b hb D=>uY g _ _ w b (fun h=>D (by rw[h]))⟩;rw[z]at hx;rw[<-jW J]
   by_cases p:j<xs.length
   ·rw[ay p]at hx
    rw[World.cell?_setCells_out g _ _ w _ (fun _ _=> .inl (by simpa using p)),m];exact O j x hx
   ·rw[aC p]at hx
    by_cases q:j=xs.length
    ·rw[ay q]at hx;simp at hx;subst hx;subst q
     have:=World.cell?_setCells_in g [.int .i64 v] (0+xs.length) w (fun j S=>l _ (by simp at S;omega)) 0 (by simp);simpa using this
    ·rw[aC q]at hx
     have:=(cw.1 hx).1;omega
  ·have Q:i<xs.length:=by omega
   refine(hi.shift g 0 xs.length cap i vb 0 1 1 (xs.map (.int .i64)) [.int .i64 v] w Q (by omega) hroom (by omega) x2 (by simp) rfl K (fun j S=>by rw[dE];exact l _ (by omega)) (fun j _=>h3 _) H (Ny xs) F h4 ty 1 arr.size
    (by simp[World.shape?,hv]) (by simp[World.shape?,Z]) (by omega) (by simp[World.frozen?,hv]) (by simp[World.frozen?,hv])).mono ?_
   rintro e w' ⟨rfl,rfl⟩
   obtain⟨r,J,a2⟩:=sM g ((xs.map (Value.int .i64)).drop i) (0+(i+1)) w.drew arr ty Z;obtain⟨o,V,b2⟩:=sM g [.int .i64 v] (0+i) _ r ty J;obtain⟨r1,Y,r3,r4⟩:=uU g ((xs.map (Value.int .i64)).drop i) (0+(i+1)) w.drew;obtain⟨s1,s2,s3,s4⟩:=uU g [.int .i64 v] (0+i) (w.drew.setCells g (0+(i+1)) ((xs.map (Value.int .i64)).drop i));refine⟨⟨g,cap,o,ty,by rw[d],.inl rfl,V,by omega,by rw[d];exact hroom,hm,fun j x hx=> ?_⟩,s1.trans r1,s2.trans Y,s3.trans r3,by rw[s4,r4];exact bI _,fun b hb D=>by rw[uY g _ _ _ b (fun h=>D (by rw[h])),uY g _ _ _ b (fun h=>D (by rw[h]))];rfl⟩
   rw[z]at hx;rw[<-jW V];have x3:∀(j:Nat),j<((xs.map (Value.int .i64)).drop i).length->(w.drew.cell? ⟨g,0+(i+1)+j,none⟩).isSome=true:=fun j S=>by simp at S;exact l _ (by omega)
   by_cases p:j<i
   ·rw[ay p]at hx
    rw[World.cell?_setCells_out g _ _ _ _ (fun _ _=> .inl (by simpa using p)),World.cell?_setCells_out g _ _ _ _ (fun _ _=> .inl (by show j<0+(i+1);omega))];exact(m j).trans (O j x hx)
   ·rw[aC p]at hx
    by_cases q:j=i
    ·rw[ay q]at hx;simp at hx;subst hx;subst q
     have:=World.cell?_setCells_in g [.int .i64 v] (0+j) (w.drew.setCells g (0+(j+1)) ((xs.map (Value.int .i64)).drop j)) (fun k R=>by rw[jW J];simp at R;simp;omega) 0 (by simp);simpa using this
    ·rw[aC q]at hx
     have x1:=(cw.1 hx).1;rw[World.cell?_setCells_out g _ _ _ _ (fun _ _=> .inr (by show 0+i+1<=j;omega))];have:=World.cell?_setCells_in g ((xs.map (Value.int .i64)).drop i) (0+(i+1)) w.drew x3 (j-(i+1)) (by simp;omega);rw[show 0+(i+1)+(j-(i+1))=j by omega]at this;rw[this];have M:xs[j-1]=x:=(cw.1 hx).2;simp only[List.getElem_drop,Cu];rw[<-M]
     congr 3;omega
 ·by_cases C:i=xs.length
  ·subst C
   refine(hi.endGrow (some ⟨g,0,none⟩) xs.length cap vb 0 1 1 (xs.map (.int .i64)) [.int .i64 v] w (by omega) hn (by omega) I (by simp) rfl (fun h=>by simp at h) (fun a ha j x hx=>by
    simp only[ca]at ha;subst ha
    have:(⟨g,0,none⟩:Addr).add j=⟨g,0+j,none⟩:=by unfold Addr.add;split<;>simp_all
    rw[this];exact K j x hx) H F).mono ?_
   rintro e w' ⟨rfl,rfl⟩
   have N:=grownCap_ge w (xs.length+1) cap T;refine⟨⟨w.heap.size,_,_,T,by rw[d],.inr (bI _),lM w.drew _,?_,by rw[d];exact N,grownCap_le_maxLen w _ _ _ (by omega),fun j x hx=> ?_⟩,rfl,rfl,rfl,by rw[dF];exact b7 _,fun b hb _=>Below.heap_alloc w.drew _ b hb⟩
   ·rw[Ce,Cb];simp;omega
   ·have S:=(cw.1 hx).1
    rw[d]at S;rw[jY,Gu]at hx;rw[G6 (by simp;omega)];have:(xs.map (Value.int .i64)++[Value.int .i64 v])=(xs++[v]).map (Value.int .i64):=by simp
    rw[this,List.getElem?_toArray,dP,hx];rfl
  ·have Q:i<xs.length:=by omega
   refine(hi.grow g 0 xs.length cap i vb 0 1 1 (xs.map (.int .i64)) [.int .i64 v] w Q (by omega) hn (by omega) I (by simp) rfl K H (Ny xs) F).mono ?_
   rintro e w' ⟨rfl,rfl⟩
   have N:=grownCap_ge w (xs.length+1) cap T;generalize hA:(((xs.map (Value.int .i64)).take i).toArray++Builtin.zeroCells (Value.int .i64 0).cells (xs.length+1-i)++Builtin.zeroCells (Value.int .i64 0).cells (grownCap w (xs.length+1) cap T-(xs.length+1)))=A0;have hA0:A0.size=grownCap w (xs.length+1) cap T:=by rw[<-hA,Ce,Ce,Cb,Cb];simp;omega
   obtain⟨r,J,a2⟩:=sM w.heap.size [.int .i64 v] i (w.alloc (.cells A0 T)).drew A0 T (lM w _);obtain⟨o,V,b2⟩:=sM w.heap.size ((xs.map (Value.int .i64)).drop i) (i+1) (((w.alloc (.cells A0 T)).drew.setCells w.heap.size i [.int .i64 v]).drew) r T J;obtain⟨r1,Y,r3,r4⟩:=uU w.heap.size [.int .i64 v] i (w.alloc (.cells A0 T)).drew;obtain⟨s1,s2,s3,s4⟩:=uU w.heap.size ((xs.map (Value.int .i64)).drop i) (i+1) (((w.alloc (.cells A0 T)).drew.setCells w.heap.size i [.int .i64 v]).drew);refine⟨⟨w.heap.size,_,o,T,by rw[d],.inr (bI _),V,by omega,by rw[d];exact N,grownCap_le_maxLen w _ _ _ (by omega),fun j x hx=> ?_⟩,s1.trans r1,s2.trans Y,s3.trans r3,by
    rw[s4];show w.heap.size<=((w.alloc (.cells A0 T)).drew.setCells w.heap.size i [.int .i64 v]).heap.size;rw[r4];show w.heap.size<=(w.alloc (.cells A0 T)).heap.size;rw[dF];exact b7 _,fun b hb _=>by
    rw[uY _ _ _ _ b (by omega)];show((w.alloc (.cells A0 T)).drew.setCells w.heap.size i [.int .i64 v]).heap[b]?=_;rw[uY _ _ _ _ b (by omega)];exact Below.heap_alloc w _ b hb⟩
   rw[z]at hx;rw[<-jW V];have c1:∀k,(w.alloc (.cells A0 T)).drew.cell? ⟨w.heap.size,k,none⟩=A0[k]?:=jW (lM w (.cells A0 T));have c2:∀k,(((w.alloc (.cells A0 T)).drew.setCells w.heap.size i [.int .i64 v]).drew).cell? ⟨w.heap.size,k,none⟩=r[k]?:=jW J
   by_cases p:j<i
   ·rw[ay p]at hx
    rw[World.cell?_setCells_out _ _ _ _ _ (fun _ _=> .inl (by show j<i+1;omega))];show((w.alloc (.cells A0 T)).drew.setCells w.heap.size i [.int .i64 v]).cell? ⟨w.heap.size,j,none⟩=_;rw[World.cell?_setCells_out _ _ _ _ _ (fun _ _=> .inl p),c1,<-hA,Array.append_assoc,G6 (by simp;omega)];simp[p,hx]
   ·rw[aC p]at hx
    by_cases q:j=i
    ·rw[ay q]at hx;simp at hx;subst hx;subst q
     rw[World.cell?_setCells_out _ _ _ _ _ (fun _ _=> .inl (by show j<j+1;omega))];have:=World.cell?_setCells_in w.heap.size [.int .i64 v] j (w.alloc (.cells A0 T)).drew (fun k R=>by rw[c1];simp at R;simp;omega) 0 (by simp);simpa using this
    ·rw[aC q]at hx
     have x1:=(cw.1 hx).1;have:=World.cell?_setCells_in w.heap.size ((xs.map (Value.int .i64)).drop i) (i+1) (((w.alloc (.cells A0 T)).drew.setCells w.heap.size i [.int .i64 v]).drew) (fun k R=>by rw[c2];simp at R;simp;omega) (j-(i+1)) (by simp;omega);rw[show i+1+(j-(i+1))=j by omega]at this;rw[this];have M:xs[j-1]=x:=(cw.1 hx).2;simp only[List.getElem_drop,Cu];rw[<-M]
     congr 3;omega
end Go.Proofs.YtpcoohnjllclnaaGreat.VS
