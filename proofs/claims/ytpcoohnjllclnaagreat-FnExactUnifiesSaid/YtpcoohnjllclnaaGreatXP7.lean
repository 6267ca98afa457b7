/- Contracts of the program's functions on the evaluator without names, and plain lemmas: part 7. -/
import Derived.Test.YtpcoohnjllclnaaGreatXP6
set_option linter.unusedSimpArgs false
set_option linter.unusedVariables false
namespace Go.Proofs.YtpcoohnjllclnaaGreat.VS
theorem qIJ(n v w:Int):cz (cz n v) w=cz (cz n w) v:=by
 unfold cz
 repeat' split
 all_goals omega
variable{s:aC}
theorem BK{t:T}(h:cu s t=true):t.inner+1<=60:=by unfold cu at h;simp only[cb,cA]at h;exact h.2.1
def eW(n:Int)(t:T):Int:=(dk t).foldl cz n
theorem vR:∀(ts:ah) (n:Int),ts.foldl eW n=(ts.flatMap dk).foldl cz n
 | [],n=>rfl
 |t::ts,n=>by rw[jI,vR ts,mt,wG];rfl
theorem LD:∀(l:bg) (n:Int),l.foldl lQ n=(l.map Eqn.b).foldl eW ((l.map Eqn.a).foldl eW n)
 | [],n=>rfl
 |e::l,n=>by
  have key:∀(xs:ax) (m v:Int),xs.foldl cz (cz m v)=cz (xs.foldl cz m) v:=fun xs=>by
   induction xs with
   |nil=>intro m v;rfl
   |cons x xs g=>intro m v;simp only[jI];rw[qIJ,g]
  have swap:∀(xs d:ax) (m:Int),xs.foldl cz (d.foldl cz m)=d.foldl cz (xs.foldl cz m):=fun xs d=>by
   induction d with
   |nil=>intro m;rfl
   |cons y d g=>intro m;simp only[jI];rw[g,key]
  rw[jI,LD l];simp only[bF,jI];rw[vR,vR,vR,vR];unfold lQ eW;rw[wG,swap ((l.map Eqn.a).flatMap dk) (dk e.b)]
section
variable (ts:ah)
def nO(n:Int)(i:Nat):aI:=[(0,.d (ao .sub ts)),(1,aa n),(5,aa i)]
theorem Ui(i:Nat)(n:Int)(vs:ax)(D:∀v,v∈vs->0<=v/\v<=99)(w:0<=n/\n<=100)(F:vs.length<=1000000):
 bo XV (XV.lin 247) 0 [0,1,5,6,7] wF ⟨nO ts n i++[(6,.d (is vs)),(7,aa 0)],[]⟩=
  some (.exit 2,⟨nO ts (vs.foldl cz n) i++[(6,.d (is vs)),(7,aa vs.length),(22,au false)],[]⟩):=by
 have h:=dS (X:=XV) (T:=XV.lin 247) (L:=0) (live:=[0,1,5,6,7]) (b:=wF) (n:=vs.length) (γ:=Unit) (R:=fun _=>(.ret,⟨[],[]⟩)) (step:=fun a j=> .inl (cz a ((vs[j]?).getD 0)))
  (st:=fun(a:Int) j=>⟨nO ts a i++[(6,.d (is vs)),(7,aa j)],[]⟩) 2 22 (fun a _=>0<=a/\a<=100) n
  (fun a _=>by simp[wF,oS,pF,pH,o8,pz,oi,pc,pg,pG,oe,nO])
  (fun a j p q=>by
   have z:=aV (n:=j) (by omega);have r:(vs[j]?).getD 0=vs[j]:=by simp[p]
   have l:=D _ (gY p);rw[r];have C:=Ik q l;generalize hx:vs[j]=x at*
   have g:IntKind.i64.wrap (x+1)=x+1:=wrap_i64 (by omega) (by omega);have e:=Mr a (x+1);have o:(if x+1>a then x+1 else a)=cz a x:=rfl;rw[o]at e;refine⟨⟨⟨nO ts (cz a x) i++[(6,.d (is vs)),(7,aa (j+1:Nat))],[]⟩,?_,by simp[nO,aA,aB]⟩,fun a' h=>by cases h;exact C⟩;generalize cz a x=m at*
   simp[wF,oS,pF,pH,o8,pz,oi,pc,pg,pG,oe,nO,p,z,g,hx,e,cut,splice])
  w (by simp[nO,aA,aB])
 rw[B_ vs 0 cz vs.length 0 n (by omega)]at h;simpa[nO]using h
theorem Lj(n:Int)(D:0<=n/\n<=100)(O:ts.length<=1000000)(o:∀t,t∈ts->cu s t=true):
 ak XV 247 [.d (ao .sub ts),aa n] []=some (aa (ts.foldl eW n),[])/\0<=ts.foldl eW n/\ts.foldl eW n<=100:=by
 have g:∀a t,0<=a/\a<=100->t∈ts->0<=eW a t/\eW a t<=100:=fun a t e r=>y5 _ a e fun v p=>tK (o t r) p
 have h:=dS (X:=XV) (T:=XV.lin 247) (L:=0) (live:=[0,1,5]) (b:=vW) (n:=ts.length) (γ:=Unit) (R:=fun _=>(.ret,⟨[],[]⟩)) (step:=fun a i=> .inl (eW a (ai ts i)))
  (st:=fun(a:Int) i=>⟨nO ts a i,[]⟩) 0 11 (fun a _=>0<=a/\a<=100) n
  (fun a _=>by simp[vW,oS,pF,pH,o8,pz,oi,pc,pg,pG,oe,nO])
  (fun a i hi e=>by
   have J:=aV (n:=i) (by omega);have r:=bL hi;have w:=o _ r;have H:=BK w;have M:=GE w;have p:=V0 (ai ts i) (by omega);have j:=Ui ts i a (dk (ai ts i)) (fun v p=>tK w p) e (by omega);have z:=a5 hi;refine⟨⟨⟨nO ts (eW a (ai ts i)) (i+1),[]⟩,?_,by simp[nO,aA,aB]⟩,fun a' h=>by cases h;exact g a _ e r⟩;unfold eW;generalize dk (ai ts i)=vs at*
   generalize ai ts i=t at*
   generalize vs.foldl cz a=m at*
   obtain⟨Q,N,S⟩:=t;simp only[MC,nO,c_,cp]at j;simp[vW,oS,pF,pH,o8,pz,oi,pc,pg,pG,oe,nO,hi,z,p,cut,splice];rw[j];simp[vW,oS,pF,pH,o8,pz,oi,pc,pg,pG,oe,J])
  D (by simp[nO,aA,aB])
 rw[vZ]at h;have C:∀(l:ah) (a:Int),(∀t,t∈l->t∈ts)->0<=a/\a<=100->0<=l.foldl eW a/\l.foldl eW a<=100:=fun l=>by
  induction l with
  |nil=>intro a _ e;exact e
  |cons t l I=>intro a F e;exact I _ (fun q K=>F q (by simp[K])) (g a t e (F t (by simp)))
 refine⟨?_,C ts n (fun t h=>h) D⟩;rw[aL 247 yh rfl];simp only[MC,nO,dy,c_,cp]at h;simp[yh,oS,pF,pH,o8,pz,oi,pc,pg,pG,oe];rw[h];simp[yh,oS,pF,pH,o8,pz,oi,pc,pg,pG,oe]
end
theorem JS(x y:ah):∀n,n<=x.length->(bD x y n).map Eqn.a=x.take n
 |0,_=>by simp[bD]
 |n+1,h=>by simp only[bD,cM,JS x y n (by omega),bF,bS];rw[ov,ft (by omega),a5 (by omega)];rfl
theorem OT(x y:ah):∀n,n<=y.length->(bD x y n).map Eqn.b=y.take n
 |0,_=>by simp[bD]
 |n+1,h=>by simp only[bD,cM,OT x y n (by omega),bF,bS];rw[ov,ft (by omega),a5 (by omega)];rfl
theorem I2(x y:ah):∀n e,e∈bD x y n->∃i,i<n/\e=⟨ai x i,ai y i⟩
 |0,e,h=>by simp[bD]at h
 |n+1,e,h=>by
  rcases bu.1 h with h|h
  ·obtain⟨i,hi,d⟩:=I2 x y n e h
   exact⟨i,by omega,d⟩
  ·exact⟨n,by omega,fF.1 h⟩
def j9(s:aC)(x y:ah)(i:Nat):Bool:= !jR s ⟨ai x i,ai y i⟩
theorem Rt(s:aC)(x y:ah):∀n,fR s (bD x y n)=(aR (j9 s x y) n 0).isNone:=fun n=>by
 have key:∀n,fR s (bD x y n)=true↔∀i,i<n->j9 s x y i=false:=fun n=>by
  induction n with
  |zero=>simp[fR,bD]
  |succ n l=>
   have:fR s (bD x y (n+1))=(fR s (bD x y n)&&jR s ⟨ai x n,ai y n⟩):=by simp[fR,bD,Ee]
   rw[this,cb,l];constructor
   ·intro⟨g,d⟩ i hi
    by_cases e:i=n
    ·subst e;unfold j9;rw[d];rfl
    ·exact g i (by omega)
   ·intro h
    exact⟨fun i hi=>h i (by omega),by have:=h n (by omega);unfold j9 at this;simpa using this⟩
 rw[nZ,key n];constructor
 ·intro h
  cases hf:aR (j9 s x y) n 0 with
  |none=>rfl
  |some j=>obtain⟨_,g,d⟩:=dA _ _ _ _ hf;rw[h j (by omega)]at d;cases d
 ·intro h i hi
  exact pR _ _ h i hi
def tq(s:aC)(x y:ah):List aF×Int:=if x.length=y.length/\b0 x.length 1 4=true then q_ s (bD x y x.length)else([],1)
section
variable {s:aC} {G:Nat->bg->aF->Int->Prop} (x y:ah)
end
def lW(s:aC)(a b:T):List aF×Int:=tq s [a] [b]
def vD(s:aC)(a b:T):Bool:=((lW s a b).2==0)&&decide (0<(lW s a b).1.length)
section
variable {s:aC} {G:Nat->bg->aF->Int->Prop}
theorem qmb(x y:ah)(D:SgOk s)(hS:Safe s G)(hG:∀l,l.length<=4->fR s l=true->G 402 l [] (fg l))(hl:x.length<=1099511627776)(bx:∀t,t∈x->t.inner<=1099511627776)(Z:∀t,t∈y->t.inner<=1099511627776):
 ak XV 240 [.d (sg s),.d (ao .sub x),.d (ao .sub y)] []=some (.d (.tup [dI (tq s x y).1,.int .i64 (tq s x y).2]),[]):=by
 rw[aL 240 lC rfl];have g:=mi x.length 1 4;unfold tq
 by_cases r:x.length=y.length
 case neg=>
  rw[aD (fun h=>r h.1)];have:((x.length:Int) !=(y.length:Int))=true:=by simp;omega
  simp[lC,jV,jF,jQ,jM,jB,jU,jT,jE,jW,kK,jS,jX,jK,jA,ku,jH,this,splice]
 case pos=>
  have w:((x.length:Int) !=(y.length:Int))=false:=by simp;omega
  cases hi4:b0 x.length 1 4 with
  |false=>rw[hi4]at g;rw[aD (by simp)];rw[r]at g w;simp[lC,jV,jF,jQ,jM,jB,jU,jT,jE,jW,kK,jS,jX,jK,jA,ku,jH,w,g,r,splice]
  |true=>
   rw[hi4]at g;rw[ay ⟨r,rfl⟩];have h4:x.length<=4:=by unfold b0 at hi4;simp at hi4;omega
   have h5:=o9 x y x.length;have h:=dS (X:=XV) (T:=XV.lin 240) (L:=0) (live:=[0,1,2,8,9,10]) (b:=tM) (n:=x.length) (γ:=Nat) (R:=fun _=>(.ret,⟨[(6,.d (.sl U [])),(7,aa 1)],[]⟩)) (step:=bG (j9 s x y))
    (st:=fun(_:Unit) i=>⟨[(0,.d (sg s)),(1,.d (ao .sub x)),(2,.d (ao .sub y)),(8,.d (.sl U [])),(9,.d (.sl U ((bD x y i).map (Eqn.enc .sub .sub)))),(10,aa i)],[]⟩) 0 29 (fun _ _=>True) ()
    (fun _ _=>by simp[tM,jV,jF,jQ,jM,jB,jU,jT,jE,jW,kK,jS,jX,jK,jA,ku,jH])
    (fun _ i hi _=>by
     have O:=aV (n:=i) (by omega);have o:i<y.length:=by omega
     have h3:=o9 x y i;have ha:=Bb (bD x y i) .sub .sub ⟨ai x i,ai y i⟩ (by omega);have Y:bD x y (i+1)=bD x y i++[⟨ai x i,ai y i⟩]:=rfl;have I:=a5 hi;have N:=a5 o;have C:=H8 s D.len D.nam (ai x i) (bx _ (bL hi));have H:=H8 s D.len D.nam (ai y i) (Z _ (bL o));unfold bG;have M:j9 s x y i= !(cu s (ai x i)&&cu s (ai y i)):=rfl;rw[M];refine⟨?_,fun _ _=>trivial⟩;cases c1:cu s (ai x i)with
     |false=>
      rw[c1]at C;simp only[qh,kF,if_true];generalize (bD x y i).map (Eqn.enc .sub .sub)=L1 at*
      generalize ai x i=p at*
      obtain⟨pf,pv,pk⟩:=p;exact⟨by simp,by simp[tM,jV,jF,jQ,jM,jB,jU,jT,jE,jW,kK,jS,jX,jK,jA,ku,jH,hi,o,cut,I,N,C,splice]⟩
     |true=>
      rw[c1]at C;cases c2:cu s (ai y i)with
      |false=>
       rw[c2]at H;simp only[eF,kF,if_true];generalize (bD x y i).map (Eqn.enc .sub .sub)=L1 at*
       generalize ai x i=p at*
       generalize ai y i=q at*
       obtain⟨pf,pv,pk⟩:=p;obtain⟨qf,qv,qk⟩:=q;exact⟨by simp,by simp[tM,jV,jF,jQ,jM,jB,jU,jT,jE,jW,kK,jS,jX,jK,jA,ku,jH,hi,o,cut,I,N,C,H,splice]⟩
      |true=>
       rw[c2]at H;simp only[eF,lB,bh,if_false];refine⟨⟨[(0,.d (sg s)),(1,.d (ao .sub x)),(2,.d (ao .sub y)),(8,.d (.sl U [])),(9,.d (.sl U ((bD x y (i+1)).map (Eqn.enc .sub .sub)))),(10,aa (i+1:Nat))],[]⟩,?_,by simp[aA,aB]⟩;rw[Y];generalize (bD x y i++[Eqn.mk (ai x i) (ai y i)]).map (Eqn.enc .sub .sub)=L2 at*
       generalize (bD x y i).map (Eqn.enc .sub .sub)=L1 at*
       generalize ai x i=p at*
       generalize ai y i=q at*
       obtain⟨pf,pv,pk⟩:=p;obtain⟨qf,qv,qk⟩:=q;simp only[Eqn.enc,T.qaO,T.qbx,T.qav]at ha;simp[tM,jV,jF,jQ,jM,jB,jU,jT,jE,jW,kK,jS,jX,jK,jA,ku,jH,hi,o,O,cut,I,N,C,H,ha,splice])
    trivial (by simp[aA,aB,bD])
   rw[cT]at h;have e:=Rt s x y x.length;simp only[YG,bD,bS,dy]at h;unfold q_;cases hf:aR (j9 s x y) x.length 0 with
   |some j=>rw[hf]at h e;simp only[Option.isNone_some]at e;rw[e];simp only[bh,if_false];simp[lC,jV,jF,jQ,jM,jB,jU,jT,jE,jW,kK,jS,jX,jK,jA,ku,jH,w,g,splice];rw[h];simp[lC,jV,jF,jQ,jM,jB,jU,jT,jE,jW,kK,jS,jX,jK,jA,ku,jH]
   |none=>
    rw[hf]at h e;simp only[Option.isNone_none]at e;rw[e];simp only[if_true];have z:∀t,(t∈x\/t∈y)->cu s t=true:=fun t F=>by
     have hq:=pR (j9 s x y) x.length (by rw[hf];rfl);rcases F with F|F
     ·obtain⟨i,hi,rfl⟩:=mo F
      have:=hq i hi;rw[a5 hi];unfold j9 jR at this;simp at this;exact this.1
     ·obtain⟨i,hi,rfl⟩:=mo F
      have:=hq i (by omega);rw[a5 hi];unfold j9 jR at this;simp at this;exact this.2
    obtain⟨n1,K,J⟩:=Lj x 0 ⟨by omega,by omega⟩ (by omega) (fun t h=>z t (.inl h));obtain⟨Q,_,_⟩:=Lj y _ ⟨K,J⟩ (by omega) (fun t h=>z t (.inr h));have V:y.foldl eW (x.foldl eW 0)=fg (bD x y x.length):=by unfold fg;rw[LD,JS x y _ (bN _),OT x y _ (by omega),lg,dC (by omega)]
    rw[V]at Q;have hg:=hG _ (by omega) e;have hx:=O8 (k:=0) D hS 402 (bD x y x.length) [] _ ⟨[],0,false⟩ [some (rU s ⟨[],0,false⟩)] rfl hg ⟨nofun,c7 _,fun _=>⟨c7 _,c7 _⟩⟩ (.inr (by show 402<=402+0;omega));have Y:(US.run ⟨[],0,false⟩ (cH s 402 (bD x y x.length) [] (fg (bD x y x.length))))=rX s (bD x y x.length):=rfl;rw[Y]at hx;generalize rX s (bD x y x.length)=S at*
    generalize fg (bD x y x.length)=m at*
    generalize x.foldl eW 0=m0 at*
    generalize bD x y x.length=l at*
    obtain⟨told,work,over⟩:=S;simp only[rU,dI,bS,binds,be]at hx⊢
    simp[lC,jV,jF,jQ,jM,jB,jU,jT,jE,jW,kK,jS,jX,jK,jA,ku,jH,w,g,splice];rw[h];cases over with
    |true=>simp at hx;simp[lC,jV,jF,jQ,jM,jB,jU,jT,jE,jW,kK,jS,jX,jK,jA,ku,jH,hx,n1,Q,splice]
    |false=>simp at hx;simp[lC,jV,jF,jQ,jM,jB,jU,jT,jE,jW,kK,jS,jX,jK,jA,ku,jH,hx,n1,Q,splice]
theorem qtS(a b:T)(q:SgOk s)(D:Safe s G)(w:∀l,l.length<=4->fR s l=true->G 402 l [] (fg l))(p:a.inner<=1099511627776)(C:b.inner<=1099511627776):
 ak XV 333 [.d (sg s),.d (a.enc .sub),.d (b.enc .sub)] []=some (.d (.tup [dI (lW s a b).1,.int .i64 (lW s a b).2]),[]):=by
 rw[aL 333 Dn rfl];have h:=qA4 s [⟨a,b⟩] q (by simp) (fun e g=>by rw[fF.1 g];exact⟨p,C⟩) D (w _ (by simp));have g:lW s a b=q_ s [⟨a,b⟩]:=rfl;rw[g];generalize q_ s [⟨a,b⟩]=r at*
 obtain⟨o,av,i⟩:=a;obtain⟨j,bv,m⟩:=b;have z:be [⟨.node o av i,.node j bv m⟩]= .sl .sub [.agg [.int .i64 o,.int .i64 av,ao .sub i,.int .i64 j,.int .i64 bv,ao .sub m]]:=rfl;rw[z]at h;simp[Dn,h,splice]
theorem qsz(a b:T)(i:SgOk s)(o:Safe s G)(j:∀l,l.length<=4->fR s l=true->G 402 l [] (fg l))(h:a.inner<=1099511627776)(m:b.inner<=1099511627776):
 ak XV 302 [.d (sg s),.d (a.enc .sub),.d (b.enc .sub)] []=some (.d (.tup [dI (lW s a b).1,.int .i64 (lW s a b).2]),[]):=by
 rw[aL 302 C4 rfl];have e:=qmb [a] [b] i o j (by simp) (by simpa using h) (by simpa using m);have g:lW s a b=tq s [a] [b]:=rfl;rw[g];generalize tq s [a] [b]=r at*
 obtain⟨z,av,p⟩:=a;obtain⟨q,bv,w⟩:=b;simp only[ao,bF,bS]at e;simp[C4,e,splice]
theorem PP(a b:T)(h:SgOk s)(m:Safe s G)(i:∀l,l.length<=4->fR s l=true->G 402 l [] (fg l))(e:a.inner<=1099511627776)(j:b.inner<=1099511627776):
 ak XV 376 [.d (sg s),.d (a.enc .sub),.d (b.enc .sub)] []=some (au (vD s a b),[]):=by
 rw[aL 376 AE rfl];have g:=qtS a b h m i e j;unfold vD;generalize lW s a b=r at*
 obtain⟨w,c⟩:=r;obtain⟨z,av,o⟩:=a;obtain⟨p,bv,q⟩:=b;cases hc:(c==0)<;>simp[AE,g,hc,splice]
theorem qn1(a b:T)(h:SgOk s)(m:Safe s G)(i:∀l,l.length<=4->fR s l=true->G 402 l [] (fg l))(e:a.inner<=1099511627776)(j:b.inner<=1099511627776):
 ak XV 375 [.d (sg s),.d (a.enc .sub),.d (b.enc .sub)] []=some (au (vD s a b),[]):=by
 rw[aL 375 Bs rfl];have g:=qsz a b h m i e j;unfold vD;generalize lW s a b=r at*
 obtain⟨w,c⟩:=r;obtain⟨z,av,o⟩:=a;obtain⟨p,bv,q⟩:=b;cases hc:(c==0)<;>simp[Bs,g,hc,splice]
end
def Vu(t:T)(n:Int):Int:=IntKind.i64.wrap (T.sum (wC n) t)
variable{f:Int}
theorem xF{l:aC}(h:bn l f=true):f≠-1:=by unfold bn at h;simp only[cb]at h;have:=(pn h.1).1;omega
theorem count_le(t:T)(n:Int):0<=T.sum (wC n) t/\T.sum (wC n) t<=(t.inner:Int)+1:=by have h:=qKc t [n] (sC _ _);simp only[bF,bS,mQ,List.sum_nil]at h;have g:=vo (wC n) t;have d:=JX (l:=t.nodes) (w:=wC n) (fun x _=>KQ n x);have e:=F9 t;omega
theorem qKd(t:T)(n:Int)(h:t.inner<=1099511627776):Vu t n=T.sum (wC n) t:=by have:=count_le t n;exact wrap_i64 (by omega) (by omega)
def bQ(s:aC)(u:aF)(t:T):T:=(bM u t).norm s
theorem mZ(u:aF)(v:Int):bM u (.node (-1) v [])=cJ u v:=by simp[bM]
variable{ks:ah}
theorem nd(u:aF){v:Int}(h:¬(f= -1/\ks.length=0)):bM u (.node f v ks)= .node f v (b9 u ks):=by simp only[bM];rw[aD h]
theorem yd(s:aC)(u:aF){v:Int}(h:¬(f= -1/\ks.length=0))(d:¬bn s f=true):bQ s u (.node f v ks)= .node f v (ks.map (bQ s u)):=by unfold bQ;rw[nd u h];simp only[T.norm];rw[aD d,nt s f d,T.norms_map,i7,eI];rfl
theorem r_(s:aC)(u:aF){v:Int}(d:bn s f=true):bQ s u (.node f v ks)= .node f v (dE (flatK s f (ks.map (bQ s u)))):=by unfold bQ;rw[nd u (fun h=>xF d h.1)];simp only[T.norm];rw[ay d,T.norms_map,i7,eI];rfl
theorem My{v:Int}(d:bn s f=true):dw s f (.node f v ks)=ks:=by simp[dw,d]
variable{k:T}
theorem Zt(h:k.f≠f):dw s f k=[k]:=by
 have:(k.f==f)=false:=by simpa using h
 simp[dw,this]
theorem Tm(s:aC)(u:aF)(f:Int)(d:bn s f=true)(k:T):(flatK s f ((dw s f k).map (bQ s u))).Perm (dw s f (bQ s u k)):=by
 by_cases h:k.f=f
 ·obtain⟨e,v,ks⟩:=k
  simp only[T.qaO]at h;subst h;rw[My d,r_ s u d,My d];exact(lA _).symm
 ·rw[Zt h]
  simp[flatK]
theorem Kc(s:aC)(u:aF)(f:Int)(d:bn s f=true):∀l:ah,(flatK s f ((flatK s f l).map (bQ s u))).Perm (flatK s f (l.map (bQ s u)))
 | []=> .refl _
 |k::l=>by rw[kN,cM,LJ,bF,kN];exact(Tm s u f d k).append (Kc s u f d l)
mutual
theorem EI(s:aC)(u:aF):∀t:T,bQ s u (t.norm s)=bQ s u t
 | .node f v ks=>by
  have g:=JD s u ks
  by_cases e:f= -1/\ks.length=0
  ·obtain⟨rfl,i⟩:=e
   have:ks=[]:=j_ i;subst this;have d:¬bn s (-1)=true:=fun h=>xF h rfl
   simp only[T.norm];rw[aD d,nt s _ d];rfl
  ·by_cases d:bn s f=true
   ·simp only[T.norm]
    rw[ay d,r_ s u d,r_ s u d,T.norms_map];rw[N3 (qBV s f ((lA (flatK s f (ks.map (T.norm s)))).map (bQ s u)))];rw[N3 (Kc s u f d (ks.map (T.norm s)))];rw[eI,show ks.map (bQ s u∘T.norm s)=ks.map (bQ s u)from C1 g]
   ·simp only[T.norm]
    rw[aD d,nt s f d,T.norms_map,yd s u (by simpa using e) d,yd s u e d,eI];rw[show ks.map (bQ s u∘T.norm s)=ks.map (bQ s u)from C1 g]
theorem JD(s:aC)(u:aF):∀(l:ah) (t:T),t∈l->bQ s u (t.norm s)=bQ s u t
 | [],t,h=>by simp at h
 |a::l,t,h=>by
  rcases cC.1 h with h|h
  ·rw[h];exact EI s u a
  ·exact JD s u l t h
end
mutual
theorem Li(u:aF):∀t:T,(∀x,x∈t.nodes->x.f= -1->co u x.v=none)->bM u t=t
 | .node f v ks,h=>by
  by_cases d:f= -1/\ks.length=0
  ·obtain⟨rfl,e⟩:=d
   have g:ks=[]:=j_ e;subst g;have:=h (.node (-1) v []) (by simp[T.nodes]) rfl;simp only[T.qbx]at this;rw[mZ];unfold cJ;rw[this]
  ·rw[nd u d,KZ u ks (fun x hx=>h x (by simp[T.nodes,hx]))]
theorem KZ(u:aF):∀ks:ah,(∀x,x∈T.nodess ks->x.f= -1->co u x.v=none)->b9 u ks=ks
 | [],_=>rfl
 |t::r,h=>by simp only[b9];rw[Li u t (fun x hx=>h x (by simp[T.nodess,hx])),KZ u r (fun x hx=>h x (by simp[T.nodess,hx]))]
end
def vv(u:aF):Prop:=∀i,i<u.length->bM u (aQ u i).t=(aQ u i).t
variable{u:aF}
theorem Zi(h:vv u)(v:Int):bM u (cJ u v)=cJ u v:=by
 unfold cJ;cases hf:co u v with
 |none=>simp only;rw[mZ];unfold cJ;rw[hf]
 |some i=>simp only;unfold co at hf;exact h i (by have:=(dA _ _ _ _ hf).2.1;omega)
mutual
theorem Ou{u:aF}(h:vv u):∀t:T,bM u (bM u t)=bM u t
 | .node f v ks=>by
  by_cases d:f= -1/\ks.length=0
  ·obtain⟨rfl,i⟩:=d
   have g:ks=[]:=j_ i;subst g;rw[mZ,Zi h]
  ·have e:¬(f= -1/\(b9 u ks).length=0):=by rw[i7,cV];exact d
   rw[nd u d,nd u e,Mn h ks]
theorem Mn{u:aF}(h:vv u):∀l:ah,b9 u (b9 u l)=b9 u l
 | []=>rfl
 |t::r=>by simp only[b9];rw[Ou h t,Mn h r]
end
theorem KT(s:aC)(h:vv u)(t:T):aT s u (aT s u t)=aT s u t:=by show bQ s u ((bM u t).norm s)=bQ s u t;rw[EI];unfold bQ;rw[Ou h]
theorem K4{w:T->Int}:∀{l:ah},(∀x,x∈l->0<=w x)->∀x,x∈l->w x<=(l.map w).sum
 | [],_,x,h=>by simp at h
 |a::l,d,x,h=>by
  have e:=d a (by simp);have g:=JX (l:=l) (w:=w) (fun y hy=>d y (by simp[hy]));simp only[bF,mQ];rcases cC.1 h with h|h
  ·subst h;omega
  ·have:=K4 (fun y hy=>d y (by simp[hy])) x h;omega
theorem No(L:aF)(v:Int)(t:T)(e:∀b,b∈L->b.v=v->b.t=t)(j:∃b,b∈L/\b.v=v):cJ L v=t:=by
 unfold cJ;cases hf:co L v with
 |none=>exfalso;obtain⟨b,g,d⟩:=j;obtain⟨i,hi,rfl⟩:=mo g;unfold co at hf;have:=pR _ _ (by rw[hf];rfl) i hi;rw[df hi]at d;simp only[beq_eq_false_iff_ne,d0]at this;exact this d
 |some i=>unfold co at hf;obtain⟨_,l,h⟩:=dA _ _ _ _ hf;exact e _ (ia (by omega)) (by simpa using h)
theorem Kk(l:aC)(u:aF)(v:Int)(t:T):∀i,∀b,b∈cG l u v t i->b.v=v->b.t=t
 |0,b,h,_=>by simp[cG]at h
 |i+1,b,h,d=>by
  simp only[cG]at h;rcases bu.1 h with h|h
  ·exact Kk l u v t i b h d
  ·unfold kL at h
   rcases bu.1 h with h|h
   ·split at h
    ·simp at h;subst h;rfl
    ·simp at h
   ·split at h
    ·simp at h
    ·rename_i hc
     simp at h;subst h
     simp only at d;exact absurd (by simpa using d) hc
theorem II(l:aC)(u:aF)(v:Int)(t:T)(j:Nat)(d:jy u v j=true):∀i,j<i->(⟨v,t⟩:Bd)∈cG l u v t i
 |0,h=>by omega
 |i+1,h=>by
  simp only[cG]
  by_cases c:j=i
  ·subst c
   refine qW _ ?_;unfold kL;rw[ay d];simp
  ·exact oq _ (II l u v t j d i (by omega))
theorem U5(l:aC)(u:aF)(v:Int)(t:T):cJ (bB l u v t) v=t:=by
 refine No _ v t (fun b d g=> ?_) ?_
 ·unfold bB at d
  rcases bu.1 d with h|h
  ·exact Kk l u v t _ b h g
  ·split at h
   ·simp at h
   ·simp at h;subst h;rfl
 ·unfold bB
  cases hp:dn u v with
  |none=>exact⟨⟨v,t⟩,by simp,rfl⟩
  |some j=>
   have e:j<u.length:=by unfold dn at hp;have:=(dA _ _ _ _ hp).2.1;omega
   refine⟨⟨v,t⟩,oq _ (II l u v t j (by unfold jy;simp[hp]) _ e),rfl⟩
def pd(s:aC)(x:T):Prop:=(x.f= -1->x.kids=[])/\(x.f≠-1->bn s x.f=false->(x.kids.length:Int)=(aX s x.f.toNat).arity)
def T.ar(s:aC)(t:T):Prop:=∀x,x∈t.nodes->pd s x
variable{x:T}
theorem JW:∀{ks:ah},x∈T.nodess ks↔∃k,k∈ks/\x∈k.nodes
 | []=>by simp[T.nodess]
 |t::r=>by simp[T.nodess,JW (ks:=r)]
theorem ie{v:Int}:x∈(T.node f v ks).nodes↔x= .node f v ks\/∃k,k∈ks/\x∈k.nodes:=by rw[T.nodes,cC,JW]
theorem lh(t:T):t∈t.nodes:=by cases t;exact ie.2 (.inl rfl)
theorem y7{v:Int}(h:(T.node f v ks).ar s)(d:k∈ks):k.ar s:=fun x hx=>h x (ie.2 (.inr ⟨k,d,hx⟩))
theorem WQ{q:T}(d:q∈dw s f k)(hx:x∈q.nodes):x∈k.nodes:=by
 unfold dw at d;split at d
 ·obtain⟨g,v',e⟩:=k
  exact ie.2 (.inr ⟨q,d,hx⟩)
 ·rw[fF.1 d]at hx;exact hx
mutual
theorem BR(s:aC):∀(t x:T),x∈(t.norm s).nodes->∃y,y∈t.nodes/\y.f=x.f/\y.v=x.v/\(bn s x.f=false->y.kids.length=x.kids.length)
 | .node f v ks,x,hx=>by
  have m:=Jr s ks
  by_cases i:bn s f=true
  ·simp only[T.norm]at hx
   rw[ay i]at hx;rcases ie.1 hx with rfl|⟨k,d,hx⟩
   ·exact⟨_,lh _,rfl,rfl,fun h=>by rw[show(T.node f v _).f=f from rfl,i]at h;cases h⟩
   ·have d:=(lA _).mem_iff.1 d
    obtain⟨p,l,o⟩:=(HX s f _ k).1 d;rw[T.norms_map]at l;obtain⟨g,e,rfl⟩:=cE.1 l;obtain⟨y,hy,j⟩:=m g e x (WQ o hx);exact⟨y,ie.2 (.inr ⟨g,e,hy⟩),j⟩
  ·simp only[T.norm]at hx
   rw[aD i,nt s f i,T.norms_map]at hx;rcases ie.1 hx with rfl|⟨k,d,hx⟩
   ·exact⟨_,lh _,rfl,rfl,fun _=>by simp⟩
   ·obtain⟨g,e,rfl⟩:=cE.1 d
    obtain⟨y,hy,j⟩:=m g e x hx;exact⟨y,ie.2 (.inr ⟨g,e,hy⟩),j⟩
theorem Jr(s:aC):∀(l:ah) (t:T),t∈l->∀x,x∈(t.norm s).nodes->∃y,y∈t.nodes/\y.f=x.f/\y.v=x.v/\(bn s x.f=false->y.kids.length=x.kids.length)
 | [],t,h=>by simp at h
 |a::l,t,h=>by
  rcases cC.1 h with h|h
  ·rw[h];exact BR s a
  ·exact Jr s l t h
end
mutual
theorem H0(s:aC)(u:aF):∀t:T,t.ar s->∀x,x∈(bM u t).nodes->(∃b,b∈u/\x∈b.t.nodes)\/(∃y,y∈t.nodes/\y.f=x.f/\y.v=x.v/\y.kids.length=x.kids.length/\(x.f= -1->co u x.v=none))
 | .node f v ks,h,x,hx=>by
  have o:=Od s u ks (fun k e=>y7 h e)
  by_cases g:f= -1/\ks.length=0
  ·obtain⟨rfl,p⟩:=g
   have e:ks=[]:=j_ p;subst e;rw[mZ]at hx;unfold cJ at hx;cases d:co u v with
   |none=>
    rw[d]at hx;have:x= .node (-1) v []:=by simpa[T.nodes,T.nodess]using hx
    subst this;exact .inr ⟨_,lh _,rfl,rfl,rfl,fun _=>d⟩
   |some j=>rw[d]at hx;unfold co at d;exact .inl ⟨_,ia (by have:=(dA _ _ _ _ d).2.1;omega),hx⟩
  ·rw[nd u g,i7]at hx
   rcases ie.1 hx with rfl|⟨k,e,hx⟩
   ·refine .inr ⟨_,lh _,rfl,rfl,by simp,fun d=>absurd ⟨d,?_⟩ g⟩
    have:=(h _ (lh _)).1 d;simp only[T.qav]at this;rw[this];rfl
   ·obtain⟨l,i,rfl⟩:=cE.1 e
    rcases o l i x hx with h|⟨y,hy,m⟩
    ·exact .inl h
    ·exact .inr ⟨y,ie.2 (.inr ⟨l,i,hy⟩),m⟩
theorem Od(s:aC)(u:aF):∀l:ah,(∀t,t∈l->t.ar s)->∀t,t∈l->∀x,x∈(bM u t).nodes->(∃b,b∈u/\x∈b.t.nodes)\/(∃y,y∈t.nodes/\y.f=x.f/\y.v=x.v/\y.kids.length=x.kids.length/\(x.f= -1->co u x.v=none))
 | [],_,t,h=>by simp at h
 |a::l,d,t,h=>by
  rcases cC.1 h with h|h
  ·rw[h];exact H0 s u a (d a (by simp))
  ·exact Od s u l (fun q e=>d q (by simp[e])) t h
end
structure Ur(s:aC)(u:aF):Prop where
 sm:∀b,b∈u->b.t.inner<=59
 ok:∀b,b∈u->∀x,x∈b.t.nodes->pd s x/\(x.f= -1->co u x.v=none)
 nf:∀b,b∈u->b.t.norm s=b.t
 fn:∀b b',b∈u->b'∈u->b.v=b'.v->b.t=b'.t
theorem Gt{y:T}(h:pd s y)(i:y.f=x.f)(g:bn s x.f=false->y.kids.length=x.kids.length):pd s x:=by
 obtain⟨a,b⟩:=h;rw[i]at a b;refine⟨fun e=> ?_,fun e d=>by rw[<-g d];exact b e d⟩;have d:bn s x.f=false:=by
  cases d:bn s x.f with
  |false=>rfl
  |true=>exact absurd e (xF d)
 exact j_ (by rw[<-g d,a e];rfl)
variable{c:T}
section
variable {s:aC} {u:aF}
theorem Ur.idem(h:Ur s u):vv u:=fun i hi=>Li u _ fun x hx d=>(h.ok _ (ia hi) x hx).2 d
theorem Ur.out(h:Ur s u){t:T}(g:t.ar s):∀x,x∈(bQ s u t).nodes->pd s x/\(x.f= -1->co u x.v=none):=fun x hx=>by
 obtain⟨y,hy,e,i,q⟩:=BR s _ x hx;have key:pd s y/\(y.f= -1->co u y.v=none):=by
  rcases H0 s u t g y hy with⟨b,j,d⟩|⟨z,p,m,w,l,o⟩
  ·exact h.ok b j y d
  ·exact⟨Gt (g z p) m (fun _=>l),o⟩
 exact⟨Gt key.1 e q,fun r=>by rw[<-i];exact key.2 (by rw[e];exact r)⟩
theorem Ur.size(h:Ur s u)(t:T)(M:Nat)(d:t.inner<=M):(bM u t).inner+1<=(M+1)*60:=by
 have:=EO u 59 (fun i hi=>h.sm _ (ia hi)) t;have e:(t.inner+1)*(59+1)<=(M+1)*60:=by omega
 omega
theorem Ur.size2(h:Ur s u)(t:T)(M:Nat)(d:t.inner<=M):(bQ s u t).inner+1<=(M+1)*60:=by have:=h.size t M d;have e:(bQ s u t).inner<=(bM u t).inner:=qc s _;omega
def qve(s:aC)(u:aF)(c:T):Prop:=c.inner<=4000/\∃o:T,o.inner<=59/\o.ar s/\bQ s u c=bQ s u o
mutual
theorem LX(h:Ur s u):∀o:T,o.inner<=59->o.ar s->∀q,q∈(bQ s u o).kids->∃D:T,D.inner<=59/\D.ar s/\bQ s u q=bQ s u D
 | .node f v ks,hi,z,q,d=>by
  have g:∀k,k∈ks->k.inner<=59:=fun k r=>by have:=eH r;rw[T.qa0]at hi;omega
  have I:=Na h ks g (fun k r=>y7 z r)
  by_cases H:f= -1/\ks.length=0
  ·obtain⟨rfl,J⟩:=H
   have r:ks=[]:=j_ J;subst r;unfold bQ at d;rw[mZ]at d;unfold cJ at d;cases hf:co u v with
   |none=>
    rw[hf]at d;have w:¬bn s (-1)=true:=fun h=>xF h rfl
    simp only[T.norm]at d;rw[aD w,nt s _ w]at d;simp[T.norms]at d
   |some j=>
    rw[hf]at d;simp only at d;unfold co at hf;have F:=ia (l:=u) (i:=j) (by have:=(dA _ _ _ _ hf).2.1;omega);rw[h.nf _ F]at d;have C:=h.sm _ F;have m:=h.ok _ F;generalize (aQ u j).t=b at*
    obtain⟨K,bv,N⟩:=b;simp only[T.qav]at d;have:=eH d;rw[T.qa0]at C;exact⟨q,by omega,fun x hx=>(m x (ie.2 (.inr ⟨q,d,hx⟩))).1,rfl⟩
  ·by_cases w:bn s f=true
   ·rw[r_ s u w,T.qav]at d
    have d:=(lA _).mem_iff.1 d;obtain⟨M,C,m⟩:=(HX s f _ q).1 d;obtain⟨e,p,rfl⟩:=cE.1 C;unfold dw at m;split at m
    ·exact I e p q m
    ·rw[fF.1 m]
     exact⟨e,g e p,y7 z p,KT s h.idem e⟩
   ·rw[yd s u H w,T.qav]at d
    obtain⟨e,p,rfl⟩:=cE.1 d;exact⟨e,g e p,y7 z p,KT s h.idem e⟩
theorem Na(h:Ur s u):∀l:ah,(∀k,k∈l->k.inner<=59)->(∀k,k∈l->k.ar s)->∀o,o∈l->∀q,q∈(bQ s u o).kids->∃e:T,e.inner<=59/\e.ar s/\bQ s u q=bQ s u e
 | [],_,_,o,d=>by simp at d
 |a::l,i,j,o,d=>by
  rcases cC.1 d with d|d
  ·rw[d];exact LX h a (i a (by simp)) (j a (by simp))
  ·exact Na h l (fun k g=>i k (by simp[g])) (fun k g=>j k (by simp[g])) o d
end
theorem qve.app(h:Ur s u)(hc:qve s u c):(aT s u c).inner<=3600/\(∀x,x∈(aT s u c).nodes->pd s x/\(x.f= -1->co u x.v=none))/\∀q,q∈(aT s u c).kids->qve s u q:=by
 obtain⟨p,o,e,i,m⟩:=hc;have l:aT s u c=bQ s u o:=m;rw[l];have d:=h.size2 o 59 e;refine⟨by omega,h.out i,fun q g=>⟨?_,LX h o e i q g⟩⟩;generalize bQ s u o=x at*
 obtain⟨r,w,j⟩:=x;have:=eH (show q∈j from g);rw[T.qa0]at d;omega
end
theorem IJ(s:aC)(u:aF)(v:Int)(t:T):∀i,i<=u.length->∀b,b∈cG s u v t i->b=⟨v,t⟩\/∃a,a∈u/\a.v≠v/\b=⟨a.v,aT s [⟨v,t⟩] a.t⟩
 |0,_,b,h=>by simp[cG]at h
 |i+1,hi,b,h=>by
  simp only[cG]at h;rcases bu.1 h with h|h
  ·exact IJ s u v t i (by omega) b h
  ·unfold kL at h
   rcases bu.1 h with h|h
   ·split at h
    ·exact .inl (fF.1 h)
    ·simp at h
   ·split at h
    ·simp at h
    ·rename_i hc
     exact .inr ⟨aQ u i,ia (by omega),by simpa using hc,fF.1 h⟩
theorem Jk(s:aC)(u:aF)(v:Int)(t:T)(j:Nat)(d:(aQ u j).v≠v):∀i,j<i->(⟨(aQ u j).v,aT s [⟨v,t⟩] (aQ u j).t⟩:Bd)∈cG s u v t i
 |0,h=>by omega
 |i+1,h=>by
  simp only[cG]
  by_cases c:j=i
  ·subst c
   refine qW _ (qW _ ?_);rw[aD (by simpa using d)];simp
  ·exact oq _ (Jk s u v t j d i (by omega))
theorem pT{v:Int}{t:T}{b:Bd}(h:b∈bB s u v t):b=⟨v,t⟩\/∃a,a∈u/\a.v≠v/\b=⟨a.v,aT s [⟨v,t⟩] a.t⟩:=by
 unfold bB at h;rcases bu.1 h with h|h
 ·exact IJ s u v t _ (bN _) b h
 ·split at h
  ·simp at h
  ·exact .inl (fF.1 h)
theorem qEV{v:Int}{t:T}{a:Bd}(h:a∈u)(d:a.v≠v):(⟨a.v,aT s [⟨v,t⟩] a.t⟩:Bd)∈bB s u v t:=by
 obtain⟨j,e,rfl⟩:=mo h;rw[df e]at d⊢
 exact oq _ (Jk s u v t j d _ e)
theorem IL(s:aC)(u:aF)(v:Int)(t:T):∀i,(cG s u v t i).length<=i+(match dn u v with|some j=>if j<i then 1 else 0|none=>0)
 |0=>by simp[cG]
 |i+1=>by
  have e:=IL s u v t i;simp only[cG,cD];unfold kL jy;rw[cD];have g:(if((aQ u i).v==v)=true then []else [(⟨(aQ u i).v,aT s [⟨v,t⟩] (aQ u i).t⟩:Bd)]).length<=1:=by split<;>simp
  cases hp:dn u v with
  |none=>
   rw[hp]at e;simp only[reduceCtorEq,decide_false,bh,if_false,kq]at e⊢
   omega
  |some j=>
   rw[hp]at e;simp only[ca,cA]at e⊢
   by_cases c:j=i
   ·subst c
    rw[aD (Nat.lt_irrefl _)]at e;rw[ay rfl,ay (nQ _)];simp only[cY,kq];omega
   ·rw[aD c]
    simp only[kq]
    by_cases d:j<i
    ·rw[ay d]at e;rw[ay (show j<i+1 by omega)];omega
    ·rw[aD d]at e;rw[aD (show¬j<i+1 by omega)];omega
theorem qvC(s:aC)(u:aF)(v:Int)(t:T):(bB s u v t).length<=u.length+1:=by
 have h:=IL s u v t u.length;unfold bB;rw[cD];cases hp:dn u v with
 |none=>rw[hp]at h;simp_all
 |some j=>rw[hp]at h;simp at h⊢;split at h<;>omega
theorem Hp{L:aF}{v:Int}:co L v=none↔∀b,b∈L->b.v≠v:=by
 constructor
 ·intro h b e d
  obtain⟨i,hi,rfl⟩:=mo e;unfold co at h;have:=pR _ _ (by rw[h];rfl) i hi;rw[df hi]at d;simp only[beq_eq_false_iff_ne,d0]at this;exact this d
 ·intro h
  unfold co;cases hf:aR (fun i=>(aQ L i).v==v) L.length 0 with
  |none=>rfl
  |some i=>obtain⟨_,j,g⟩:=dA _ _ _ _ hf;exact absurd (by simpa using g) (h _ (ia (by omega)))
theorem JQ{L:aF}{v:Int}(h:co L v=none):cJ L v= .node (-1) v []:=by unfold cJ;rw[h]
section
variable {s:aC} {u:aF} {v:Int} {t:T}
theorem AH{w:Int}(i:w≠v)(h:co u w=none):co (bB s u v t) w=none:=Hp.2 fun b g d=>by
 rcases pT g with rfl|⟨a,e,_,rfl⟩
 ·exact i d.symm
 ·exact Hp.1 h a e d
theorem qNZ(w:Int):cJ [(⟨v,t⟩:Bd)] w=if v=w then t else .node (-1) w []:=by
 unfold cJ co
 by_cases h:v=w<;>simp[aR,aQ,h]
mutual
theorem Mb{u w:aF}:∀t:T,(∀x,x∈t.nodes->x.f= -1->cJ u x.v=cJ w x.v)->bM u t=bM w t
 | .node f v ks,h=>by
  by_cases d:f= -1/\ks.length=0
  ·obtain⟨rfl,g⟩:=d
   have e:ks=[]:=j_ g;subst e;rw[mZ,mZ];exact h _ (lh _) rfl
  ·rw[nd u d,nd w d,Ox ks fun k e x hx=>h x (ie.2 (.inr ⟨k,e,hx⟩))]
theorem Ox{u w:aF}:∀ks:ah,(∀k,k∈ks->∀x,x∈k.nodes->x.f= -1->cJ u x.v=cJ w x.v)->b9 u ks=b9 w ks
 | [],_=>rfl
 |t::r,h=>by simp only[b9];rw[Mb t (h t (by simp)),Ox r fun k d=>h k (by simp[d])]
end
theorem qwW(h:Ur s u)(q:co u v=none)(w:Int):bQ s (bB s u v t) (cJ u w)=bQ s (bB s u v t) (.node (-1) w []):=by
 cases hf:co u w with
 |none=>rw[JQ hf]
 |some j=>
  have z:w≠v:=fun e=>by rw[e,q]at hf;cases hf
  have C:cJ u w=(aQ u j).t:=by unfold cJ;rw[hf]
  unfold co at hf;obtain⟨_,K,J⟩:=dA _ _ _ _ hf;have r:=ia (l:=u) (i:=j) (by omega);have g:(aQ u j).v=w:=by simpa using J
  rw[C];generalize aQ u j=b at*
  ·have H:cJ (bB s u v t) w=aT s [⟨v,t⟩] b.t:=No _ w _ (fun c hc m=>by
    rcases pT hc with rfl|⟨a,D,F,rfl⟩
    ·exact absurd m.symm z
    ·simp only at m⊢
     rw[h.fn a b D r (by rw[m,g])]) ⟨_,qEV r (by rw[g];exact z),g⟩
   have I:bQ s (bB s u v t) (.node (-1) w [])=aT s [⟨v,t⟩] b.t:=by unfold bQ;rw[mZ,H];exact qIz s _
   rw[I];unfold bQ aT
   congr 1
   refine Mb _ fun x hx p=> ?_
   have o:=(h.ok b r x hx).2 p;rw[qNZ]
   by_cases d:v=x.v
   ·rw[ay d,<-d,U5]
   ·rw[aD d,JQ (AH (fun e=>d e.symm) o)]
mutual
theorem Mq(h:Ur s u)(d:co u v=none):∀x:T,bQ s (bB s u v t) (bM u x)=bQ s (bB s u v t) x
 | .node f w ks=>by
  by_cases g:f= -1/\ks.length=0
  ·obtain⟨rfl,o⟩:=g
   have l:ks=[]:=j_ o;subst l;rw[mZ];exact qwW h d w
  ·have i:¬(f= -1/\(b9 u ks).length=0):=by rw[i7,cV];exact g
   have m:=Lh h d ks;have j:(b9 u ks).map (bQ s (bB s u v t))=ks.map (bQ s (bB s u v t)):=by rw[i7,eI];exact C1 m
   rw[nd u g]
   by_cases e:bn s f=true
   ·rw[r_ _ _ e,r_ _ _ e,j]
   ·rw[yd _ _ i e,yd _ _ g e,j]
theorem Lh(h:Ur s u)(d:co u v=none):∀(l:ah) (x:T),x∈l->bQ s (bB s u v t) (bM u x)=bQ s (bB s u v t) x
 | [],x,hx=>by simp at hx
 |a::l,x,hx=>by
  rcases cC.1 hx with hx|hx
  ·rw[hx];exact Mq h d a
  ·exact Lh h d l x hx
end
theorem IM(h:Ur s u)(d:co u v=none)(x:T):bQ s (bB s u v t) (bQ s u x)=bQ s (bB s u v t) x:=by show bQ s _ ((bM u x).norm s)=_;rw[EI,Mq h d]
end
theorem Mx{v:Int}(h:T.form s (.node f v ks)=true):pd s (.node f v ks):=by
 refine⟨fun g=> ?_,fun g e=> ?_⟩
 ·simp only[T.qaO]at g
  simp only[T.form]at h;rw[ay g]at h;simp only[cb,cA]at h;exact j_ h.2
 ·simp only[T.qaO,T.qav]at g e⊢
  have d:=(FP h g).1;unfold jo at d;unfold bn at e;split at d
  ·rename_i j
   rw[j]at e;split at d
   ·split at d
    ·rename_i i;rw[i]at e;simp at e
    ·simpa using d
   ·cases d
  ·cases d
mutual
theorem Ao{s:aC}:∀t:T,T.form s t=true->t.ar s
 | .node f v ks,h=>fun x hx=>by
  rcases ie.1 hx with rfl|⟨k,d,hx⟩
  ·exact Mx h
  ·by_cases e:f= -1
   ·have:=(Mx h).1 e
    simp only[T.qav]at this;rw[this]at d;simp at d
   ·exact K5 ks (FP h e).2 k d x hx
theorem K5{s:aC}:∀l:ah,(∀k,k∈l->T.form s k=true)->∀k,k∈l->k.ar s
 | [],_,k,d=>by simp at d
 |a::l,h,k,d=>by
  rcases cC.1 d with d|d
  ·rw[d];exact Ao a (h a (by simp))
  ·exact K5 l (fun q e=>h q (by simp[e])) k d
end
theorem Hb{t:T}(h:cu s t=true):T.form s t=true:=by unfold cu at h;simp only[cb]at h;exact h.2.2
theorem Fc(h:eA s u=true){b:Bd}(e:b∈u):cu s b.t=true:=by obtain⟨j,d,rfl⟩:=mo e;have:=pR _ _ h j d;unfold vI at this;rw[df d];simpa using this
theorem Ur.add{v:Int}{t:T}(h:Ur s u)(C:eA s (bB s u v t)=true)(D:∀x,x∈t.nodes->x.f= -1->co u x.v=none/\x.v≠v):Ur s (bB s u v t) where
 sm b d:=by have:=BK (Fc C d);omega
 nf b d:=Xi s _ (Fc C d)
 fn b b' d hb' hv:=by
  rcases pT d with rfl|⟨a,r,q,rfl⟩
  ·rcases pT hb' with rfl|⟨a',j,g,rfl⟩
   ·rfl
   ·exact absurd hv.symm g
  ·rcases pT hb' with rfl|⟨a',j,g,rfl⟩
   ·exact absurd hv q
   ·simp only at hv⊢
    rw[h.fn a a' r j hv]
 ok b d x hx:=by
  refine⟨Ao _ (Hb (Fc C d)) x hx,fun l=> ?_⟩;rcases pT d with rfl|⟨a,r,q,rfl⟩
  ·obtain⟨m,o⟩:=D x hx l
   exact AH o m
  ·obtain⟨y,hy,H,I,K⟩:=BR s _ x hx
   rw[<-I];have i:y.f= -1:=by rw[H];exact l
   rcases H0 s [⟨v,t⟩] a.t (fun z w=>(h.ok a r z w).1) y hy with⟨b,d,p⟩|⟨z,w,m,o,M,J⟩
   ·rw[fF.1 d]at p
    obtain⟨m,o⟩:=D y p i;exact AH o m
   ·have F:=(h.ok a r z w).2 (by rw[m];exact i)
    rw[o]at F;refine AH (fun e=> ?_) F;exact Hp.1 (J i) ⟨v,t⟩ (by simp) e.symm
def Jh(ch:List ax):Prop:=∀i p,aE (aP ch i) p<=4
variable{ch:List ax}
theorem MF{m:Nat}(h:WaysOk ch m)(e:Jh ch)(next:Int){p:Nat}(d:p<m):∀j,j<=ch.length->aE (cr m ch j) p=((bX ch next p j).length:Int)/\(bX ch next p j).length<=4*j/\bK (bX ch next p j)=(bX ch next p j).length
 |0,_=>by simp[cr,bX,aE,d,bK,T.inners]
 |j+1,q=>by obtain⟨g,w,e3⟩:=MF h e next d j (by omega);obtain⟨l,i⟩:=h.num j p;have r:=e j p;have o:=h.len;rw[Nn m ch j p d,ay (by rw[h.row j (by omega)];exact d),g];simp only[bX,cD,Nw,BM,NG];rw[wrap_i64 (by omega) (by omega)];omega
theorem Mm(ch:List ax)(next:Int)(p:Nat):∀j k,k∈bX ch next p j->k.f= -1/\k.kids=[]
 |0,k,h=>by simp[bX]at h
 |j+1,k,h=>by
  rcases bu.1 h with h|h
  ·exact Mm ch next p j k h
  ·rw[Mg h];exact⟨rfl,rfl⟩
theorem J4{t:T}(h:t.ar s):(t.norm s).ar s:=fun x hx=>by obtain⟨y,hy,e,g,d⟩:=BR s t x hx;exact Gt (h y hy) e d
theorem Xr(h:k.f= -1/\k.kids=[]):k.ar s:=fun x hx=>by
 obtain⟨f,v,ks⟩:=k;simp only[T.qaO,T.qav]at h;obtain⟨rfl,rfl⟩:=h;rcases ie.1 hx with rfl|⟨q,d,_⟩
 ·exact⟨fun _=>rfl,fun h=>absurd rfl h⟩
 ·simp at d
theorem V4(e:bn s f=true)(i:1<=ks.length)(g:∀k,k∈ks->k.ar s):(eg s f ks).ar s:=by
 unfold eg;rw[aD (fun h=>by omega)];split
 ·exact J4 (g _ (bL (by omega)))
 ·rw[ay (Vq e)]
  refine J4 fun x hx=> ?_
  rcases ie.1 hx with rfl|⟨k,d,hx⟩
  ·exact⟨fun h=>absurd h (xF e),fun _ h=>by simp only[T.qaO]at h;rw[e]at h;cases h⟩
  ·exact g k d x hx
theorem OI{all:ah}{next:Int}:∀{n:Nat} {e:Eqn},e∈db s f all ch next n->∃p,p<n/\e=qM s f all ch next p
 |0,e,h=>by simp[db]at h
 |n+1,e,h=>by
  rcases bu.1 h with h|h
  ·obtain⟨p,g,d⟩:=OI h
   exact⟨p,by omega,d⟩
  ·exact⟨n,by omega,fF.1 h⟩
theorem RF{t:T}{v:Int}(hi:t.inner<=1099511627776)(h:¬0<cnt t v):∀x,x∈t.nodes->x.f= -1->x.v≠v:=fun x hx d g=>by
 have e:cnt t v=T.sum (wC v) t:=qKd _ _ hi;rw[e,vo]at h;have:=K4 (w:=wC v) (fun y _=>KQ _ y) x hx;have i:wC v x=1:=by unfold wC;rw[ay ⟨d,g⟩]
 omega
structure Gd(s:aC)(n:Nat)(l:bg)(u:aF)(next:Int):Prop where
 gl:l.length+8000*n<=3216010
 gu:u.length+n<=402
 nx:0<=next/\next<=100
 ur:Ur s u
 eq:∀e,e∈l->qve s u e.a/\qve s u e.b
section
variable {s:aC} {u:aF} {next:Int} {n:Nat} {a b:T} {rest:bg}
theorem qve.bound(h:Ur s u)(hc:qve s u c):c.inner<=1099511627776/\(bM u c).inner<=1099511627776/\(aT s u c).inner<=1000000000:=by have d:=hc.1;have g:=h.size c 4000 d;have e:=(hc.app h).1;exact⟨by omega,by omega,by omega⟩
theorem qve.bind(h:Ur s u){v:Int}{t:T}(d:co u v=none)(hc:qve s u c):qve s (bB s u v t) c:=by obtain⟨e,o,i,j,g⟩:=hc;exact⟨e,o,i,j,by rw[<-IM h d c,g,IM h d o]⟩
theorem Gd.bind(h:Gd s (n+1) (⟨a,b⟩::rest) u next){d:T}(hc:qve s u c)(C:qve s u d)(H:(aT s u c).f= -1)(D:¬0<cnt (aT s u d) (aT s u c).v):
 SubFit s u (aT s u c).v (aT s u d)/\(eA s (bB s u (aT s u c).v (aT s u d))=true->Gd s n rest (bB s u (aT s u c).v (aT s u d)) next):=by
 obtain⟨I,w,J⟩:=hc.app h.ur;obtain⟨d1,d2,d3⟩:=C.app h.ur;have j:=(w _ (lh _)).2 H;generalize (aT s u c).v=v at*
 generalize aT s u d=t at*
 have F:=h.gu;have q:∀b,b∈u->(bM [⟨v,t⟩] b.t).inner<=1099511627776:=fun b l=>by have o:=EO [⟨v,t⟩] 3600 (fun i hi=>by simp at hi;subst hi;exact d1) b.t;have p:=h.ur.sm b l;have K:(b.t.inner+1)*(3600+1)<=60*3601:=Nat.mul_le_mul (by omega) (by omega);omega
 refine⟨⟨by omega,fun i hi=>by have:=h.ur.sm _ (ia hi);omega,by omega,fun i hi=>q _ (ia hi),fun b l=> ?_⟩,fun m=>⟨?_,?_,h.nx,h.ur.add m fun x hx g=>⟨(d2 x hx).2 g,RF (by omega) D x hx g⟩,fun e r=> ?_⟩⟩
 ·rcases pT l with rfl|⟨a,z,_,rfl⟩
  ·simp only;omega
  ·exact eo (Vs s _ _) (q a z)
 ·have:=h.gl
  simp only[cY]at this;omega
 ·have:=qvC s u v t
  omega
 ·obtain⟨o,p⟩:=h.eq e (by simp[r])
  exact⟨o.bind h.ur j,p.bind h.ur j⟩
theorem Q7(t:T):t.kids.length<=t.inner:=by obtain⟨f,v,ks⟩:=t;have:=gA ks;rw[T.qa0];exact this
theorem Gd.new(h:Gd s (n+1) (⟨a,b⟩::rest) u next)(l:bg)(next':Int)(j:l.length<=8000)(g:0<=next'/\next'<=100)(i:∀e,e∈l->qve s u e.a/\qve s u e.b):Gd s n (l++rest) u next':=by
 refine⟨?_,by have:=h.gu;omega,g,h.ur,fun e d=> ?_⟩
 ·have:=h.gl
  simp only[cY,cD]at this⊢;omega
 ·rcases bu.1 d with d|d
  ·exact i e d
  ·exact h.eq e (by simp[d])
theorem KH:Safe s (Gd s) where
 len h:=⟨by have:=h.gl;omega,⟨by have:=h.gu;omega,fun i hi=>by have:=h.ur.sm _ (ia hi);omega⟩,by have:=h.gu;omega,h.nx.1,by have:=h.nx.2;omega⟩
 a h:=(h.eq _ (jL ..)).1.bound h.ur
 b h:=(h.eq _ (jL ..)).2.bound h.ur
 arity h hf hff hb:=by obtain⟨F,H⟩:=h.eq _ (jL ..);have Y:=((F.app h.ur).2.1 _ (lh _)).1.2 hf hb;have J:=((H.app h.ur).2.1 _ (lh _)).1.2 (by rw[<-hff];exact hf) (by rw[<-hff];exact hb);simp only at Y J;rw[<-hff]at J;omega
 same h:=h.new [] _ (by simp) h.nx (by simp)
 bindx h hf hc:=h.bind (h.eq _ (jL ..)).1 (h.eq _ (jL ..)).2 hf hc
 bindy h _ hf hc:=h.bind (h.eq _ (jL ..)).2 (h.eq _ (jL ..)).1 hf hc
 pairs {n a b rest u next} h hf hff hb:=by
  obtain⟨F,H⟩:=h.eq _ (jL ..);obtain⟨X,V,N⟩:=F.app h.ur;obtain⟨d1,d2,d3⟩:=H.app h.ur;have Y:=(V _ (lh _)).1.2 hf hb;have J:=(d2 _ (lh _)).1.2 (by rw[<-hff];exact hf) (by rw[<-hff];exact hb);simp only at Y J X N d3;rw[<-hff]at J;have Z:=Q7 (aT s u a);refine h.new _ _ (by rw[o9];omega) h.nx fun e O=> ?_
  obtain⟨i,hi,rfl⟩:=I2 _ _ _ e O;exact⟨N _ (bL hi),d3 _ (bL (by omega))⟩
 choose {n a b rest u next} all ways m h hff hb hbo hall hways hfit h99:=by
  obtain⟨F,H⟩:=h.eq _ (jL ..);obtain⟨X,V,N⟩:=F.app h.ur;obtain⟨d1,d2,d3⟩:=H.app h.ur;simp only at X V N d1 d2 d3;generalize aT s u a=x at*
  generalize aT s u b=y at*
  obtain⟨C,o,_,_⟩:=CP x.kids ([],y.kids);have C:∀t,t∈(bV x.kids y.kids).1->t∈x.kids:=fun t h=>by rcases C t h with h|h;(·simp at h);exact h
  have o:∀t,t∈(bV x.kids y.kids).2->t∈y.kids:=o;generalize (bV x.kids y.kids).1=l at*
  generalize (bV x.kids y.kids).2=r at*
  obtain⟨w,_⟩:=qC l ([],[]);obtain⟨q,_⟩:=qC r ([],[]);have w:∀t,t∈(bw l).1->t∈l:=fun t h=>by rcases w t h with h|h;(·simp at h);exact h
  have q:∀t,t∈(bw r).1->t∈r:=fun t h=>by rcases q t h with h|h;(·simp at h);exact h
  have ce:=uA l;have de:=uA r;have d:b8 (bw l).2=true/\b8 (bw r).2=true/\(bJ (bw l).2 (bw r).2).length<=8:=by unfold kM at hbo;simpa[y9]using hbo
  have lc:=dz d.1;have ld:=dz d.2.1;have z:=FC d.1 d.2.1 d.2.2 (m+1);have j:Jh (bc (bJ (bw l).2 (bw r).2) (m+1) (bJ (bw l).2 (bw r).2).length):=fun i p=>by
   by_cases hi:i<(bc (bJ (bw l).2 (bw r).2) (m+1) (bJ (bw l).2 (bw r).2).length).length
   ·have:=(Ha d.1 d.2.1 (wl (bN _) (jG hi))).2
    exact(EQ _ 0 4 (by omega) (by omega) this p).2
   ·have:aP (bc (bJ (bw l).2 (bw r).2) (m+1) (bJ (bw l).2 (bw r).2).length) i=[]:=by unfold aP;rw[jf (by omega)];rfl
    rw[this];simp[aE]
  have Q:all.length=(bw l).2.length+(bw r).2.length:=by rw[hall,cD];omega
  rw[<-hways,<-Q]at z;rw[<-hways]at j;have I:∀t,t∈all->qve s u t:=fun t D=>by
   rw[hall]at D;rcases bu.1 D with D|D
   ·exact N t (C t (w t D))
   ·exact d3 t (o t (q t D))
  have K:oX all (dL (bc ways (m+1) ways.length) all.length)=true:=hfit;have R:dL (bc ways (m+1) ways.length) all.length=cr all.length (bc ways (m+1) ways.length) (bc ways (m+1) ways.length).length:=by unfold dL;rw[ay (by omega)];rfl
  rw[R]at K;generalize bc ways (m+1) ways.length=ch at*
  have h3:=z.len;refine h.new _ _ (by rw[BU];omega) ⟨by have:=h.nx.1;omega,by omega⟩ fun e O=> ?_
  obtain⟨p,S,rfl⟩:=OI O;refine⟨I _ (bL S),?_⟩;obtain⟨k1,k2,k3⟩:=MF z j next S ch.length (bN _);have g:=pR _ _ K p (by rw[qI];exact S);unfold mc at g;simp only[Bool.or_eq_false_iff,FH]at g;have M:1<=(bX ch next p ch.length).length:=by have:=g.1;omega
  have h4:=Uf s x.f (bX ch next p ch.length);show qve s u (eg s x.f (bX ch next p ch.length));exact⟨by omega,_,by omega,V4 hb M (fun k Z=>Xr (Mm ch next p _ k Z)),rfl⟩
theorem Gd.start{l:bg}(C:l.length<=4)(h:fR s l=true):Gd s 402 l [] (fg l):=by
 unfold fR at h;rw[cm]at h;have o:∀e,e∈l->cu s e.a=true/\cu s e.b=true:=fun e j=>by have:=h e j;unfold jR at this;simpa using this
 have w:∀(k:bg) (n:Int),(∀e,e∈k->e∈l)->0<=n/\n<=100->0<=k.foldl lQ n/\k.foldl lQ n<=100:=fun k=>by
  induction k with
  |nil=>intro n _ m;exact m
  |cons e k r=>
   intro n p m;obtain⟨g,i⟩:=o e (p e (by simp));refine r _ (fun q z=>p q (by simp[z])) (y5 _ n m fun v d=> ?_);rcases bu.1 d with d|d
   ·exact tK g d
   ·exact tK i d
 refine⟨by omega,by simp,w l 0 (fun e h=>h) ⟨by omega,by omega⟩,⟨by simp,by simp,by simp,by simp⟩,fun e j=> ?_⟩;obtain⟨g,i⟩:=o e j;have F:=BK g;have D:=BK i;exact⟨⟨by omega,e.a,by omega,Ao _ (Hb g),rfl⟩,⟨by omega,e.b,by omega,Ao _ (Hb i),rfl⟩⟩
end
theorem qlG(l:aC)(w:l.length<=maxLen)(H:∀s,s∈l->s.ok)(a:T)(z:a.ok)(b:T)(J:b.ok):∃B,ak XV 374 [.d (sg l),.d (a.enc .sub),.d (b.enc .sub)] []=some (au true,B):=by
 rw[aL 374 qg rfl];have j:=TM l 1048576 w H (by omega) (by omega)
 by_cases m:(1048576:Int)-lS l<0
 ·rw[tV m]at j
  simp[qg,Cj,AR,BQ,j]
 rw[vS m]at j;have e:l.length<=1099511627776:=by unfold lS at m;omega
 have r:∀i,i<l.length->(aX l i).name.size<=1099511627776:=fun i hi=>by have:=YZ l i hi;omega
 have o:=F8 a (1048576-lS l) z (by omega) (by omega)
 by_cases g:(1048576:Int)-lS l-a.inner<0
 ·rw[tV g]at o
  simp[qg,Cj,AR,BQ,j,m,o]
 rw[vS g]at o;have p:=F8 b (1048576-lS l-a.inner) J (by omega) (by omega)
 by_cases h:(1048576:Int)-lS l-a.inner-b.inner<0
 ·rw[tV h]at p
  simp[qg,Cj,AR,BQ,j,m,o,g,p]
 rw[vS h]at p;have C:=qEJ l e;have t1:=EJ a (by omega);have N:=EJ b (by omega);have s1:=qn1 a b ⟨e,r⟩ KH (fun k g h=>Gd.start g h) (by omega) (by omega);have F:=PP a b ⟨e,r⟩ KH (fun k g h=>Gd.start g h) (by omega) (by omega);generalize vD l a b=q at*
 have K:(q !=q)=false:=by simp
 have I:=qxl l e;have D:=Hz a (by omega);have M:=Hz b (by omega);simp[qg,Cj,AR,BQ,j,m,o,g,p,h,C,t1,N,s1,F,I,D,M,K,splice,bb,aY,a6,y8,eL,ba,q6m,aW]
mutual
def TT.erase:TT->T
 | .node f v g ks=> .node f v (TT.erases ks)
def TT.erases:nI->ah
 | []=>[]
 |t::r=>t.erase::TT.erases r
end
theorem TT.qkI:∀l:nI,TT.erases l=l.map TT.erase
 | []=>by unfold TT.erases;rfl
 |t::r=>by unfold TT.erases;simp[TT.qkI r]
mutual
theorem TT.qdE:∀t:TT,DV.clrs t.cells=[.int .i64 t.erase.f,.int .i64 t.erase.v,ao .sub t.erase.kids]
 | .node f v g ks=>by simp only[TT.cells,DV.clrs,DV.clr,TT.erase,T.qaO,T.qbx,T.qav,ao];rw[TT.qgK ks]
theorem TT.qgK:∀l:nI,DV.clrs (TT.encs l)=(TT.erases l).map (T.enc .sub)
 | []=>by simp[TT.encs,DV.clrs,TT.erases]
 |t::r=>by simp only[TT.encs,DV.clrs,DV.clr,TT.erases,bF];rw[TT.qdE t,TT.qgK r,T.qb5]
end
theorem TT.qfc(t:TT):t.enc.clr=t.erase.enc .sub:=by simp only[TT.enc,DV.clr];rw[TT.qdE,T.qb5]
mutual
theorem TT.qgJ:∀t:TT,t.ok->t.erase.ok
 | .node f v g ks,h=>by simp only[TT.ok]at h;simp only[TT.erase,T.ok,TT.qkI,cV];refine⟨h.2.2.1,?_⟩;rw[<-TT.qkI];exact TT.qnO ks h.2.2.2
theorem TT.qnO:∀l:nI,TT.oks l->T.oks (TT.erases l)
 | [],_=>by simp[TT.erases,T.oks]
 |t::r,h=>by simp only[TT.oks]at h;simp only[TT.erases,T.oks];exact⟨TT.qgJ t h.1,TT.qnO r h.2⟩
end
theorem UJ(s:SymL):s.enc.clr=s.enc:=by unfold SymL.enc SymL.cells;simp only[DV.clr,DV.clrs]
theorem TZ(g:Tag)(l:aC):(Cc g l).clr= .sl .sub (l.map SymL.enc):=by simp only[Cc,LR,eI,lN,UJ]
theorem qBt(g:XOK XV){k:Nat}{vs:aw}(h:∃B,ak XV k ((DV.clrs vs).map .d) []=some (au true,B)):∃A B,AG E [] k (vs.map .d) [] Ids.none=some ⟨au true,A,B⟩:=by
 obtain⟨B,h⟩:=h;obtain⟨u,A,j,i,e⟩:=Wn g (DV.qcw vs) (DV.qcv vs) (d:= .bool true) (by simp[DV.clr]) h;simp only[DV.fit]at e;subst e
 exact⟨A,j,i⟩
variable{P:Program}
theorem Tx{a:TypeId}:∀{xs:List aw},wE P [a] xs->∃x,xs=[x]
 | [x],_=>⟨x,rfl⟩
 | [],h=>h.elim
 |_::_::_,h=>h.2.elim
theorem SE{a b:TypeId}:∀{xs:List aw},wE P [a,b] xs->∃x y,xs=[x,y]
 |x::r,h=>by obtain⟨y,rfl⟩:=Tx h.2;exact⟨x,y,rfl⟩
theorem q6o{a b c:TypeId}:∀{xs:List aw},wE P [a,b,c] xs->∃x y z,xs=[x,y,z]
 |x::r,h=>by obtain⟨y,z,rfl⟩:=SE h.2;exact⟨x,y,z,rfl⟩
structure L where
 p:Bool
 a:T
 b:T
def L.enc(g:Tag)(x:L):DV:= .agg [.bool x.p,.int .i64 x.a.f,.int .i64 x.a.v,ao g x.a.kids,.int .i64 x.b.f,.int .i64 x.b.v,ao g x.b.kids]
def L.ok(x:L):Prop:=x.a.ok/\x.b.ok
@[simp] theorem L.qfd(g:Tag)(x:L):(x.enc g).cells=[.bool x.p,.int .i64 x.a.f,.int .i64 x.a.v,ao g x.a.kids,.int .i64 x.b.f,.int .i64 x.b.v,ao g x.b.kids]:=rfl
@[simp] theorem L.qkJ(g:Tag)(x:L):(AV.d (x.enc g)).cells=[au x.p,aa x.a.f,aa x.a.v,.d (ao g x.a.kids),aa x.b.f,aa x.b.v,.d (ao g x.b.kids)]:=rfl
@[simp] theorem L.qkH(g:Tag)(x:L):(x.enc g).isCell=false:=rfl
@[simp] theorem L.qfc(g:Tag)(x:L):(x.enc g).clr=x.enc .sub:=by simp only[L.enc,DV.clr,DV.clrs,ao,DV.qay,mg]
theorem L.agg_enc(g:Tag)(x:L):DV.agg [.bool x.p,.int .i64 x.a.f,.int .i64 x.a.v,ao g x.a.kids,.int .i64 x.b.f,.int .i64 x.b.v,ao g x.b.kids]=x.enc g:=rfl
def L.cmp(x y:L):Int:=if !x.p&&y.p then-1 else if x.p&& !y.p then 1 else if T.cmp x.a y.a≠0 then T.cmp x.a y.a else T.cmp x.b y.b
def L.same(x y:L):Bool:=x.p==y.p&&(T.cmp x.a y.a==0)&&(T.cmp x.b y.b==0)
theorem L.cmp_zero(x y:L):(L.cmp x y==0)=L.same x y:=by obtain⟨p,a,b⟩:=x;obtain⟨q,a',b'⟩:=y;unfold L.cmp L.same;cases p<;>cases q<;>by_cases c:T.cmp a a'=0<;>simp[c]
variable {P:Program}
structure LL where
 p:Bool
 a:TT
 b:TT
def LL.cells(x:LL):aw:= .bool x.p::(x.a.cells++x.b.cells)
def LL.enc(x:LL):DV:= .agg x.cells
def LL.ok(x:LL):Prop:=x.a.ok/\x.b.ok
def LL.erase(x:LL):L:=⟨x.p,x.a.erase,x.b.erase⟩
theorem LL.qgJ(x:LL)(h:x.ok):x.erase.ok:=⟨TT.qgJ _ h.1,TT.qgJ _ h.2⟩
theorem LL.qfc(x:LL):x.enc.clr=x.erase.enc .sub:=by have d:=TT.qdE x.a;have e:=TT.qdE x.b;rw[DV.qay]at d e;simp only[LL.enc,LL.cells,DV.clr,DV.qay,bF,cM,d,e,LL.erase,L.enc];rfl
structure BB where
 v:Int
 t:TT
def BB.cells(x:BB):aw:= .int .i64 x.v::x.t.cells
def BB.enc(x:BB):DV:= .agg x.cells
def BB.ok(x:BB):Prop:=(-9223372036854775808<=x.v/\x.v<=9223372036854775807)/\x.t.ok
def BB.erase(x:BB):Bd:=⟨x.v,x.t.erase⟩
theorem BB.qfc(x:BB):x.enc.clr=x.erase.enc .sub:=by have d:=TT.qdE x.t;rw[DV.qay]at d;simp only[BB.enc,BB.cells,DV.clr,DV.qay,bF,d,BB.erase,Bd.enc]
theorem BB.qnO{l:List BB}(h:∀s,s∈l->BB.ok s):∀s,s∈l.map BB.erase->Bd.ok s:=by intro s e;obtain⟨t,d,rfl⟩:=cE.1 e;exact⟨(h t d).1,TT.qgJ _ (h t d).2⟩
end Go.Proofs.YtpcoohnjllclnaaGreat.VS
