/- Contracts of the program's functions on the evaluator without names, and plain lemmas: part 1. -/
import Derived.Test.YtpcoohnjllclnaaGreatLin
set_option linter.unusedSimpArgs false
set_option linter.unusedVariables false
namespace Go.Proofs.YtpcoohnjllclnaaGreat.VS
inductive T where
 |node (f v:Int) (kids:List T)
 deriving Inhabited
abbrev ah:=List T
def T.f:T->Int| .node f _ _=>f
def T.v:T->Int| .node _ v _=>v
def T.kids:T->ah| .node _ _ k=>k
mutual
def T.enc(g:Tag):T->DV
 | .node f v ks=> .agg [.int .i64 f,.int .i64 v,.sl g (T.encs g ks)]
def T.encs(g:Tag):ah->aw
 | []=>[]
 |t::r=>t.enc g::T.encs g r
end
theorem T.qeO(g:Tag):∀l:ah,T.encs g l=l.map (T.enc g)
 | []=>by unfold T.encs;rfl
 |t::r=>by unfold T.encs;simp[T.qeO g r]
abbrev ao(g:Tag)(l:ah):DV:= .sl g (l.map (T.enc g))
theorem T.qb8(g:Tag)(t:T):t.enc g= .agg [.int .i64 t.f,.int .i64 t.v,ao g t.kids]:=by cases t;simp[T.enc,T.qeO,ao,T.f,T.v,T.kids]
@[simp] theorem agg_enc(g:Tag)(f v:Int)(ks:ah):DV.agg [.int .i64 f,.int .i64 v,ao g ks]=(T.node f v ks).enc g:=by simp[T.enc,T.qeO,ao]
@[simp] theorem T.eta(t:T):T.node t.f t.v t.kids=t:=by cases t;rfl
@[simp] theorem T.qaP(f v:Int)(k:ah):(T.node f v k).f=f:=rfl
@[simp] theorem T.qbz(f v:Int)(k:ah):(T.node f v k).v=v:=rfl
@[simp] theorem T.qav(f v:Int)(k:ah):(T.node f v k).kids=k:=rfl
@[simp] theorem T.qfk(g:Tag)(t:T):(t.enc g).cells=[.int .i64 t.f,.int .i64 t.v,ao g t.kids]:=by rw[T.qb8];rfl
@[simp] theorem T.qkQ(g:Tag)(t:T):(AV.d (t.enc g)).cells=[aa t.f,aa t.v,.d (ao g t.kids)]:=by rw[T.qb8];rfl
@[simp] theorem T.qkO(g:Tag)(t:T):(t.enc g).isCell=false:=by rw[T.qb8];rfl
mutual
theorem T.qfj(g:Tag):∀t:T,(t.enc g).clr=t.enc .sub
 | .node f v ks=>by simp only[T.enc,DV.clr,DV.clrs,T.qgQ g ks]
theorem T.qgQ(g:Tag):∀l:ah,DV.clrs (T.encs g l)=T.encs .sub l
 | []=>by simp only[T.encs,DV.clrs]
 |t::r=>by simp only[T.encs,DV.clrs,T.qfj g t,T.qgQ g r]
end
attribute [simp] T.qfj
@[simp high] theorem mg(g:Tag)(l:ah):(l.map (T.enc g)).map DV.clr=l.map (T.enc .sub):=by rw[<-T.qeO,<-T.qeO,<-DV.qay,T.qgQ]
def ai(l:ah)(i:Nat):T:=(l[i]?).getD (.node 0 0 [])
variable{i:Nat}{l:ah}
theorem aZ(h:i<l.length):l[i]=ai l i:=by simp[ai,h]
theorem bM(h:i<l.length):ai l i∈l:=by rw[<-aZ h];exact gB h
theorem JH(h:i<l.length):l[i]?=some (ai l i):=by simp[ai,h]
@[simp] theorem qYc(g:Tag)(h:i<l.length):(l.map (T.enc g))[i]?=some ((ai l i).enc g):=by simp[JH h]
mutual
def T.inner:T->Nat
 | .node _ _ ks=>ks.length+T.inners ks
def T.inners:ah->Nat
 | []=>0
 |t::r=>t.inner+T.inners r
end
def leftOf(left:Int)(n:Nat):Int:=if left-n<0 then-1 else left-n
def stepT(l:ah)(left:Int)(i:Nat):Int⊕Unit:=if left-(ai l i).inner<0 then .inr ()else .inl (left-(ai l i).inner)
theorem runT(l:ah):∀(k i:Nat) (left:Int),i+k=l.length->0<=left->runN (stepT l) k left i=if left-T.inners (l.drop i)<0 then .inr ()else .inl (left-T.inners (l.drop i))
 |0,i,left,h,g=>by
  have:l.drop i=[]:=oS (by omega);have d:¬left<0:=by omega
  simp[runN,this,T.inners,d]
 |k+1,i,left,h,g=>by
  have c:i<l.length:=by omega
  have q:T.inners (l.drop i)=(ai l i).inner+T.inners (l.drop (i+1)):=by rw[dS c,aZ c];simp only[T.inners]
  rw[q];generalize p:T.inners (l.drop (i+1))=m;have o:=fun left g=>runT l k (i+1) left (by omega) g
  rw[p]at o;simp only[runN,stepT]
  by_cases d:left-(ai l i).inner<0
  ·have r:left-((ai l i).inner+m:Nat)<0:=by omega
   simp only[d,r,if_true]
  ·simp only[d,if_false]
   rw[o _ (by omega)];have e:left-(ai l i).inner-(m:Int)=left-((ai l i).inner+m:Nat):=by omega
   rw[e]
def num(n:Int):AV:= aa n
theorem Tu(l:ah)(left:Int)(r:l.length<=maxLen)(u:0<=left)(s:left<=1099511627776)
 (hc:∀t,t∈l->∀left,0<=left->left<=1099511627776->aj XV 1 [.d (t.enc .sub),aa left] []=some (aa (leftOf left t.inner),[])):
 aj XV 9 [.d (ao .sub l),aa left] []=some (aa (leftOf left (l.length+T.inners l)),[]):=by
 rw[aK 9 v9 rfl];have o:IntKind.i64.wrap (left-l.length)=left-l.length:=wrap_i64 (by unfold maxLen at r;omega) (by omega)
 by_cases h:left-l.length<0
 ·have m:leftOf left (l.length+T.inners l)= -1:=by unfold leftOf;rw[ay (by omega)]
  simp[v9,o,h,m]
 ·have c:=ey (X:=XV) (T:=[]) (L:=0) (live:=[0,1,5]) (b:=xA) (n:=l.length) (γ:=Unit) (st:=fun(left:Int) i=>⟨[(0,.d (ao .sub l)),(1,aa left),(5,aa i)],[]⟩) (step:=stepT l)
   (F:=fun left=>(.exit 0,⟨[(0,.d (ao .sub l)),(1,aa left),(5,aa l.length),(15,au false)],[]⟩)) (R:=fun _=>(.ret,⟨[(4,aa (-1))],[]⟩))
   (fun left _=>0<=left/\left<=1099511627776)
   (fun left _=>⟨by simp,by simp[xA]⟩)
   (fun left i hi g=>by
    have o:=aV (n:=i) (by unfold maxLen at r;omega);have e:=hc _ (bM hi) left g.1 g.2;unfold stepT
    by_cases m:left-(ai l i).inner<0
    ·have k:leftOf left (ai l i).inner= -1:=by unfold leftOf;rw[ay m]
     rw[k]at e;simp only[m,if_true];refine⟨⟨by simp,?_⟩,fun a' h=>by simp at h⟩;simp[xA,hi,cut,aZ hi,e]
    ·have k:leftOf left (ai l i).inner=left-(ai l i).inner:=by unfold leftOf;rw[aC m]
     rw[k]at e;simp only[m,if_false];refine⟨⟨_,by simp[xA,hi,o,cut,aZ hi,e,m];rfl,by simp[aA,aB]⟩,fun a' h=>by simp at h;subst h;exact⟨by omega,by omega⟩⟩)
   l.length (left-l.length) 0 ⟨[(0,.d (ao .sub l)),(1,aa (left-l.length)),(5,aa 0)],[]⟩ (by omega) ⟨by omega,by omega⟩ (by simp[aA,aB])
  rw[runT l _ _ _ (by omega) (by omega),eQ]at c;simp[v9,o,h];rw[c]
  by_cases q:left-l.length-T.inners l<0
  ·have p:leftOf left (l.length+T.inners l)= -1:=by unfold leftOf;rw[ay (by omega)]
   simp[q,p]
  ·have p:leftOf left (l.length+T.inners l)=left-l.length-T.inners l:=by unfold leftOf;rw[aC (by omega)];omega
   simp[q,p,J8]
mutual
def T.ok:T->Prop
 | .node _ _ ks=>ks.length<=maxLen/\T.oks ks
def T.oks:ah->Prop
 | []=>True
 |t::r=>t.ok/\T.oks r
end
theorem T.qsc:∀l:ah,T.oks l↔∀t,t∈l->t.ok
 | []=>by simp[T.oks]
 |t::r=>by simp[T.oks,T.qsc r]
theorem F6(t:T)(left:Int)(c:t.ok)(e:0<=left)(g:left<=1099511627776):aj XV 1 [.d (t.enc .sub),aa left] []=some (aa (leftOf left t.inner),[]):=by
 match t,c with
 | .node f v ks,c=>
  simp only[T.ok]at c;have hc:=Tu ks left c.1 e g (fun s m left e g=>F6 s left ((T.qsc ks).1 c.2 s m) e g);rw[aK 1 v1 rfl];have hi:(T.node f v ks).inner=ks.length+T.inners ks:=by simp[T.inner]
  rw[hi]
  by_cases h:left-(ks.length+T.inners ks:Nat)<0
  ·have k:leftOf left (ks.length+T.inners ks)= -1:=by unfold leftOf;rw[ay h]
   rw[k]at hc⊢
   simp[v1,hc]
  ·have k:leftOf left (ks.length+T.inners ks)=left-(ks.length+T.inners ks:Nat):=by unfold leftOf;rw[aC h]
   rw[k]at hc⊢
   have o:¬(left-((ks.length:Int)+T.inners ks))<0:=by omega
   simp[v1,hc,o]
termination_by t
decreasing_by
 simp_wf
 have:=ed m;omega
theorem Fi(g:Tag)(l:ah):∀x:DV,x∈l.map (T.enc g)->wc true 3 x:=by intro x hx;simp only[cC]at hx;obtain⟨t,_,rfl⟩:=hx;exact⟨by simp,by simp[aY,a6],fun _=>⟨_,T.qb8 g t⟩,by simp⟩
theorem IZ(g:Tag)(l:ah):∀x:DV,x∈l.map (T.enc g)->x.cells.length=3:=fun x hx=>(Fi g l x hx).1
def zT:DV:= .agg [.int .i64 0,.int .i64 0,.sl U []]
def ju(l:ah)(i:Nat):aG:=fq (Go.Proofs.YtpcoohnjllclnaaGreat.VS.filled (l.map (T.enc U)) zT i)
theorem qM3(l:ah)(i:Nat):(ju l i).length=l.length*3:=by unfold ju;rw[Mt (sz:=3) (Df (IZ U l) rfl i),B_];simp
theorem qM2(l:ah)(i:Nat)(h:i<l.length):splice (ju l i) (i*3) [aa (ai l i).f,aa (ai l i).v,.d (ao U (ai l i).kids)]=ju l (i+1):=by have c:=NQ (sz:=3) (i:=i) (es:=Go.Proofs.YtpcoohnjllclnaaGreat.VS.filled (l.map (T.enc U)) zT i) (e:=(ai l i).enc U) (Df (IZ U l) rfl i) (by simp) (by rw[B_];simpa using h);have g:=O_ (l.map (T.enc U)) zT i (by simpa using h);simp only[T.qfk,bF,bT]at c;unfold ju;rw[c,<-g];simp[aZ h]
theorem qFp(l:ah):ju l 0=((List.replicate l.length zT).flatMap DV.cells).map .d:=by unfold ju;rw[No];simp[fq,flat]
theorem qM4(l:ah):ju l l.length=fq (l.map (T.enc U)):=by unfold ju;have:=OD (l.map (T.enc U)) zT;rw[cT]at this;rw[this]
theorem qBk(l:ah)(z:l.length<=1099511627776)(hc:∀t,t∈l->aj XV 2 [.d (t.enc .sub)] []=some (.d (t.enc U),[])):
 aj XV 8 [.d (ao .sub l)] []=some (.d (ao U l),[]):=by
 rw[aK 8 v8 rfl];have c:=bG (X:=XV) (T:=XV.lin 8) (L:=1) (live:=[0,3,4]) (b:=D8) (n:=l.length) (γ:=Unit) (st:=fun(_:Unit) i=>⟨[(0,.d (ao .sub l)),(3,.bsl [] true 0 3 l.length),(4,aa i)],[some (ju l i)]⟩) (step:=fun _ _=> .inl ())
  (F:=fun _=>(.exit 0,⟨[(0,.d (ao .sub l)),(3,.bsl [] true 0 3 l.length),(4,aa l.length),(11,au false)],[some (ju l l.length)]⟩)) (R:=fun _=>(.ret,⟨[],[]⟩))
  (fun _=>⟨by simp,by simp[D8]⟩)
  (fun _ i hi=>by
   have y:=aV (n:=i) (by omega);have s:=hc _ (bM hi);have m:=qM3 l i;have r:i*3+3<=l.length*3:=by omega
   have e:=qM2 l i hi;refine⟨_,by simp[D8,hi,y,cut,aZ hi,s,m,r,e,aY,a6,bb,ba];rfl,by simp[aA,aB]⟩)
  l.length () 0 ⟨[(0,.d (ao .sub l)),(3,.bsl [] true 0 3 l.length),(4,aa 0)],[some (ju l 0)]⟩ (by omega) (by simp[aA,aB])
 have g:∀k i,runN (fun(_:Unit) (_:Nat)=>(Sum.inl ():Unit⊕Unit)) k () i= .inl ():=by
  intro k;induction k with
  |zero=>intro i;rfl
  |succ k x=>intro i;simp[runN,x]
 rw[g,qFp]at c;have h:=vd (l.map (T.enc U)) (Fi U l);rw[cT]at h;have u:(flat (l.map (T.enc U))).length=l.length*3:=by rw[vM (IZ U l)];simp
 have o:=qM4 l;simp only[zT,Sj]at c;have p:l.length*40<=140737488355328:=by omega
 have w:(l.length:Int)<9223372036854775808:=by omega
 have q:l.length<9223372036854775808:=by omega
 simp[v8,isAgg,p,w];rw[c];simp[o,CO,h,u,q]
theorem T.qaD:∀{l:ah} {t:T},t∈l->t.inner<=T.inners l
 | [],t,h=>by simp at h
 |s::r,t,h=>by
  simp only[T.inners];rcases cE.1 h with rfl|h
  ·omega
  ·have:=T.qaD h;omega
theorem Ih(t:T)(hi:t.inner<=1099511627776):aj XV 2 [.d (t.enc .sub)] []=some (.d (t.enc U),[]):=by
 match t,hi with
 | .node f v ks,hi=>simp only[T.inner]at hi;have hc:=qBk ks (by omega) (fun s c=>Ih s (by have:=T.qaD c;omega));rw[aK 2 v2 rfl];simp[v2,hc,splice,aW,AV.qay,aY,a6,bb,ba]
termination_by t
decreasing_by
 simp_wf
 have:=ed c;omega
theorem U_(l:ah)(o:l.length<=1099511627776)(hc:∀t,t∈l->aj XV 5 [.d (t.enc .sub),.d (t.enc .sub)] []=some (au true,[])):
 aj XV 7 [.d (ao .sub l),.d (ao .sub l)] []=some (au true,[]):=by
 rw[aK 7 v7 rfl];have c:=bG (X:=XV) (T:=[]) (L:=0) (live:=[0,1,5]) (b:=yK) (n:=l.length) (γ:=Unit) (st:=fun(_:Unit) i=>⟨[(0,.d (ao .sub l)),(1,.d (ao .sub l)),(5,aa i)],[]⟩) (step:=fun _ _=> .inl ())
  (F:=fun _=>(.exit 0,⟨[(0,.d (ao .sub l)),(1,.d (ao .sub l)),(5,aa l.length),(14,au false)],[]⟩)) (R:=fun _=>(.ret,⟨[],[]⟩))
  (fun _=>⟨by simp,by simp[yK]⟩)
  (fun _ i hi=>by have h:=aV (n:=i) (by omega);have g:=hc _ (bM hi);refine⟨_,by simp[yK,Xp,hi,h,cut,aZ hi,g];rfl,by simp[aA,aB]⟩)
  l.length () 0 ⟨[(0,.d (ao .sub l)),(1,.d (ao .sub l)),(5,aa 0)],[]⟩ (by omega) (by simp[aA,aB])
 have e:∀k i,runN (fun(_:Unit) (_:Nat)=>(Sum.inl ():Unit⊕Unit)) k () i= .inl ():=by
  intro k;induction k with
  |zero=>intro i;rfl
  |succ k m=>intro i;simp[runN,m]
 rw[e]at c;simp[v7];rw[c];simp
theorem Gn(t:T)(hi:t.inner<=1099511627776):aj XV 5 [.d (t.enc .sub),.d (t.enc .sub)] []=some (au true,[]):=by
 match t,hi with
 | .node f v ks,hi=>simp only[T.inner]at hi;have hc:=U_ ks (by omega) (fun s c=>Gn s (by have:=T.qaD c;omega));rw[aK 5 v5 rfl];simp[v5,hc]
termination_by t
decreasing_by
 simp_wf
 have:=ed c;omega
mutual
def T.cmp:T->T->Int
 | .node f v ks,.node d v' c=>
  if f<d then-1 else if f>d then 1 else if v<v' then-1 else if v>v' then 1 else
  if ks.length<c.length then-1 else if ks.length>c.length then 1 else T.cmps ks c
def T.cmps:ah->ah->Int
 |a::as,b::bs=>if T.cmp a b≠0 then T.cmp a b else T.cmps as bs
 |_,_=>0
end
def lI(l m:ah)(_:Unit)(i:Nat):Unit⊕Int:=if T.cmp (ai l i) (ai m i)≠0 then .inr (T.cmp (ai l i) (ai m i))else .inl ()
theorem vD(l m:ah)(g:l.length=m.length):∀(k i:Nat),i+k=l.length->runN (lI l m) k () i=if T.cmps (l.drop i) (m.drop i)=0 then .inl ()else .inr (T.cmps (l.drop i) (m.drop i))
 |0,i,h=>by have e:l.drop i=[]:=oS (by omega);simp[runN,e,T.cmps]
 |k+1,i,h=>by
  have d:i<l.length:=by omega
  have c:i<m.length:=by omega
  rw[dS d,dS c,aZ d,aZ c];simp only[runN,lI,T.cmps]
  by_cases hc:T.cmp (ai l i) (ai m i)=0
  ·simp only[hc,eg,sR,if_false]
   exact vD l m g k (i+1) (by omega)
  ·simp[hc]
def k9(a b c d e f:Int)(i:Nat):Int×Int:=if i=0 then(a,b)else if i=1 then(c,d)else(e,f)
def kT(a b c d e f:Int)(_:Unit)(i:Nat):Unit⊕(Int×(Int×Int)):=if(k9 a b c d e f i).1<(k9 a b c d e f i).2 then .inr (-1,k9 a b c d e f i)else if(k9 a b c d e f i).1>(k9 a b c d e f i).2 then .inr (1,k9 a b c d e f i)else .inl ()
def ck(f v:Int)(ks:ah)(e v':Int)(c:ah):az:=[some [aa f,aa v,.d (ao .sub ks)],some [aa e,aa v',.d (ao .sub c)]]
def jd(a b c d e f:Int):aw:=[.agg [.int .i64 a,.int .i64 b],.agg [.int .i64 c,.int .i64 d],.agg [.int .i64 e,.int .i64 f]]
theorem I9(a b c d e f:Int)(i:Nat)(hi:i<3):(jd a b c d e f)[i]?=some (.agg [.int .i64 (k9 a b c d e f i).1,.int .i64 (k9 a b c d e f i).2]):=by
 match i,hi with
 |0,_=>rfl
 |1,_=>rfl
 |2,_=>rfl
theorem Z5(a b c d e f:Int)(B:az)(t:B.length=2):
 bq XV [] 2 [2,3,26,27,28] iX ⟨[(2,.ptr 0 0),(3,.ptr 1 0),(26,.d (.sl .sub (jd a b c d e f))),(27,aa 3),(28,aa 0)],B⟩=
  some (match runN (kT a b c d e f) 3 () 0 with
   | .inl _=>(.exit 0,⟨[(2,.ptr 0 0),(3,.ptr 1 0),(26,.d (.sl .sub (jd a b c d e f))),(27,aa 3),(28,aa 3),(29,au false)],B⟩)
   | .inr r=>(.ret,⟨[(4,aa r.1)],B++[some [aa r.2.1,aa r.2.2]]⟩)):=by
 obtain⟨g,h,rfl⟩:∃g h,B=[g,h]:=by
  match B,t with
  | [g,h],_=>exact⟨g,h,rfl⟩
 have key:=bG (X:=XV) (T:=[]) (L:=2) (live:=[2,3,26,27,28]) (b:=iX) (n:=3) (γ:=Int×(Int×Int)) (st:=fun(_:Unit) i=>⟨[(2,.ptr 0 0),(3,.ptr 1 0),(26,.d (.sl .sub (jd a b c d e f))),(27,aa 3),(28,aa i)],[g,h]⟩) (step:=kT a b c d e f)
  (F:=fun _=>(.exit 0,⟨[(2,.ptr 0 0),(3,.ptr 1 0),(26,.d (.sl .sub (jd a b c d e f))),(27,aa 3),(28,aa 3),(29,au false)],[g,h]⟩)) (R:=fun r=>(.ret,⟨[(4,aa r.1)],[g,h]++[some [aa r.2.1,aa r.2.2]]⟩))
  (fun _=>⟨by simp,by simp[iX]⟩)
  (fun _ i hi=>by
   have s:=aV (n:=i) (by omega);have k:(i:Int)<3:=by omega
   have o:=I9 a b c d e f i hi;unfold kT;generalize k9 a b c d e f i=q at o;obtain⟨x,y⟩:=q;simp only at o⊢
   by_cases m:x<y
   ·rw[ay m]
    refine⟨by simp,?_⟩;simp[iX,k,o,cut,m,aY,splice,aW,bb,ba]
   ·rw[aC m]
    by_cases p:x>y
    ·rw[ay p]
     refine⟨by simp,?_⟩;simp[iX,k,o,cut,m,p,aY,splice,aW,bb,ba]
    ·rw[aC p]
     refine⟨_,by simp[iX,k,o,cut,m,p,s,aY,splice,aW,bb,ba];rfl,?_⟩;simp[aA,aB])
  3 () 0 ⟨[(2,.ptr 0 0),(3,.ptr 1 0),(26,.d (.sl .sub (jd a b c d e f))),(27,aa 3),(28,aa 0)],[g,h]⟩ (by omega) (by simp[aA,aB])
 rw[key];cases runN (kT a b c d e f) 3 () 0<;>rfl
theorem V6(f v:Int)(ks:ah)(g v':Int)(c:ah)(t:ks.length<=1099511627776)(k:ks.length=c.length)
 (m:∀s s',s∈ks->s'∈c->aj XV 6 [.d (s.enc .sub),.d (s'.enc .sub)] []=some (aa (T.cmp s s'),[])):
 bq XV [] 2 [2,3,47,48] ln ⟨[(2,.ptr 0 0),(3,.ptr 1 0),(47,aa ks.length),(48,aa 0)],ck f v ks g v' c⟩=
  some (if T.cmps ks c=0 then(.exit 3,⟨[(2,.ptr 0 0),(3,.ptr 1 0),(47,aa ks.length),(48,aa ks.length),(49,au false)],ck f v ks g v' c⟩)else(.ret,⟨[(4,aa (T.cmps ks c))],ck f v ks g v' c⟩)):=by
 have h:=bG (X:=XV) (T:=[]) (L:=2) (live:=[2,3,47,48]) (b:=ln) (n:=ks.length) (γ:=Int) (st:=fun(_:Unit) i=>⟨[(2,.ptr 0 0),(3,.ptr 1 0),(47,aa ks.length),(48,aa i)],ck f v ks g v' c⟩) (step:=lI ks c)
  (F:=fun _=>(.exit 3,⟨[(2,.ptr 0 0),(3,.ptr 1 0),(47,aa ks.length),(48,aa ks.length),(49,au false)],ck f v ks g v' c⟩)) (R:=fun r=>(.ret,⟨[(4,aa r)],ck f v ks g v' c⟩))
  (fun _=>⟨by simp,by simp[ln]⟩)
  (fun _ i hi=>by
   have q:=aV (n:=i) (by omega);have e:i<c.length:=by omega
   have hc:=m _ _ (bM hi) (bM e);unfold lI ck
   by_cases o:T.cmp (ai ks i) (ai c i)=0
   ·rw[o]at hc⊢
    simp only[eg,sR,if_false];refine⟨_,by simp[ln,CN,hi,e,q,cut,aZ hi,aZ e,hc,aW];rfl,?_⟩;simp[aA,aB]
   ·simp only[eg,o,mq,if_true]
    have p:(T.cmp (ai ks i) (ai c i) !=0)=true:=by simp[o]
    refine⟨by simp,?_⟩;simp[ln,CN,hi,e,cut,aZ hi,aZ e,hc,aW,p])
  ks.length () 0 ⟨[(2,.ptr 0 0),(3,.ptr 1 0),(47,aa ks.length),(48,aa 0)],ck f v ks g v' c⟩ (by omega) (by simp[aA,aB,ck])
 rw[vD ks c k _ _ (by omega)]at h;simp only[eQ]at h;rw[h]
 by_cases o:T.cmps ks c=0<;>simp[o]
def eY(a b c d e f:Int)(r:Int):Int:=if a<b then-1 else if a>b then 1 else if c<d then-1 else if c>d then 1 else if e<f then-1 else if e>f then 1 else r
theorem Mo(a b c d e f:Int):(runN (kT a b c d e f) 3 () 0= .inl ()/\a=b/\c=d/\e=f)\/∃r,runN (kT a b c d e f) 3 () 0= .inr r/\∀z,eY a b c d e f z=r.1:=by
 simp only[runN,kT,k9,eY]
 by_cases g:a<b
 ·right;refine⟨_,by simp[g];rfl,fun z=> ?_⟩;simp[g]
 by_cases h:a>b
 ·right;refine⟨_,by simp[g,h];rfl,fun z=> ?_⟩;simp[g,h]
 by_cases k:c<d
 ·right;refine⟨_,by simp[g,h,k];rfl,fun z=> ?_⟩;simp[g,h,k]
 by_cases m:c>d
 ·right;refine⟨_,by simp[g,h,k,m];rfl,fun z=> ?_⟩;simp[g,h,k,m]
 by_cases o:e<f
 ·right;refine⟨_,by simp[g,h,k,m,o];rfl,fun z=> ?_⟩;simp[g,h,k,m,o]
 by_cases p:e>f
 ·right;refine⟨_,by simp[g,h,k,m,o,p];rfl,fun z=> ?_⟩;simp[g,h,k,m,o,p]
 left;exact⟨by simp[g,h,k,m,o,p],by omega,by omega,by omega⟩
theorem y_(f v:Int)(ks:ah)(d v':Int)(c:ah):T.cmp (.node f v ks) (.node d v' c)=eY f d v v' ks.length c.length (T.cmps ks c):=by simp only[T.cmp,eY,Int.ofNat_lt,gt_iff_lt]
theorem qCs(f v:Int)(ks:ah)(g v':Int)(c:ah)(u:ks.length<=1099511627776)(q:c.length<=1099511627776)
 (h:∀s s',s∈ks->s'∈c->aj XV 6 [.d (s.enc .sub),.d (s'.enc .sub)] []=some (aa (T.cmp s s'),[])):
 aj XV 6 [.d ((T.node f v ks).enc .sub),.d ((T.node g v' c).enc .sub)] []=some (aa (T.cmp (.node f v ks) (.node g v' c)),[]):=by
 rw[aK 6 v6 rfl];have m:=Z5 f g v v' ks.length c.length (ck f v ks g v' c) rfl;simp[v6,aY,a6,bb,ba,splice,aW,f6,List.replicate];simp only[jd,ck]at m;rw[m,y_];rcases Mo f g v v' ks.length c.length with⟨k,t,y,e3⟩|⟨r,k,w⟩
 ·rw[k]
  have e:ks.length=c.length:=by omega
  have p:=V6 f v ks g v' c u e h;simp only[ck]at p;subst t;subst y
  simp[GY,aW];rw[p];have x:eY f f v v ks.length c.length (T.cmps ks c)=T.cmps ks c:=by simp[eY,e]
  rw[x]
  by_cases o:T.cmps ks c=0
  ·simp[o,EW]
  ·simp[o]
 ·rw[k,w];simp
theorem CF(a b:T)(c:a.inner<=1099511627776)(h:b.inner<=1099511627776):aj XV 6 [.d (a.enc .sub),.d (b.enc .sub)] []=some (aa (T.cmp a b),[]):=by
 match a,b,c,h with
 | .node f v ks,.node m v' g,c,h=>simp only[T.inner]at c h;exact qCs f v ks m v' g (by omega) (by omega) (fun s s' k e=>CF s s' (by have:=T.qaD k;omega) (by have:=T.qaD e;omega))
termination_by a
decreasing_by
 simp_wf
 have:=ed k;omega
theorem cmp_zero(f v:Int)(ks:ah)(d v':Int)(c:ah):T.cmp (.node f v ks) (.node d v' c)=0↔f=d/\v=v'/\ks.length=c.length/\T.cmps ks c=0:=by
 rw[y_];unfold eY
 constructor
 ·intro h
  iterate 6 (split at h;·omega)
  exact⟨by omega,by omega,by omega,h⟩
 ·rintro⟨rfl,rfl,h,h'⟩
  simp[h,h']
theorem Sa(f v:Int)(ks:ah)(e v':Int)(c:ah)(D:ks.length<=1099511627776)(x:c.length<=1099511627776)
 (q:∀s s',s∈ks->s'∈c->aj XV 3 [.d (s.enc .sub),.d (s'.enc .sub)] []=some (au (T.cmp s s'==0),[])):
 aj XV 3 [.d ((T.node f v ks).enc .sub),.d ((T.node e v' c).enc .sub)] []=some (au (T.cmp (.node f v ks) (.node e v' c)==0),[]):=by
 rw[aK 3 v3 rfl];have t:=cmp_zero f v ks e v' c;have ne:¬(f=e/\v=v'/\ks.length=c.length/\T.cmps ks c=0)->(T.cmp (.node f v ks) (.node e v' c)==0)=false:=fun h=>by rw[<-t]at h;simpa using h
 by_cases m:f=e
 case neg=>
  rw[ne (fun h=>m h.1)];have w:(f !=e)=true:=by simp[m]
  simp[v3,w]
 by_cases o:v=v'
 case neg=>
  rw[ne (fun h=>o h.2.1)];have C:(v !=v')=true:=by simp[o]
  simp[v3,m,C]
 by_cases p:ks.length=c.length
 case neg=>
  rw[ne (fun h=>p h.2.2.1)];have z:((ks.length:Int) !=c.length)=true:=by simp;omega
  simp[v3,m,o,z]
 have h:=bG (X:=XV) (T:=[]) (L:=2) (live:=[2,3,5]) (b:=ya) (n:=ks.length) (γ:=Int) (st:=fun(_:Unit) i=>⟨[(2,.ptr 0 0),(3,.ptr 1 0),(5,aa i)],ck f v ks e v' c⟩) (step:=lI ks c)
  (F:=fun _=>(.exit 0,⟨[(2,.ptr 0 0),(3,.ptr 1 0),(5,aa ks.length),(31,au false)],ck f v ks e v' c⟩)) (R:=fun r=>(.ret,⟨[(4,au false)],ck f v ks e v' c⟩))
  (fun _=>⟨by simp,by simp[ya,ck]⟩)
  (fun _ i hi=>by
   have y:=aV (n:=i) (by omega);have g:i<c.length:=by omega
   have hc:=q _ _ (bM hi) (bM g);unfold lI ck
   by_cases k:T.cmp (ai ks i) (ai c i)=0
   ·rw[k]at hc⊢
    simp only[eg,sR,if_false];refine⟨_,by simp[ya,OP,hi,g,y,cut,aZ hi,aZ g,hc];rfl,?_⟩;simp[aA,aB]
   ·simp only[eg,k,mq,if_true]
    have u:(T.cmp (ai ks i) (ai c i)==0)=false:=by simp[k]
    rw[u]at hc;refine⟨by simp,?_⟩;simp[ya,OP,hi,g,cut,aZ hi,aZ g,hc])
  ks.length () 0 ⟨[(2,.ptr 0 0),(3,.ptr 1 0),(5,aa 0)],ck f v ks e v' c⟩ (by omega) (by simp[aA,aB,ck])
 rw[vD ks c p _ _ (by omega)]at h;simp only[eQ,ck]at h;simp[v3,m,o,p];subst m;subst o
 rw[p]at h;rw[h]
 by_cases k:T.cmps ks c=0
 ·have:T.cmp (.node f v ks) (.node f v c)=0:=t.2 ⟨rfl,rfl,p,k⟩
  simp[k,EX,this]
 ·have:¬T.cmp (.node f v ks) (.node f v c)=0:=fun h=>k (t.1 h).2.2.2
  simp[k,EX,this]
theorem lU(a b:T)(c:a.inner<=1099511627776)(h:b.inner<=1099511627776):aj XV 3 [.d (a.enc .sub),.d (b.enc .sub)] []=some (au (T.cmp a b==0),[]):=by
 match a,b,c,h with
 | .node f v ks,.node m v' g,c,h=>simp only[T.inner]at c h;exact Sa f v ks m v' g (by omega) (by omega) (fun s s' k e=>lU s s' (by have:=T.qaD k;omega) (by have:=T.qaD e;omega))
termination_by a
decreasing_by
 simp_wf
 have:=ed k;omega
theorem same_eq(a b:T)(c:a.inner<=1099511627776)(e:b.inner<=1099511627776):aj XV 4 [.d (a.enc .sub),.d (b.enc .sub)] []=some (au (T.cmp a b==0),[]):=by rw[aK 4 v4 rfl];have h:=CF a b c e;simp[v4,h]
variable{n:Nat}{left:Int}
theorem rG(h:left-n<0):leftOf left n= -1:=by unfold leftOf;rw[ay h]
theorem vC(h:¬left-n<0):leftOf left n=left-n:=by unfold leftOf;rw[aC h]
def jI(es:aw)(z:DV)(i:Nat):aG:=fq (Go.Proofs.YtpcoohnjllclnaaGreat.VS.filled es z i)
variable{es:aw}{sz:Nat}
theorem ZL{z:DV}(h:∀x:DV,x∈es->x.cells.length=sz)(c:z.cells.length=sz)(i:Nat):(jI es z i).length=es.length*sz:=by unfold jI;rw[Mt (Df h c i),B_]
theorem qM9{z:DV}(h:∀x:DV,x∈es->x.cells.length=sz)(g:z.cells.length=sz)(i:Nat)(hi:i<es.length):splice (jI es z i) (i*sz) (es[i].cells.map .d)=jI es z (i+1):=by have c:=NQ (i:=i) (Df h g i) (e:=es[i]) (h _ (gB hi)) (by rw[B_];exact hi);unfold jI;rw[c,O_ es z i hi]
theorem ZR(es:aw)(z:DV):jI es z 0=((List.replicate es.length z).flatMap DV.cells).map .d:=by unfold jI;rw[No];simp[fq,flat]
theorem Xo(es:aw)(z:DV):jI es z es.length=fq es:=by unfold jI;rw[OD]
theorem dB(k i:Nat):runN (fun(_:Unit) (_:Nat)=>(Sum.inl ():Unit⊕Unit)) k () i= .inl ():=by
 induction k generalizing i with
 |zero=>rfl
 |succ k c=>simp[runN,c]
def stepW(w:Nat->Nat)(left:Int)(i:Nat):Int⊕Unit:=if left-w i<0 then .inr ()else .inl (left-w i)
def j3(w:Nat->Nat):Nat->Nat->Nat
 |_,0=>0
 |i,k+1=>w i+j3 w (i+1) k
theorem NY(w:Nat->Nat):∀(k i:Nat) (left:Int),0<=left->runN (stepW w) k left i=if left-j3 w i k<0 then .inr ()else .inl (left-j3 w i k)
 |0,i,left,d=>by
  have c:¬left<0:=by omega
  simp[runN,j3,c]
 |k+1,i,left,d=>by
  simp only[runN,stepW,j3]
  by_cases c:left-w i<0
  ·have g:left-(w i+j3 w (i+1) k:Nat)<0:=by omega
   simp only[c,g,if_true]
  ·simp only[c,if_false]
   rw[NY w k _ _ (by omega)];have e:left-w i-(j3 w (i+1) k:Int)=left-(w i+j3 w (i+1) k:Nat):=by omega
   rw[e];rfl
@[simp] theorem q2s(cs:aw):isAgg (.agg cs)=true:=rfl
@[simp] theorem q2r(k:IntKind)(n:Int):isAgg (.int k n)=false:=rfl
@[simp] theorem q6G(s:SymL):s.enc.cn=s.enc:=by simp[SymL.enc,SymL.cells]
@[simp] theorem q2q(s:SymL):isAgg s.enc=true:=rfl
@[simp] theorem q3J(s:SymL):s.enc.clr=s.enc:=by simp[SymL.enc,SymL.cells]
@[simp] theorem UW(s:SymL):s.enc.cells=[.str s.name,.int .i64 s.arity,.bool s.ac]:=rfl
@[simp] theorem qV1(s:SymL):(AV.d s.enc).cells=[.d (.str s.name),aa s.arity,au s.ac]:=rfl
@[simp] theorem qVk(s:SymL):s.enc.isCell=false:=rfl
@[simp] theorem q3N(n:ByteArray)(a:Int)(b:Bool):DV.agg [.str n,.int .i64 a,.bool b]=SymL.enc ⟨n,a,b⟩:=rfl
@[simp high] theorem q3e(l:aD):(l.map SymL.enc).map DV.clr=l.map SymL.enc:=by simp[eX,mf]
def aX(l:aD)(i:Nat):SymL:=(l[i]?).getD ⟨⟨#[]⟩,0,false⟩
theorem bY{l:aD}(h:i<l.length):l[i]=aX l i:=by simp[aX,h]
theorem MJ{l:aD}(h:i<l.length):aX l i∈l:=by rw[<-bY h];exact gB h
abbrev sg(l:aD):DV:= .sl .sub (l.map SymL.enc)
theorem P9(s:SymL)(left:Int)(k:0<=left)(g:left<=1099511627776)(e:s.name.size<=maxLen):aj XV 17 [.d s.enc,aa left] []=some (aa (leftOf left s.name.size),[]):=by
 rw[aK 17 x_ rfl];have c:IntKind.i64.wrap (left-s.name.size)=left-s.name.size:=wrap_i64 (by unfold maxLen at e;omega) (by omega);unfold leftOf
 by_cases h:left-s.name.size<0
 ·simp[x_,c,h]
 ·simp[x_,c,h]
def lK(l:aD):Nat:=l.length+j3 (fun i=>(aX l i).name.size) 0 l.length
theorem qE3(l:aD)(left:Int)(p:l.length<=maxLen)(r:∀s,s∈l->s.ok)(u:0<=left)(t:left<=1099511627776):aj XV 11 [.d (sg l),aa left] []=some (aa (leftOf left (lK l)),[]):=by
 rw[aK 11 xK rfl];have m:IntKind.i64.wrap (left-l.length)=left-l.length:=wrap_i64 (by unfold maxLen at p;omega) (by omega);unfold lK;generalize o:(fun i=>(aX l i).name.size)=w
 by_cases h:left-l.length<0
 ·rw[rG (by omega)]
  simp[xK,m,h]
 ·have c:=ey (X:=XV) (T:=[]) (L:=0) (live:=[0,1,5]) (b:=wq) (n:=l.length) (γ:=Unit) (st:=fun(left:Int) i=>⟨[(0,.d (sg l)),(1,aa left),(5,aa i)],[]⟩) (step:=stepW w)
   (F:=fun left=>(.exit 0,⟨[(0,.d (sg l)),(1,aa left),(5,aa l.length),(15,au false)],[]⟩)) (R:=fun _=>(.ret,⟨[(4,aa (-1))],[]⟩))
   (fun left _=>0<=left/\left<=1099511627776)
   (fun left _=>⟨by simp,by simp[wq]⟩)
   (fun left i hi g=>by
    have m:=aV (n:=i) (by unfold maxLen at p;omega);have e:=P9 (aX l i) left g.1 g.2 (r _ (MJ hi)).1;subst o;unfold stepW;simp only
    by_cases k:left-(aX l i).name.size<0
    ·rw[rG k]at e
     simp only[k,if_true];refine⟨⟨by simp,?_⟩,fun a' h=>by simp at h⟩;simp[wq,hi,cut,bY hi,e]
    ·rw[vC k]at e
     simp only[k,if_false];refine⟨⟨_,by simp[wq,hi,m,cut,bY hi,e,k];rfl,by simp[aA,aB]⟩,fun a' h=>by simp at h;subst h;exact⟨by omega,by omega⟩⟩)
   l.length (left-l.length) 0 ⟨[(0,.d (sg l)),(1,aa (left-l.length)),(5,aa 0)],[]⟩ (by omega) ⟨by omega,by omega⟩ (by simp[aA,aB])
  rw[NY _ _ _ _ (by omega)]at c;simp[xK,m,h];rw[c]
  by_cases q:left-l.length-j3 w 0 l.length<0
  ·rw[rG (by omega)];simp[q]
  ·rw[vC (by omega)]
   simp[q];omega
theorem Pt(l:aD):∀x:DV,x∈l.map SymL.enc->wc true 3 x:=by intro x hx;simp only[cC]at hx;obtain⟨n,_,rfl⟩:=hx;exact⟨rfl,rfl,fun _=>⟨_,rfl⟩,by simp⟩
theorem YX(s:SymL):aj XV 16 [.d s.enc] []=some (.d s.enc,[]):=by rw[aK 16 yQ rfl];simp[yQ,splice]
def zS:DV:= .agg [.str ⟨#[]⟩,.int .i64 0,.bool false]
theorem Rk(l:aD)(w:l.length<=1099511627776):aj XV 12 [.d (sg l)] []=some (.d (.sl U (l.map SymL.enc)),[]):=by
 rw[aK 12 BU rfl];have e:∀x:DV,x∈l.map SymL.enc->x.cells.length=3:=fun x hx=>(Pt l x hx).1
 have c:=bG (X:=XV) (T:=XV.lin 12) (L:=1) (live:=[0,3,4]) (b:=BG) (n:=l.length) (γ:=Unit) (st:=fun(_:Unit) i=>⟨[(0,.d (sg l)),(3,.bsl [] true 0 3 l.length),(4,aa i)],[some (jI (l.map SymL.enc) zS i)]⟩) (step:=fun _ _=> .inl ())
  (F:=fun _=>(.exit 0,⟨[(0,.d (sg l)),(3,.bsl [] true 0 3 l.length),(4,aa l.length),(11,au false)],[some (jI (l.map SymL.enc) zS l.length)]⟩)) (R:=fun _=>(.ret,⟨[],[]⟩))
  (fun _=>⟨by simp,by simp[BG]⟩)
  (fun _ i hi=>by
   have u:=aV (n:=i) (by omega);have h:=ZL (z:=zS) e rfl i;have k:=qM9 (z:=zS) e rfl i (by simpa using hi);simp only[Cu,bY hi,UW,bF,bT,cT]at k h;have r:i*3+3<=l.length*3:=by omega
   have s:=YX (aX l i);exact⟨_,by simp[BG,hi,u,cut,bY hi,s,h,r,k];rfl,by simp[aA,aB]⟩)
  l.length () 0 ⟨[(0,.d (sg l)),(3,.bsl [] true 0 3 l.length),(4,aa 0)],[some (jI (l.map SymL.enc) zS 0)]⟩ (by omega) (by simp[aA,aB])
 rw[dB,ZR]at c;have m:=vd (l.map SymL.enc) (Pt l);have t:(flat (l.map SymL.enc)).length=l.length*3:=by rw[vM e];simp
 have g:=Xo (l.map SymL.enc) zS;rw[cT]at m g;simp only[zS,Qv,cT]at c g;have o:l.length*32<=140737488355328:=by omega
 have q:(l.length:Int)<9223372036854775808:=by omega
 have p:l.length<9223372036854775808:=by omega
 simp[BU,o,q];simp at c;rw[c];simp at g;simp[g,CO,m,t,p]
theorem Qm(a:ByteArray):eL a a=true:=by simp[eL]
@[simp] theorem q2N(a b:ByteArray):mV .eql (.str a) (.str b)=some (.bool (eL a b)):=rfl
@[simp] theorem q2M(a b:ByteArray):mV .neq (.str a) (.str b)=some (.bool !(eL a b)):=rfl
theorem qCh(s:SymL):aj XV 20 [.d s.enc,.d s.enc] []=some (au true,[]):=by rw[aK 20 Ek rfl];simp[Ek,Qm]
theorem Tz(l:aD)(h:l.length<=1099511627776):aj XV 15 [.d (sg l),.d (sg l)] []=some (au true,[]):=by
 rw[aK 15 BX rfl];have c:=bG (X:=XV) (T:=[]) (L:=0) (live:=[0,1,5]) (b:=Dg) (n:=l.length) (γ:=Unit) (st:=fun(_:Unit) i=>⟨[(0,.d (sg l)),(1,.d (sg l)),(5,aa i)],[]⟩) (step:=fun _ _=> .inl ())
  (F:=fun _=>(.exit 0,⟨[(0,.d (sg l)),(1,.d (sg l)),(5,aa l.length),(14,au false)],[]⟩)) (R:=fun _=>(.ret,⟨[],[]⟩))
  (fun _=>⟨by simp,by simp[Dg]⟩)
  (fun _ i hi=>by have g:=aV (n:=i) (by omega);have e:=qCh (aX l i);exact⟨_,by simp[Dg,q6F,hi,g,cut,bY hi,e];rfl,by simp[aA,aB]⟩)
  l.length () 0 ⟨[(0,.d (sg l)),(1,.d (sg l)),(5,aa 0)],[]⟩ (by omega) (by simp[aA,aB])
 rw[dB]at c;simp[BX];rw[c];simp
def b4(x lo hi:Int):Bool:=decide (lo<=x)&&decide (x<=hi)
theorem pj(x lo hi:Int):aj XV 30 [aa x,aa lo,aa hi] []=some (au (b4 x lo hi),[]):=by
 rw[aK 30 u_ rfl];unfold b4
 by_cases h:lo<=x
 ·have h':x>=lo:=h
  simp[u_,h]
 ·have h':¬x>=lo:=h
  simp[u_,h]
theorem lT(x lo hi:Int):aj XV 31 [aa x,aa lo,aa hi] []=some (au (b4 x lo hi),[]):=by
 rw[aK 31 vN rfl];unfold b4
 by_cases h:lo<=x
 ·simp[vN,h]
 ·simp[vN,h]
def dz(l:aD)(f:Int):Bool:=b4 f 0 (l.length-1)
theorem od{l:aD}{f:Int}(h:dz l f=true):0<=f/\f.toNat<l.length:=by simp[dz,b4]at h;omega
theorem Gp(l:aD)(e:l.length<=1099511627776)(f:Int):aj XV 29 [.d (sg l),aa f] []=some (au (dz l f),[]):=by rw[aK 29 A_ rfl];have c:IntKind.i64.wrap ((l.length:Int)-1)=l.length-1:=wrap_i64 (by omega) (by omega);have h:=pj f 0 (l.length-1);simp[A_,c,h,dz]
def br(l:aD)(f:Int):Bool:=dz l f&&(aX l f.toNat).ac
theorem xX(l:aD)(g:l.length<=1099511627776)(f:Int):aj XV 34 [.d (sg l),aa f] []=some (au (br l f),[]):=by
 rw[aK 34 vp rfl];have h:=Gp l g f;unfold br;cases hs:dz l f with
 |false=>rw[hs]at h;simp[vp,h]
 |true=>rw[hs]at h;obtain⟨e,c⟩:=od hs;simp[vp,h,e,c,bY c,cut]
theorem BS(l:aD)(k:l.length<=1099511627776)(f:Int):aj XV 33 [.d (sg l),aa f] []=some (au (br l f),[]):=by
 rw[aK 33 wt rfl];have c:IntKind.i64.wrap ((l.length:Int)-1)=l.length-1:=wrap_i64 (by omega) (by omega);have h:=lT f 0 (l.length-1);unfold br dz;cases hs:b4 f 0 (l.length-1)with
 |false=>rw[hs]at h;simp[wt,h,c]
 |true=>rw[hs]at h;obtain⟨g,e⟩:=od (l:=l) (f:=f) hs;simp[wt,h,c,g,e,bY e,cut]
def pQ(c:Int):Bool:=decide (97<=c)&&decide (c<=122)
def yw(c:Int):Bool:=decide (48<=c)&&decide (c<=57)
theorem Ki(c:Int):aj XV 61 [.d (.int .u8 c)] []=some (au (pQ c),[]):=by rw[aK 61 Au rfl];cases h1:decide (97<=c)<;>simp[Au,h1,pQ]
theorem X5(c:Int):aj XV 62 [.d (.int .u8 c)] []=some (au (yw c),[]):=by rw[aK 62 A5 rfl];cases h1:decide (48<=c)<;>simp[A5,h1,yw]
def eI(x:Int)(i:Nat):Prop:=(97<=x/\x<=122)\/(0<i/\48<=x/\x<=57)
instance (x:Int) (i:Nat):Decidable (eI x i):=by unfold eI;exact inferInstance
theorem K5(s:ByteArray)(m:s.size<=1099511627776)(i:Nat)(h:i<s.size)(x:Int)(c:rW s i=some x):
 aS XV [] wM ⟨[(0,.d (.str s)),(3,aa i)],[]⟩=some (if eI x i then(.normal,⟨[(0,.d (.str s)),(3,aa (i+1:Nat))],[]⟩)else(.ret,⟨[(2,au false)],[]⟩)):=by
 have k:=aV (n:=i) (by omega);simp[wM,c,h];cases h1:decide (97<=x)
 case true=>
  simp[c];cases h2:decide (x<=122)
  case true=>
   simp[k];have:eI x i:=by simp at h1 h2;exact .inl ⟨h1,h2⟩
   simp[this]
  case false=>
   simp;cases h3:decide (0<i)<;>simp[c]
   case true=>
    have e:(48<=x):=by simp at h1;omega
    simp[e,c];have g:¬(x<=57):=by simp at h1;omega
    have:¬eI x i:=by simp at h1 h2;unfold eI;omega
    simp[g,this]
   case false=>
    have:¬eI x i:=by simp at h1 h2 h3;unfold eI;omega
    simp[this]
 case false=>
  simp;cases h3:decide (0<i)
  case true=>
   simp[c];cases e:decide (48<=x)
   case true=>
    simp[c];cases g:decide (x<=57)
    case true=>
     have:eI x i:=by simp at h1 h3 e g;unfold eI;omega
     simp[k,this]
    case false=>
     have:¬eI x i:=by simp at h1 h3 e g;unfold eI;omega
     simp[this]
   case false=>
    have:¬eI x i:=by simp at h1 h3 e;unfold eI;omega
    simp[this]
  case false=>
   have:¬eI x i:=by simp at h1 h3;unfold eI;omega
   simp[this]
def mz(s:ByteArray)(i:Nat):Bool:=decide (eI (eR s i) i)
def jS(s:ByteArray)(f:ByteArray->Nat->Bool)(i k:Nat):Bool:=(List.range' i k).all (f s)
theorem Mi(s:ByteArray)(f:ByteArray->Nat->Bool)(i:Nat):jS s f i 0=true:=rfl
theorem Pe(s:ByteArray)(f:ByteArray->Nat->Bool)(i k:Nat):jS s f i (k+1)=(f s i&&jS s f (i+1) k):=by simp[jS,List.range'_succ]
theorem Q3(s:ByteArray)(f:ByteArray->Nat->Bool)(i k:Nat):jS s f i k=true↔∀j,i<=j->j<i+k->f s j=true:=by simp only[jS,cm,List.mem_range'_1];exact⟨fun h j c d=>h j ⟨c,d⟩,fun h j c=>h j c.1 c.2⟩
theorem J0(s:ByteArray)(e:s.size<=1099511627776):∀(k i:Nat),i+k=s.size->
 bq XV [] 0 [0,3] wM ⟨[(0,.d (.str s)),(3,aa i)],[]⟩=
  some (if jS s mz i k then(.exit 0,⟨[(0,.d (.str s)),(3,aa s.size),(7,au false)],[]⟩)else(.ret,⟨[(2,au false)],[]⟩))
 |0,i,m=>by
  have:i=s.size:=by omega
  subst this;rw[pH];simp[aA,aB,wM,Mi]
 |k+1,i,m=>by
  have c:i<s.size:=by omega
  have o:=J0 s e k (i+1) (by omega);rw[pH,Pe]
  by_cases h:eI (eR s i) i
  ·have g:mz s i=true:=by simp[mz,h]
   rw[g,eE,<-o];simp[aA,aB,K5 s e i c _ (Ec c),h]
  ·have g:mz s i=false:=by simp[mz,h]
   simp[aA,aB,K5 s e i c _ (Ec c),h,g]
def mL(s:ByteArray):Bool:=jS s mz 0 s.size&&b4 s.size 1 8
theorem VD(s:ByteArray)(c:s.size<=1099511627776):aj XV 59 [.d (.str s)] []=some (au (mL s),[]):=by
 rw[aK 59 BO rfl];have h:=J0 s c s.size 0 (by omega);simp[BO];simp at h;rw[h];cases h1:jS s mz 0 s.size
 ·simp[mL,h1]
 ·simp[mL,h1,lT]
def my(s:ByteArray)(i:Nat):Bool:=pQ (eR s i)||yw (eR s i)
theorem Kr(s:ByteArray)(h:s.size<=1099511627776)(i:Nat)(c:i<s.size):
 aS XV [] yb ⟨[(0,.d (.str s)),(5,aa s.size),(6,aa i)],[]⟩=some (if my s i then(.normal,⟨[(0,.d (.str s)),(5,aa s.size),(6,aa (i+1:Nat))],[]⟩)else(.ret,⟨[(2,au false)],[]⟩)):=by
 have e:=aV (n:=i) (by omega);have g:=Ec c;simp[yb,g,c,Ki];cases h1:pQ (eR s i)
 ·simp[g,X5]
  cases h2:yw (eR s i)<;>simp[e,my,h1,h2]
 ·simp[e,my,h1]
theorem L9(s:ByteArray)(e:s.size<=1099511627776):∀(k i:Nat),i+k=s.size->
 bq XV [] 0 [0,5,6] yb ⟨[(0,.d (.str s)),(5,aa s.size),(6,aa i)],[]⟩=
  some (if jS s my i k then(.exit 0,⟨[(0,.d (.str s)),(5,aa s.size),(6,aa s.size),(7,au false)],[]⟩)else(.ret,⟨[(2,au false)],[]⟩))
 |0,i,g=>by
  have:i=s.size:=by omega
  subst this;rw[pH];simp[aA,aB,yb,Mi]
 |k+1,i,g=>by
  have c:i<s.size:=by omega
  have m:=L9 s e k (i+1) (by omega);rw[pH,Pe];cases h:my s i
  ·simp[aA,aB,Kr s e i c,h]
  ·rw[eE,<-m]
   simp[aA,aB,Kr s e i c,h]
def wg(s:ByteArray):Bool:=jS s my 0 s.size&&(b4 s.size 1 8&&pQ (eR s 0))
theorem XC(s:ByteArray)(c:s.size<=1099511627776):aj XV 60 [.d (.str s)] []=some (au (wg s),[]):=by
 rw[aK 60 Do rfl];have h:=L9 s c s.size 0 (by omega);simp[Do];simp at h;rw[h];cases h1:jS s my 0 s.size
 ·simp[wg,h1]
 ·simp[wg,h1,pj]
  cases h2:b4 s.size 1 8
  ·simp
  ·have e:0<s.size:=by simp[b4]at h2;omega
   simp[Ec e,Ki]
theorem Tr(s:ByteArray)(i:Nat):mz s i=true↔(97<=eR s i/\eR s i<=122)\/(0<i/\48<=eR s i/\eR s i<=57):=by unfold mz;rw[cB];rfl
theorem qIL(s:ByteArray)(i:Nat):my s i=true↔(97<=eR s i/\eR s i<=122)\/(48<=eR s i/\eR s i<=57):=by simp[my,pQ,yw]
theorem qBv(x:Int):pQ x=true↔97<=x/\x<=122:=by simp[pQ]
theorem qw3(s:ByteArray):wg s=mL s:=by
 rw[pY];simp only[mL,wg,cd,Q3,Tr,qIL,qBv];constructor
 ·rintro⟨d,e,h⟩
  refine⟨fun j g c=> ?_,e⟩;have k:=d j g c;rcases Nat.eq_zero_or_pos j with rfl|p
  ·exact .inl h
  ·omega
 ·rintro⟨d,e⟩
  have m:0<s.size:=by simp[b4]at e;omega
  have o:=d 0 (bI _) (by omega);refine⟨fun j g c=> ?_,e,?_⟩
  ·have k:=d j g c
   omega
  ·omega
def aR(q:Nat->Bool):Nat->Nat->bi
 |0,_=>none
 |k+1,i=>if q i then some i else aR q k (i+1)
def bH(q:Nat->Bool)(_:Unit)(i:Nat):Unit⊕Nat:=if q i then .inr i else .inl ()
theorem cU(q:Nat->Bool):∀(k i:Nat),runN (bH q) k () i=match aR q k i with|some j=> .inr j|none=> .inl ()
 |0,i=>rfl
 |k+1,i=>by
  simp only[runN,bH,aR];cases h:q i
  ·simp[cU q k (i+1)]
  ·simp
def bC:bi->Int
 |some j=>j
 |none=> -1
theorem dy(q:Nat->Bool):∀(k i j:Nat),aR q k i=some j->i<=j/\j<i+k/\q j=true
 |0,i,j,h=>by simp[aR]at h
 |k+1,i,j,h=>by
  simp only[aR]at h;split at h
  ·simp at h;subst h;exact⟨bI _,by omega,by assumption⟩
  ·obtain⟨d,e,c⟩:=dy q k (i+1) j h;exact⟨by omega,by omega,c⟩
def iP(l:aD)(name:ByteArray):Int:=bC (aR (fun i=>eL (aX l i).name name) l.length 0)
theorem qsM(l:aD)(name:ByteArray)(k:l.length<=1099511627776):aj XV 13 [.d (sg l),.d (.str name)] []=some (aa (iP l name),[]):=by
 rw[aK 13 AD rfl];have h:=bG (X:=XV) (T:=[]) (L:=0) (live:=[0,1,5]) (b:=wi) (n:=l.length) (st:=fun(_:Unit) i=>⟨[(0,.d (sg l)),(1,.d (.str name)),(5,aa i)],[]⟩) (step:=bH fun i=>eL (aX l i).name name)
  (F:=fun _=>(.exit 0,⟨[(0,.d (sg l)),(1,.d (.str name)),(5,aa l.length),(9,au false)],[]⟩)) (R:=fun(j:Nat)=>(.ret,⟨[(4,aa j)],[]⟩))
  (fun a=>⟨by simp,by simp[wi]⟩)
  (fun a i hi=>by
   have g:=aV (n:=i) (by omega);unfold bH
   by_cases c:eL (aX l i).name name=true
   ·rw[ay c];exact⟨by simp,by simp[wi,hi,cut,bY hi,c]⟩
   ·rw[aC c]
    have e:eL (aX l i).name name=false:=by simpa using c
    exact⟨_,by simp[wi,hi,g,cut,bY hi,e];rfl,by simp[aA,aB]⟩)
  l.length () 0 ⟨[(0,.d (sg l)),(1,.d (.str name)),(5,aa 0)],[]⟩ (by omega) (by simp[aA,aB])
 rw[cU]at h;simp[AD];rw[h];unfold iP;cases c:aR (fun i=>eL (aX l i).name name) l.length 0<;>simp[bC]
theorem XO(l:aD)(c:Nat)(caps:aG)(B:az)(P:SymL->Bool)(r:l.length<=1099511627776)(o:AV.safe.safes B.length caps=true)(g:caps.map AV.clr=caps)(m:¬0∈XV.lin c)
 (q:∀s,s∈l->aj XV c (.d s.enc::caps) B=some (au (P s),B)):
 aj XV 19 [.d (sg l),.fn c caps] B=some (aa (bC (aR (fun i=>P (aX l i)) l.length 0)),B):=by
 rw[aK 19 Ca rfl];have h:=bG (X:=XV) (T:=XV.lin 19) (L:=B.length) (live:=[0,1,7,8]) (b:=xo) (n:=l.length) (st:=fun(_:Unit) i=>⟨[(0,.d (sg l)),(1,.fn c caps),(7,aa l.length),(8,aa i)],B⟩) (step:=bH fun i=>P (aX l i))
  (F:=fun _=>(.exit 0,⟨[(0,.d (sg l)),(1,.fn c caps),(7,aa l.length),(8,aa l.length),(9,au false)],B⟩)) (R:=fun(j:Nat)=>(.ret,⟨[(4,aa j)],B⟩))
  (fun a=>⟨by simp,by simp[xo]⟩)
  (fun a i hi=>by
   have p:=aV (n:=i) (by omega);have hc:=q _ (MJ hi);unfold bH
   by_cases e:P (aX l i)=true
   ·rw[ay e];rw[e]at hc
    exact⟨by simp,by simp[xo,hi,cut,bY hi,hc,g,m]⟩
   ·rw[aC e]
    have k:P (aX l i)=false:=by simpa using e
    rw[k]at hc;exact⟨_,by simp[xo,hi,p,cut,bY hi,hc,g,m];rfl,by simp[aA,aB,o]⟩)
  l.length () 0 ⟨[(0,.d (sg l)),(1,.fn c caps),(7,aa l.length),(8,aa 0)],B⟩ (by omega) (by simp[aA,aB,o])
 rw[cU]at h;simp only[Y0]at h;simp[Ca];rw[h];cases e:aR (fun i=>P (aX l i)) l.length 0<;>simp[bC]
theorem qE4(s:SymL)(name:ByteArray):aj XV 18 [.d s.enc,.ptr 0 0] [some [.d (.str name)]]=some (au (eL s.name name),[some [.d (.str name)]]):=by rw[aK 18 C6 rfl];simp[C6]
theorem ZP(l:aD)(name:ByteArray)(c:l.length<=1099511627776):aj XV 14 [.d (sg l),.d (.str name)] []=some (aa (iP l name),[]):=by rw[aK 14 BA rfl];have hc:=XO l 18 [.ptr 0 0] [some [.d (.str name)]] (fun s=>eL s.name name) c (by simp) (by simp) (by simp) (fun s _=>qE4 s name);simp[BA,hc,iP]
def ib(l:aD)(s:SymL)(i:Nat):Bool:= !mL s.name|| !(decide (iP l s.name=i))|| !(b4 s.arity 0 3)||(s.ac&& !decide (s.arity=2))
def Dz(s:SymL):Bool:=eL s.name ⟨#[116,116]⟩&&decide (s.arity=0)
def qg(l:aD):Bool:=(aR (fun i=>ib l (aX l i) i) l.length 0).isNone&&(b4 l.length 1 8&&Dz (aX l 0))
theorem JO(w:Nat->Nat):∀(k i j:Nat),i<=j->j<i+k->w j<=j3 w i k
 |0,i,j,h,h'=>by omega
 |k+1,i,j,h,h'=>by
  simp only[j3];rcases G9 h with rfl|h
  ·omega
  ·have:=JO w k (i+1) j h (by omega);omega
theorem qUv(l:aD)(i:Nat)(hi:i<l.length):(aX l i).name.size<=lK l:=by have:=JO (fun i=>(aX l i).name.size) l.length 0 i (c8 _) (by omega);unfold lK;omega
theorem wF(l:aD)(s:SymL)(i:Nat):ib l s i=false↔mL s.name=true/\iP l s.name=i/\b4 s.arity 0 3=true/\(s.ac=true->s.arity=2):=by simp[ib,Ao]
theorem Rw(l:aD)(w:l.length<=1099511627776)(i:Nat)(hi:i<l.length)(u:(aX l i).name.size<=1099511627776):
 Bj 0 [0,5,6,7] (fun(_:Unit) i=>⟨[(0,.d (sg l)),(5,.d (sg l)),(6,aa l.length),(7,aa i)],[]⟩) (fun(_:Nat)=>(.ret,⟨[(2,au false)],[some [.d (.str (aX l i).name),aa (aX l i).arity,au (aX l i).ac]]⟩)) i
  (aS XV (XV.lin 77) mm ⟨[(0,.d (sg l)),(5,.d (sg l)),(6,aa l.length),(7,aa i)],[]⟩) (bH (fun i=>ib l (aX l i) i) () i):=by
 have t:=aV (n:=i) (by omega);have c:=XC (aX l i).name u;rw[qw3]at c;have m:=ZP l (aX l i).name w;have e:=pj (aX l i).arity 0 3;unfold bH
 by_cases q:ib l (aX l i) i=true
 ·rw[ay q]
  refine⟨by simp,?_⟩;cases k:mL (aX l i).name with
  |false=>rw[k]at c;simp[mm,hi,cut,bY hi,c,splice]
  |true=>
   rw[k]at c
   by_cases o:iP l (aX l i).name=i
   ·have g:(iP l (aX l i).name !=i)=false:=by simp[o]
    cases h:b4 (aX l i).arity 0 3 with
    |false=>rw[h]at e;simp[mm,hi,cut,bY hi,c,m,g,e,splice]
    |true=>
     rw[h]at e;have p:(aX l i).ac=true/\¬(aX l i).arity=2:=by
      have:¬ib l (aX l i) i=false:=by simp[q]
      rw[wF]at this;simp only[k,o,h,qx]at this;exact Classical.not_imp.1 this
     have r:((aX l i).arity !=2)=true:=by simp[p.2]
     simp[mm,hi,cut,bY hi,c,m,g,e,splice,p.1,r]
   ·have g:(iP l (aX l i).name !=i)=true:=by simp[o]
    simp[mm,hi,cut,bY hi,c,m,g,splice]
 ·have s:ib l (aX l i) i=false:=by simpa using q
  rw[aC q];obtain⟨k,o,h,p⟩:=(wF l _ i).1 s;have g:(iP l (aX l i).name !=i)=false:=by simp[o]
  rw[k]at c;rw[h]at e
  cases c5:(aX l i).ac with
  |false=>exact⟨_,by simp[mm,hi,t,cut,bY hi,c,m,g,e,splice,c5];rfl,by simp[aA,aB]⟩
  |true=>
   have r:((aX l i).arity !=2)=false:=by simp[p c5]
   exact⟨_,by simp[mm,hi,t,cut,bY hi,c,m,g,e,splice,c5,r];rfl,by simp[aA,aB]⟩
theorem Wl(l:aD)(p:l.length<=1099511627776)(q:∀i,i<l.length->(aX l i).name.size<=1099511627776):aj XV 77 [.d (sg l)] []=some (au (qg l),[]):=by
 rw[aK 77 Cr rfl];have h:=bG (X:=XV) (T:=XV.lin 77) (L:=0) (live:=[0,5,6,7]) (b:=mm) (n:=l.length) (γ:=Nat) (st:=fun(_:Unit) i=>⟨[(0,.d (sg l)),(5,.d (sg l)),(6,aa l.length),(7,aa i)],[]⟩) (step:=bH fun i=>ib l (aX l i) i)
  (F:=fun _=>(.exit 0,⟨[(0,.d (sg l)),(5,.d (sg l)),(6,aa l.length),(7,aa l.length),(8,au false)],[]⟩)) (R:=fun j=>(.ret,⟨[(2,au false)],[some [.d (.str (aX l j).name),aa (aX l j).arity,au (aX l j).ac]]⟩))
  (fun a=>⟨by simp,by simp[mm]⟩)
  (fun a i hi=>by
   have g:=Rw l p i hi (q i hi);unfold bH at g⊢
   split at g
   ·rename_i k;rw[ay k];exact g
   ·rename_i k;rw[aC k];exact g)
  l.length () 0 ⟨[(0,.d (sg l)),(5,.d (sg l)),(6,aa l.length),(7,aa 0)],[]⟩ (by omega) (by simp[aA,aB])
 rw[cU]at h;simp only[UF]at h;simp[Cr];rw[h];unfold qg;cases hq:aR (fun i=>ib l (aX l i) i) l.length 0 with
 |some j=>simp
 |none=>
  have e:=pj l.length 1 8;cases c1:b4 l.length 1 8 with
  |false=>rw[c1]at e;simp[e]
  |true=>
   rw[c1]at e;have c:0<l.length:=by simp[b4]at c1;omega
   unfold Dz;cases c2:eL (aX l 0).name ⟨#[116,116]⟩with
   |false=>simp[e,c,bY c,cut,c2]
   |true=>
    by_cases m:(aX l 0).arity=0
    ·simp[e,c,bY c,cut,c2,m]
    ·have o:((aX l 0).arity==0)=false:=by simp[m]
     simp[e,c,bY c,cut,c2,m,o]
theorem qsN(l:aD)(M:l.length<=1099511627776)(N:∀i,i<l.length->(aX l i).name.size<=1099511627776):aj XV 82 [.d (sg l)] []=some (au (qg l),[]):=by
 rw[aK 82 Ak rfl];have h:=bG (X:=XV) (T:=XV.lin 82) (L:=0) (live:=[0,3]) (b:=mK) (n:=l.length) (γ:=Nat) (st:=fun(_:Unit) i=>⟨[(0,.d (sg l)),(3,aa i)],[]⟩) (step:=bH fun i=>ib l (aX l i) i)
  (F:=fun _=>(.exit 0,⟨[(0,.d (sg l)),(3,aa l.length),(7,au false)],[]⟩)) (R:=fun j=>(.ret,⟨[(2,au false)],[]⟩))
  (fun a=>⟨by simp,by simp[mK]⟩)
  (fun a i hi=>by
   have J:=aV (n:=i) (by omega);have g:=VD (aX l i).name (N i hi);have x:=qsM l (aX l i).name M;have c:=lT (aX l i).arity 0 3;unfold bH
   by_cases C:ib l (aX l i) i=true
   ·rw[ay C]
    refine⟨by simp,?_⟩;cases m:mL (aX l i).name with
    |false=>rw[m]at g;simp[mK,hi,cut,bY hi,g]
    |true=>
     rw[m]at g
     by_cases o:iP l (aX l i).name=i
     ·have t:(iP l (aX l i).name !=i)=false:=by simp[o]
      cases p:b4 (aX l i).arity 0 3 with
      |false=>rw[p]at c;simp[mK,hi,cut,bY hi,g,x,t,c]
      |true=>
       rw[p]at c;have u:(aX l i).ac=true/\¬(aX l i).arity=2:=by
        have:¬ib l (aX l i) i=false:=by simp[C]
        rw[wF]at this;simp only[m,o,p,qx]at this;exact Classical.not_imp.1 this
       have G:((aX l i).arity !=2)=true:=by simp[u.2]
       simp[mK,hi,cut,bY hi,g,x,t,c,u.1,G]
     ·have t:(iP l (aX l i).name !=i)=true:=by simp[o]
      simp[mK,hi,cut,bY hi,g,x,t]
   ·have H:ib l (aX l i) i=false:=by simpa using C
    rw[aC C];obtain⟨m,o,p,u⟩:=(wF l _ i).1 H;have t:(iP l (aX l i).name !=i)=false:=by simp[o]
    rw[m]at g;rw[p]at c
    cases c5:(aX l i).ac with
    |false=>exact⟨_,by simp[mK,hi,J,cut,bY hi,g,x,t,c,c5];rfl,by simp[aA,aB]⟩
    |true=>
     have G:((aX l i).arity !=2)=false:=by simp[u c5]
     exact⟨_,by simp[mK,hi,J,cut,bY hi,g,x,t,c,c5,G];rfl,by simp[aA,aB]⟩)
  l.length () 0 ⟨[(0,.d (sg l)),(3,aa 0)],[]⟩ (by omega) (by simp[aA,aB])
 rw[cU]at h;simp only[XI]at h;simp[Ak];rw[h];unfold qg;cases hq:aR (fun i=>ib l (aX l i) i) l.length 0 with
 |some j=>simp
 |none=>
  have c:=lT l.length 1 8;cases m:b4 l.length 1 8 with
  |false=>rw[m]at c;simp[c]
  |true=>
   rw[m]at c;have I:0<l.length:=by simp[b4]at m;omega
   have r:∀(q:Nat->Bool) (k i j:Nat),aR q k i=none->i<=j->j<i+k->q j=false:=by
    intro q k
    induction k with
    |zero=>intro i j _ y K;omega
    |succ k O=>
     intro i j z y K;simp only[aR]at z;split at z
     ·simp at z
     ·rcases G9 y with rfl|y
      ·simpa using ‹¬q i=true›
      ·exact O (i+1) j z y (by omega)
   have D:=r _ _ _ 0 hq (bI _) (by omega);obtain⟨_,_,_,u⟩:=(wF l (aX l 0) 0).1 D;have key:eM [2,0,1] [.str (aX l 0).name,.int .i64 (aX l 0).arity,.bool (aX l 0).ac] [.str ⟨#[116,116]⟩,.int .i64 0,.bool false]=some (Dz (aX l 0)):=by
    unfold Dz;cases o:eL (aX l 0).name ⟨#[116,116]⟩<;>by_cases p:(aX l 0).arity=0<;>cases c5:(aX l 0).ac<;>simp[eM,o,p]
    have:=u c5;omega
   have w:∀s s':SymL,FP false [2,0,1] (some (.d s.enc)) (some (.d s'.enc))=(eM [2,0,1] [.str s.name,.int .i64 s.arity,.bool s.ac] [.str s'.name,.int .i64 s'.arity,.bool s'.ac]).map fun e=> au e:=fun s s'=>by show(eM [2,0,1] s.cells s'.cells).map _=_;simp[SymL.cells]
   simp[c,I,bY I,cut,w,key,splice]
mutual
def T.fold{σ:Type}(e:T->σ->σ):T->σ->σ
 | .node f v ks,s=>T.folds e ks (e (.node f v ks) s)
def T.folds{σ:Type}(e:T->σ->σ):ah->σ->σ
 | [],s=>s
 |t::r,s=>T.folds e r (T.fold e t s)
end
variable{α:Type}
theorem get_at(B:List α)(x:α)(r:List α):(B++x::r)[B.length]?=some x:=by simp
theorem jb(B:List α)(x y:α)(r:List α):(B++x::y::r)[B.length+1]?=some y:=by rw[dx (by omega),show B.length+1-B.length=1 by omega];rfl
theorem take_at(B r:List α):(B++r).take B.length=B:=by simp
theorem im{L:Nat}{live:ae}{s:XS}{c:aI}{B e:az}(h:keep s.r live=c)(d:aB L c=true)(k:B.length=L)(g:s.B=B++e):aA L live s=some ⟨c,B⟩:=by unfold aA;rw[h,g,ay ⟨d,by simp;omega⟩,<-k,take_at]
variable{σ:Type}
def mB(e:T->σ->σ)(l:ah)(s:σ)(i:Nat):σ⊕Unit:= .inl (T.fold e (ai l i) s)
theorem C9(e:T->σ->σ)(l:ah):∀(k i:Nat) (s:σ),i+k=l.length->runN (mB e l) k s i= .inl (T.folds e (l.drop i) s)
 |0,i,s,h=>by have d:l.drop i=[]:=oS (by omega);simp[runN,d,T.folds]
 |k+1,i,s,h=>by
  have c:i<l.length:=by omega
  rw[dS c,aZ c];simp only[runN,mB,T.folds];exact C9 e l k (i+1) _ (by omega)
theorem TS(st:σ->az)(e:T->σ->σ)(k:Nat)(caps:aG)(m:Nat)(H:∀s,(st s).length=m)(p:∀n,m<=n->AV.safe.safes n caps=true)(q:caps.map AV.clr=caps)(O:¬0∈XV.lin k)
 (f v:Int) (ks:ah) (P:ks.length<=1099511627776)
 (N:∀(x:T) (s:σ) (r:az),aj XV k (.d (x.enc .sub)::caps) (st s++r)=some (.d (.tup []),st (e x s)++r))
 (w:∀x,x∈ks->∀(s:σ) (r:az),aj XV 25 [.d (x.enc .sub),.fn k caps] (st s++r)=some (.d (.tup []),st (T.fold e x s)++r)) (s:σ) (r:az):
 aj XV 25 [.d ((T.node f v ks).enc .sub),.fn k caps] (st s++r)=some (.d (.tup []),st (T.fold e (.node f v ks) s)++r):=by
 rw[aK 25 uC rfl];have g:=N (.node f v ks) s (r++[some [aa f,aa v,.d (ao .sub ks)]]);have len:∀s,(st s++r).length=m+r.length:=fun s=>by simp[H]
 have c:=bG (X:=XV) (T:=XV.lin 25) (L:=m+r.length+1) (live:=[1,10,11,12]) (b:=qq) (n:=ks.length) (γ:=Unit) (st:=fun(s:σ) i=>⟨[(1,.fn k caps),(10,.d (ao .sub ks)),(11,aa ks.length),(12,aa i)],(st s++r)++[some [aa f,aa v,.d (ao .sub ks)]]⟩) (step:=mB e ks)
  (F:=fun s=>(.exit 0,⟨[(1,.fn k caps),(10,.d (ao .sub ks)),(11,aa ks.length),(12,aa ks.length),(13,au false)],(st s++r)++[some [aa f,aa v,.d (ao .sub ks)]]⟩)) (R:=fun _=>(.ret,⟨[],[]⟩))
  (fun s=>⟨by simp,by simp[qq]⟩)
  (fun s i hi=>by
   have M:=aV (n:=i) (by omega);have z:=w _ (bM hi) s (r++[some [aa f,aa v,.d (ao .sub ks)],some [aa (ai ks i).f,aa (ai ks i).v,.d (ao .sub (ai ks i).kids)]]);have D:=len s;have h:=len (T.fold e (ai ks i) s);simp only[<-bX]at z;generalize Q:st s++r=B at z D;generalize u:st (T.fold e (ai ks i) s)++r=B' at z h;unfold mB;refine⟨⟨[(1,.fn k caps),(10,.d (ao .sub ks)),(11,aa ks.length),(12,aa (i+1:Nat))],B'++[some [aa f,aa v,.d (ao .sub ks)],some [aa (ai ks i).f,aa (ai ks i).v,.d (ao .sub (ai ks i).kids)]]⟩,?_,?_⟩
   ·simp[qq,hi,M,cut,aZ hi,q,z,splice]
   ·refine im (e:=[some [aa (ai ks i).f,aa (ai ks i).v,.d (ao .sub (ai ks i).kids)]]) (by simp) (by simp[aB,p _ (show m<=m+r.length+1 by omega)]) (by simp[h,u]) (by simp[<-u]))
  ks.length (e (.node f v ks) s) 0 ⟨[(1,.fn k caps),(10,.d (ao .sub ks)),(11,aa ks.length),(12,aa 0)],(st (e (.node f v ks) s)++r)++[some [aa f,aa v,.d (ao .sub ks)]]⟩ (by omega) (im (e:=[]) (by simp) (by simp[aB,p _ (show m<=m+r.length+1 by omega)]) (by simp[H];omega) (by simp))
 rw[C9 e ks _ _ _ (by omega)]at c;simp only[eQ]at c;have G:=len s;have y:=len (e (.node f v ks) s);have C:(st (T.fold e (.node f v ks) s)++r).length=m+r.length:=len _;have o:T.folds e ks (e (.node f v ks) s)=T.fold e (.node f v ks) s:=by simp[T.fold]
 rw[o]at c;simp only[<-bX]at g;generalize I:st s++r=B0 at g G;generalize K:st (e (.node f v ks) s)++r=B1 at g y c;generalize J:st (T.fold e (.node f v ks) s)++r=B2 at C c;have t:B1.length=B0.length:=by omega
 rw[<-y]at c;simp only[ao,Lz]at g c;simp[uC,g,q,O,t.symm];rw[c];simp[show B1.length=B2.length by omega]
theorem If(st:σ->az)(e:T->σ->σ)(k:Nat)(caps:aG)(m:Nat)(p:∀s,(st s).length=m)(c:∀n,m<=n->AV.safe.safes n caps=true)(g:caps.map AV.clr=caps)(o:¬0∈XV.lin k)
 (q:∀(x:T) (s:σ) (r:az),aj XV k (.d (x.enc .sub)::caps) (st s++r)=some (.d (.tup []),st (e x s)++r)) (t:T) (h:t.inner<=1099511627776) (s:σ) (r:az):
 aj XV 25 [.d (t.enc .sub),.fn k caps] (st s++r)=some (.d (.tup []),st (T.fold e t s)++r):=by
 match t,h with
 | .node f v ks,h=>simp only[T.inner]at h;exact TS st e k caps m p c g o f v ks (by omega) q (fun x hx s r=>If st e k caps m p c g o q x (by have:=T.qaD hx;omega) s r) s r
termination_by t
decreasing_by
 simp_wf
 have:=ed hx;omega
theorem wrap_add(a b:Int):IntKind.i64.wrap (IntKind.i64.wrap a+b)=IntKind.i64.wrap (a+b):=by
 show(if(true&&decide (((if(true&&decide (a%18446744073709551616>=9223372036854775808))=true then a%18446744073709551616-18446744073709551616 else a%18446744073709551616)+b)%18446744073709551616>=9223372036854775808))=true then((if(true&&decide (a%18446744073709551616>=9223372036854775808))=true then a%18446744073709551616-18446744073709551616 else a%18446744073709551616)+b)%18446744073709551616-18446744073709551616 else((if(true&&decide (a%18446744073709551616>=9223372036854775808))=true then a%18446744073709551616-18446744073709551616 else a%18446744073709551616)+b)%18446744073709551616)=(if(true&&decide ((a+b)%18446744073709551616>=9223372036854775808))=true then(a+b)%18446744073709551616-18446744073709551616 else(a+b)%18446744073709551616);simp only[eE,cB];have:((if a%18446744073709551616>=9223372036854775808 then a%18446744073709551616-18446744073709551616 else a%18446744073709551616)+b)%18446744073709551616=(a+b)%18446744073709551616:=by split<;>omega
 rw[this]
theorem Yy(a b:Int):IntKind.i64.wrap (a+IntKind.i64.wrap b)=IntKind.i64.wrap (a+b):=by rw[Int.add_comm,wrap_add,Int.add_comm]
mutual
def T.sum(w:T->Int):T->Int
 | .node f v ks=>w (.node f v ks)+T.sums w ks
def T.sums(w:T->Int):ah->Int
 | []=>0
 |t::r=>T.sum w t+T.sums w r
end
def tC(w:T->Int)(x:T)(n:Int):Int:=IntKind.i64.wrap (n+w x)
mutual
theorem I4(w:T->Int):∀(t:T) (n:Int),T.fold (tC w) t (IntKind.i64.wrap n)=IntKind.i64.wrap (n+T.sum w t)
 | .node f v ks,n=>by simp only[T.fold,T.sum,tC];rw[wrap_add,Pv w ks,vU]
theorem Pv(w:T->Int):∀(l:ah) (n:Int),T.folds (tC w) l (IntKind.i64.wrap n)=IntKind.i64.wrap (n+T.sums w l)
 | [],n=>by simp[T.folds,T.sums]
 |t::r,n=>by simp only[T.folds,T.sums];rw[I4 w t,Pv w r,vU]
end
def Am(c:T->Int)(l:ah)(n:Int)(i:Nat):Int⊕Unit:= .inl (IntKind.i64.wrap (n+c (ai l i)))
theorem Hh(w:T->Int)(l:ah):∀(k i:Nat) (n:Int),i+k=l.length->runN (Am (fun t=>IntKind.i64.wrap (T.sum w t)) l) k (IntKind.i64.wrap n) i= .inl (IntKind.i64.wrap (n+T.sums w (l.drop i)))
 |0,i,n,h=>by have d:l.drop i=[]:=oS (by omega);simp[runN,d,T.sums]
 |k+1,i,n,h=>by
  have c:i<l.length:=by omega
  rw[dS c,aZ c];simp only[runN,Am,T.sums];rw[Yy,wrap_add,Hh w l k (i+1) _ (by omega),vU]
theorem qt7(t:T)(g:t.inner<=1099511627776):aj XV 23 [.d (t.enc .sub)] []=some (aa (IntKind.i64.wrap (T.sum (fun _=>1) t)),[]):=by
 rw[aK 23 Di rfl];have key:∀(n:Int),aj XV 25 [.d (t.enc .sub),.fn 24 [.ptr 1 0]] ([some [aa t.f,aa t.v,.d (ao .sub t.kids)],some [aa n]]++[])=some (.d (.tup []),[some [aa t.f,aa t.v,.d (ao .sub t.kids)],some [aa (T.fold (tC fun _=>1) t n)]]++[]):=fun n=>
  If (fun n:Int=>[some [aa t.f,aa t.v,.d (ao .sub t.kids)],some [aa n]]) (tC fun _=>1) 24 [.ptr 1 0] 2 (fun _=>rfl) (fun n h=>by simp;omega) rfl (by simp) (fun x s r=>by rw[aK 24 AL rfl];simp[AL,splice,tC]) t g n []
 have c:=key 0;have e:=I4 (fun _=>1) t 0;rw[show IntKind.i64.wrap 0=0 from rfl,Cs]at e;rw[e]at c;simp only[cS,ao]at c;simp[Di,splice,c]
theorem Q8(f v:Int)(ks:ah)(k:ks.length<=1099511627776)(c:∀s,s∈ks->aj XV 22 [.d (s.enc .sub)] []=some (aa (IntKind.i64.wrap (T.sum (fun _=>1) s)),[])):
 aj XV 22 [.d ((T.node f v ks).enc .sub)] []=some (aa (IntKind.i64.wrap (T.sum (fun _=>1) (.node f v ks))),[]):=by
 rw[aK 22 v22 rfl];have h:=bG (X:=XV) (T:=[]) (L:=1) (live:=[1,3,4]) (b:=DY) (n:=ks.length) (γ:=Unit) (st:=fun(n:Int) i=>⟨[(1,.ptr 0 0),(3,aa n),(4,aa i)],[some [aa f,aa v,.d (ao .sub ks)]]⟩) (step:=Am (fun t=>IntKind.i64.wrap (T.sum (fun _=>1) t)) ks)
  (F:=fun n=>(.exit 0,⟨[(1,.ptr 0 0),(3,aa n),(4,aa ks.length),(9,au false)],[some [aa f,aa v,.d (ao .sub ks)]]⟩)) (R:=fun r=>(.ret,⟨[],[]⟩))
  (fun _=>⟨by simp,by simp[DY]⟩)
  (fun n i hi=>by have e:=aV (n:=i) (by omega);have hc:=c _ (bM hi);exact⟨_,by simp[DY,hi,e,cut,aZ hi,hc];rfl,by simp[aA,aB]⟩)
  ks.length (IntKind.i64.wrap 1) 0 ⟨[(1,.ptr 0 0),(3,aa 1),(4,aa 0)],[some [aa f,aa v,.d (ao .sub ks)]]⟩ (by omega) (by simp[aA,aB,show IntKind.i64.wrap 1=1 from rfl])
 rw[Hh _ _ _ _ _ (by omega)]at h;simp only[eQ,ao]at h;have g:T.sum (fun _=>1) (T.node f v ks)=1+T.sums (fun _=>1) ks:=by simp[T.sum]
 simp[v22,g];rw[h];simp[Pf]
theorem Md(t:T)(c:t.inner<=1099511627776):aj XV 22 [.d (t.enc .sub)] []=some (aa (IntKind.i64.wrap (T.sum (fun _=>1) t)),[]):=by
 match t,c with
 | .node f v ks,c=>simp only[T.inner]at c;exact Q8 f v ks (by omega) (fun s e=>Md s (by have:=T.qaD e;omega))
termination_by t
decreasing_by
 simp_wf
 have:=ed e;omega
mutual
theorem MC(w:T->Int)(e:T->Int->Int)(c:∀x m,e x (IntKind.i64.wrap m)=IntKind.i64.wrap (m+w x)):∀(t:T) (n:Int),T.fold e t (IntKind.i64.wrap n)=IntKind.i64.wrap (n+T.sum w t)
 | .node f v ks,n=>by simp only[T.fold,T.sum];rw[c,M1 w e c ks,vU]
theorem M1(w:T->Int)(e:T->Int->Int)(c:∀x m,e x (IntKind.i64.wrap m)=IntKind.i64.wrap (m+w x)):∀(l:ah) (n:Int),T.folds e l (IntKind.i64.wrap n)=IntKind.i64.wrap (n+T.sums w l)
 | [],n=>by simp[T.folds,T.sums]
 |t::r,n=>by simp only[T.folds,T.sums];rw[MC w e c t,M1 w e c r,vU]
end
theorem iN(t:T):aj XV 75 [.d (t.enc .sub)] []=some (au (t.f== -1),[]):=by rw[aK 75 Cg rfl];simp[Cg]
def wC(n:Int)(x:T):Int:=if x.f= -1/\x.v=n then 1 else 0
def eC(n:Int)(x:T)(m:Int):Int:=if x.f= -1/\x.v=n then IntKind.i64.wrap (m+1)else m
theorem WQ(n:Int)(x:T)(m:Int):eC n x (IntKind.i64.wrap m)=IntKind.i64.wrap (m+wC n x):=by
 unfold eC wC;split
 ·exact wrap_add m 1
 ·simp
theorem Gy(t:T)(s:t.inner<=1099511627776)(n:Int):aj XV 73 [.d (t.enc .sub),aa n] []=some (aa (IntKind.i64.wrap (T.sum (wC n) t)),[]):=by
 rw[aK 73 B9 rfl];have key:∀(m:Int),aj XV 25 [.d (t.enc .sub),.fn 74 [.ptr 1 0,.ptr 2 0]] ([some [aa t.f,aa t.v,.d (ao .sub t.kids)],some [aa n],some [aa m]]++[])=some (.d (.tup []),[some [aa t.f,aa t.v,.d (ao .sub t.kids)],some [aa n],some [aa (T.fold (eC n) t m)]]++[]):=fun m=>
  If (fun m:Int=>[some [aa t.f,aa t.v,.d (ao .sub t.kids)],some [aa n],some [aa m]]) (eC n) 74 [.ptr 1 0,.ptr 2 0] 3 (fun _=>rfl) (fun n y=>by simp;omega) rfl (by simp) (fun x m r=>by
   rw[aK 74 rJ rfl];obtain⟨k,g,u⟩:=x;have c:=iN (.node k g u);simp only[T.qaP]at c;unfold eC;simp only[T.qaP,T.qbz]
   by_cases e:k= -1
   ·subst e
    simp only[BEq.rfl]at c
    by_cases o:g=n
    ·subst o
     simp[rJ,c,splice]
    ·have w:(g==n)=false:=by simp[o]
     simp[rJ,c,o,w]
   ·have q:(k== -1)=false:=by simp[e]
    rw[q]at c;simp[rJ,c,e]) t s m []
 have h:=key 0;have p:=MC (wC n) (eC n) (WQ n) t 0;rw[show IntKind.i64.wrap 0=0 from rfl,Cs]at p;rw[p]at h;simp only[cS,ao]at h;simp[B9,splice,h]
theorem Kq(b:Bool):aj XV 85 [au b] []=some (aa (if b then 1 else 0),[]):=by rw[aK 85 Bu rfl];cases b<;>simp[Bu]
theorem qsR(n f v:Int)(ks:ah)(y:ks.length<=1099511627776)(g:∀s,s∈ks->aj XV 81 [.d (s.enc .sub),aa n] []=some (aa (IntKind.i64.wrap (T.sum (wC n) s)),[])):
 aj XV 81 [.d ((T.node f v ks).enc .sub),aa n] []=some (aa (IntKind.i64.wrap (T.sum (wC n) (.node f v ks))),[]):=by
 rw[aK 81 uF rfl];have h:=fun m=>bG (X:=XV) (T:=[]) (L:=1) (live:=[1,2,5,6]) (b:=D1) (n:=ks.length) (γ:=Unit) (st:=fun(m:Int) i=>⟨[(1,aa n),(2,.ptr 0 0),(5,aa m),(6,aa i)],[some [aa f,aa v,.d (ao .sub ks)]]⟩) (step:=Am (fun t=>IntKind.i64.wrap (T.sum (wC n) t)) ks)
  (F:=fun m=>(.exit 0,⟨[(1,aa n),(2,.ptr 0 0),(5,aa m),(6,aa ks.length),(21,au false)],[some [aa f,aa v,.d (ao .sub ks)]]⟩)) (R:=fun r=>(.ret,⟨[],[]⟩))
  (fun _=>⟨by simp,by simp[D1]⟩)
  (fun m i hi=>by have c:=aV (n:=i) (by omega);have hc:=g _ (bM hi);exact⟨_,by simp[D1,hi,c,cut,aZ hi,hc];rfl,by simp[aA,aB]⟩)
  ks.length (IntKind.i64.wrap m) 0 ⟨[(1,aa n),(2,.ptr 0 0),(5,aa (IntKind.i64.wrap m)),(6,aa 0)],[some [aa f,aa v,.d (ao .sub ks)]]⟩ (by omega) (by simp[aA,aB])
 have h':=fun m=>by have:=h m;rw[Hh _ _ _ _ _ (by omega)]at this;simpa only[eQ,ao]using this
 have w:T.sum (wC n) (T.node f v ks)=wC n (.node f v ks)+T.sums (wC n) ks:=by simp[T.sum]
 have bt:=Kq true;have p:=Kq false;simp only[if_true,bg,if_false]at bt p;rw[w];have q:=h' 1;have o:=h' 0;rw[show IntKind.i64.wrap 1=1 from rfl]at q;rw[show IntKind.i64.wrap 0=0 from rfl]at o
 by_cases e:f= -1
 ·by_cases k:v=n
  ·have c:wC n (.node f v ks)=1:=by simp[wC,e,k]
   rw[c];subst e;subst k
   simp[uF,bt];rw[q];simp
  ·have c:wC n (.node f v ks)=0:=by simp[wC,e,k]
   have x:(v==n)=false:=by simp[k]
   rw[c];subst e;simp[uF,p,x];rw[o];simp
 ·have c:wC n (.node f v ks)=0:=by simp[wC,e]
  have u:(f== -1)=false:=by simp[e]
  rw[c];simp[uF,p,u];rw[o];simp
theorem KP(t:T)(c:t.inner<=1099511627776)(n:Int):aj XV 81 [.d (t.enc .sub),aa n] []=some (aa (IntKind.i64.wrap (T.sum (wC n) t)),[]):=by
 match t,c with
 | .node f v ks,c=>simp only[T.inner]at c;exact qsR n f v ks (by omega) (fun s e=>KP s (by have:=T.qaD e;omega) n)
termination_by t
decreasing_by
 simp_wf
 have:=ed e;omega
def cr(f v:Int)(ks:ah):az:=[some [aa f,aa v,.d (ao .sub ks)]]
theorem V2(a b:T)(c:a.inner<=1099511627776)(e:b.inner<=1099511627776):aj XV 79 [.d (a.enc .sub),.d (b.enc .sub)] []=some (au (decide (T.cmp a b<0)),[]):=by rw[aK 79 Dk rfl];have h:=CF a b c e;simp[Dk,h]
theorem WV(f v:Int)(ks:ah)(k v':Int)(c:ah)(K:ks.length<=1099511627776)(G:c.length<=1099511627776)
 (o:∀s s',s∈ks->s'∈c->aj XV 3 [.d (s.enc .sub),.d (s'.enc .sub)] []=some (au (T.cmp s s'==0),[]))
 (q:∀s s',s∈ks->s'∈c->aj XV 84 [.d (s.enc .sub),.d (s'.enc .sub)] []=some (au (decide (T.cmp s s'<0)),[])):
 aj XV 84 [.d ((T.node f v ks).enc .sub),.d ((T.node k v' c).enc .sub)] []=some (au (decide (T.cmp (.node f v ks) (.node k v' c)<0)),[]):=by
 rw[aK 84 qy rfl];rw[y_]
 by_cases C:f=k
 case neg=>
  have D:(f !=k)=true:=by simp[C]
  have e:decide (eY f k v v' ks.length c.length (T.cmps ks c)<0)=decide (f<k):=by
   unfold eY;by_cases m:f<k
   ·simp[m]
   ·have p:f>k:=by omega
    simp[m,p]
  rw[e];simp[qy,D]
 subst C
 by_cases z:v=v'
 case neg=>
  have J:(v !=v')=true:=by simp[z]
  have e:decide (eY f f v v' ks.length c.length (T.cmps ks c)<0)=decide (v<v'):=by
   unfold eY;by_cases m:v<v'
   ·simp[m]
   ·have p:v>v':=by omega
    simp[m,p]
  rw[e];simp[qy,J]
 subst z
 by_cases u:ks.length=c.length
 case neg=>
  have I:((ks.length:Int) !=c.length)=true:=by simp;omega
  have e:decide (eY f f v v ks.length c.length (T.cmps ks c)<0)=decide (ks.length<c.length):=by
   unfold eY;by_cases m:ks.length<c.length
   ·simp[m]
   ·have p:c.length<ks.length:=by omega
    simp[m,p]
  rw[e];simp[qy,I]
 have x:eY f f v v ks.length c.length (T.cmps ks c)=T.cmps ks c:=by simp[eY,u]
 rw[x];have h:=bG (X:=XV) (T:=[]) (L:=2) (live:=[2,3,5]) (b:=yq) (n:=ks.length) (γ:=Int) (st:=fun(_:Unit) i=>⟨[(2,.ptr 0 0),(3,.ptr 1 0),(5,aa i)],ck f v ks f v c⟩) (step:=lI ks c)
  (F:=fun _=>(.exit 0,⟨[(2,.ptr 0 0),(3,.ptr 1 0),(5,aa ks.length),(44,au false)],ck f v ks f v c⟩)) (R:=fun r=>(.ret,⟨[(4,au (decide (r<0)))],ck f v ks f v c⟩))
  (fun _=>⟨by simp,by simp[yq,ck]⟩)
  (fun _ i hi=>by
   have H:=aV (n:=i) (by omega);have g:i<c.length:=by omega
   have w:=o _ _ (bM hi) (bM g);have hc:=q _ _ (bM hi) (bM g);unfold lI ck
   by_cases t:T.cmp (ai ks i) (ai c i)=0
   ·rw[t]at w⊢
    simp only[eg,sR,if_false];refine⟨_,by simp[yq,OH,hi,g,H,cut,aZ hi,aZ g,w];rfl,?_⟩;simp[aA,aB]
   ·simp only[eg,t,mq,if_true]
    have y:(T.cmp (ai ks i) (ai c i)==0)=false:=by simp[t]
    rw[y]at w;refine⟨by simp,?_⟩;simp[yq,OH,q2U,hi,g,cut,aZ hi,aZ g,w,hc])
  ks.length () 0 ⟨[(2,.ptr 0 0),(3,.ptr 1 0),(5,aa 0)],ck f v ks f v c⟩ (by omega) (by simp[aA,aB,ck])
 rw[vD ks c u _ _ (by omega)]at h;simp only[eQ,ck,ao]at h;simp[qy,u];rw[u]at h;rw[h]
 by_cases t:T.cmps ks c=0<;>simp[t]
theorem H3(a b:T)(g:a.inner<=1099511627776)(k:b.inner<=1099511627776):aj XV 84 [.d (a.enc .sub),.d (b.enc .sub)] []=some (au (decide (T.cmp a b<0)),[]):=by
 match a,b,g,k with
 | .node f v ks,.node m v' h,g,k=>simp only[T.inner]at g k;exact WV f v ks m v' h (by omega) (by omega) (fun s s' e c=>lU s s' (by have:=T.qaD e;omega) (by have:=T.qaD c;omega)) (fun s s' e c=>H3 s s' (by have:=T.qaD e;omega) (by have:=T.qaD c;omega))
termination_by a
decreasing_by
 simp_wf
 have:=ed e;omega
def i_(l:aD)(f v:Int)(n:Nat):Bool:=
 if dz l f=true then
  if v=0 then(if(aX l f.toNat).ac=true then decide ((n:Int)<2)else !decide ((n:Int)=(aX l f.toNat).arity))
  else true
 else true
def dh(l:aD)(f:Int)(ks:ah)(i:Nat):Bool:=if(aX l f.toNat).ac=true then(if(ai ks i).f=f then true else if i=0 then false else decide (T.cmp (ai ks i) (ai ks (i-1))<0))else false
mutual
def T.form(l:aD):T->Bool
 | .node f v ks=>
  if f= -1 then b4 v 0 99&&decide (ks.length=0)
  else if i_ l f v ks.length=true then false
  else(aR (fun i=> !((T.forms l ks)[i]?).getD false||dh l f ks i) ks.length 0).isNone
def T.forms(l:aD):ah->List Bool
 | []=>[]
 |t::r=>T.form l t::T.forms l r
end
theorem T.qvm(l:aD):∀ks:ah,T.forms l ks=ks.map (T.form l)
 | []=>by simp[T.forms]
 |t::r=>by simp[T.forms,T.qvm l r]
theorem T.qsf(l:aD)(ks:ah)(i:Nat)(hi:i<ks.length):((T.forms l ks)[i]?).getD false=T.form l (ai ks i):=by rw[T.qvm];simp[JH hi]
theorem XK(l:aD)(o:l.length<=1099511627776)(f v:Int)(ks:ah):aS XV (XV.lin 78) (.region true 0 [0,3,62] DJ) ⟨[(0,.d (sg l)),(3,.ptr 0 0),(8,au false)],cr f v ks⟩=some (.normal,⟨[(0,.d (sg l)),(3,.ptr 0 0),(62,au (i_ l f v ks.length))],cr f v ks⟩):=by
 have c:=Gp l o f;unfold i_ cr;cases c1:dz l f with
 |false=>rw[c1]at c;simp[wo,c]
 |true=>
  rw[c1]at c;obtain⟨h,e⟩:=od c1
  by_cases g:v=0
  ·cases c3:(aX l f.toNat).ac with
   |true=>simp[wo,c,g,h,e,bY e,cut,c3]
   |false=>
    by_cases k:(ks.length:Int)=(aX l f.toNat).arity
    ·simp[wo,c,g,h,e,bY e,cut,c3,k]
    ·have m:((ks.length:Int) !=(aX l f.toNat).arity)=true:=by simp[k]
     simp[wo,c,g,h,e,bY e,cut,c3,k,m]
  ·have p:(v !=0)=true:=by simp[g]
   simp[wo,c,g,p]
theorem WF(l:aD)(q:l.length<=1099511627776)(f v:Int)(ks:ah):aS XV (XV.lin 83) (.region true 0 [0,3,64] Dm) ⟨[(0,.d (sg l)),(3,.ptr 0 0),(8,au false)],cr f v ks⟩=some (.normal,⟨[(0,.d (sg l)),(3,.ptr 0 0),(64,au (i_ l f v ks.length))],cr f v ks⟩):=by
 have c:=lT f 0 (l.length-1);have g:IntKind.i64.wrap ((l.length:Int)-1)=l.length-1:=wrap_i64 (by omega) (by omega);unfold i_ cr;cases c1:dz l f with
 |false=>unfold dz at c1;rw[c1]at c;simp[vn,c,g]
 |true=>
  obtain⟨k,e⟩:=od c1;unfold dz at c1;rw[c1]at c
  by_cases h:v=0
  ·cases c3:(aX l f.toNat).ac with
   |true=>simp[vn,c,g,h,k,e,bY e,cut,c3]
   |false=>
    by_cases m:(ks.length:Int)=(aX l f.toNat).arity
    ·simp[vn,c,g,h,k,e,bY e,cut,c3,m]
    ·have o:((ks.length:Int) !=(aX l f.toNat).arity)=true:=by simp[m]
     simp[vn,c,g,h,k,e,bY e,cut,c3,m,o]
  ·have p:(v !=0)=true:=by simp[h]
   simp[vn,c,g,h,p]
theorem Z1(l:aD)(x:l.length<=1099511627776)(f v:Int)(ks:ah)(t:dz l f=true)(i:Nat)(hi:i<ks.length)(w:ks.length<=1099511627776)
 (h:∀s s',s∈ks->s'∈ks->aj XV 79 [.d (s.enc .sub),.d (s'.enc .sub)] []=some (au (decide (T.cmp s s'<0)),[]))
 (c:aj XV 78 [.d (sg l),.d ((ai ks i).enc .sub)] []=some (au (T.form l (ai ks i)),[])):
 aS XV (XV.lin 78) (.region true 0 [0,3,64,65,66,103] DW) ⟨[(0,.d (sg l)),(3,.ptr 0 0),(5,aa i),(6,.ptr 1 0),(64,.d (ao .sub ks)),(65,aa ks.length),(66,aa i)],cr f v ks++[some [aa (ai ks i).f,aa (ai ks i).v,.d (ao .sub (ai ks i).kids)]]⟩=
  some (.normal,⟨[(0,.d (sg l)),(3,.ptr 0 0),(64,.d (ao .sub ks)),(65,aa ks.length),(66,aa i),(103,au (!T.form l (ai ks i)||dh l f ks i))],cr f v ks++[some [aa (ai ks i).f,aa (ai ks i).v,.d (ao .sub (ai ks i).kids)]]⟩):=by
 obtain⟨o,g⟩:=od t;unfold cr dh;cases c1:T.form l (ai ks i)with
 |false=>rw[c1]at c;simp[wl,c]
 |true=>
  rw[c1]at c;cases c2:(aX l f.toNat).ac with
  |false=>simp[wl,c,o,g,bY g,c2,cut]
  |true=>
   by_cases k:(ai ks i).f=f
   ·have m:((ai ks i).f==f)=true:=by simp[k]
    simp[wl,c,o,g,bY g,c2,m,cut];simp[k]
   ·have m:((ai ks i).f==f)=false:=by simp[k]
    by_cases q:i=0
    ·subst q;simp[wl,c,o,g,bY g,c2,k,m,cut]
    ·obtain⟨j,rfl⟩:∃j,i=j+1:=⟨i-1,by omega⟩
     have p:j<ks.length:=by omega
     have u:=h _ _ (bM hi) (bM p);have r:IntKind.i64.wrap (j:Int)=j:=Dt (by omega);have e:(0:Int)<((j+1:Nat):Int):=by omega
     simp only[qt,dC]at e;simp[wl,c,o,g,bY g,c2,k,m,r,e,p,aZ p,cut,u]
theorem UR(l:aD)(z:l.length<=1099511627776)(f v:Int)(ks:ah)(H:ks.length<=1099511627776)
 (p:∀s s',s∈ks->s'∈ks->aj XV 79 [.d (s.enc .sub),.d (s'.enc .sub)] []=some (au (decide (T.cmp s s'<0)),[]))
 (r:∀s,s∈ks->aj XV 78 [.d (sg l),.d (s.enc .sub)] []=some (au (T.form l s),[])):
 aj XV 78 [.d (sg l),.d ((T.node f v ks).enc .sub)] []=some (au (T.form l (.node f v ks)),[]):=by
 rw[aK 78 oL rfl];have m:=iN (.node f v ks);have g:=pj v 0 99;simp only[T.qaP]at m
 by_cases t:f= -1
 ·have c:T.form l (.node f v ks)=(b4 v 0 99&&decide (ks.length=0)):=by simp[T.form,t]
  rw[c];subst t;simp only[BEq.rfl]at m;cases c2:b4 v 0 99 with
  |false=>rw[c2]at g;simp[oL,m,g]
  |true=>
   rw[c2]at g
   by_cases x:ks.length=0
   ·simp[oL,m,g,x]
   ·have G:((ks.length:Int)==0)=false:=by simp;exact fun h=>x (by simp[h])
    simp[oL,m,g,G];exact fun h=>x (by simp[h])
 have C:(f== -1)=false:=by simp[t]
 rw[C]at m;have u:=XK l z f v ks;simp only[cr,ao,Ig]at u;cases c2:i_ l f v ks.length with
 |true=>
  have c:T.form l (.node f v ks)=false:=by simp[T.form,t,c2]
  rw[c];rw[c2]at u;simp[oL,m];rw[u];simp
 |false=>
  have y:dz l f=true:=by
   unfold i_ at c2
   by_cases h:dz l f=true
   ·exact h
   ·rw[aC h]at c2;simp at c2
  have c:T.form l (.node f v ks)=(aR (fun i=> !T.form l (ai ks i)||dh l f ks i) ks.length 0).isNone:=by
   have e:aR (fun i=> !((T.forms l ks)[i]?).getD false||dh l f ks i) ks.length 0=aR (fun i=> !T.form l (ai ks i)||dh l f ks i) ks.length 0:=by
    have key:∀(k i:Nat),i+k=ks.length->aR (fun i=> !((T.forms l ks)[i]?).getD false||dh l f ks i) k i=aR (fun i=> !T.form l (ai ks i)||dh l f ks i) k i:=by
     intro k
     induction k with
     |zero=>intro i _;rfl
     |succ k I=>intro i h;simp only[aR];simp only[T.qsf l ks i (by omega),I (i+1) (by omega)]
    exact key _ _ (by omega)
   rw[<-e];simp[T.form,t,c2]
  rw[c];rw[c2]at u;have h:=bG (X:=XV) (T:=XV.lin 78) (L:=1) (live:=[0,3,64,65,66]) (b:=xb) (n:=ks.length) (γ:=Nat) (st:=fun(_:Unit) i=>⟨[(0,.d (sg l)),(3,.ptr 0 0),(64,.d (ao .sub ks)),(65,aa ks.length),(66,aa i)],cr f v ks⟩) (step:=bH fun i=> !T.form l (ai ks i)||dh l f ks i)
   (F:=fun _=>(.exit 0,⟨[(0,.d (sg l)),(3,.ptr 0 0),(64,.d (ao .sub ks)),(65,aa ks.length),(66,aa ks.length),(67,au false)],cr f v ks⟩)) (R:=fun j=>(.ret,⟨[(4,au false)],cr f v ks++[some [aa (ai ks j).f,aa (ai ks j).v,.d (ao .sub (ai ks j).kids)]]⟩))
   (fun a=>⟨by simp,by simp[xb]⟩)
   (fun a i hi=>by
    have D:=aV (n:=i) (by omega);have q:=Z1 l z f v ks y i hi H p (r _ (bM hi));unfold bH;simp only[cr,ao,c9,co,Ig]at q
    by_cases o:(!T.form l (ai ks i)||dh l f ks i)=true
    ·rw[ay o]
     rw[o]at q;refine⟨by simp,?_⟩;simp[xb,hi,cut,aZ hi,cr,splice];rw[q];simp
    ·rw[aC o]
     have w:(!T.form l (ai ks i)||dh l f ks i)=false:=by simpa using o
     rw[w]at q;refine⟨⟨[(0,.d (sg l)),(3,.ptr 0 0),(64,.d (ao .sub ks)),(65,aa ks.length),(66,aa (i+1:Nat))],cr f v ks++[some [aa (ai ks i).f,aa (ai ks i).v,.d (ao .sub (ai ks i).kids)]]⟩,?_,by simp[aA,aB,cr]⟩;simp[xb,hi,cut,aZ hi,cr,splice];rw[q];simp[D])
   ks.length () 0 ⟨[(0,.d (sg l)),(3,.ptr 0 0),(64,.d (ao .sub ks)),(65,aa ks.length),(66,aa 0)],cr f v ks⟩ (by omega) (by simp[aA,aB,cr])
  rw[cU]at h;simp only[cr,ao,c9,co,Ig]at h;simp[oL,m];rw[u];simp;rw[h];cases o:aR (fun i=> !T.form l (ai ks i)||dh l f ks i) ks.length 0<;>simp[JD]
theorem Kw(l:aD)(f v:Int)(ks:ah)(c:f≠-1)(g:i_ l f v ks.length=false):T.form l (.node f v ks)=(aR (fun i=> !T.form l (ai ks i)||dh l f ks i) ks.length 0).isNone:=by
 have e:aR (fun i=> !((T.forms l ks)[i]?).getD false||dh l f ks i) ks.length 0=aR (fun i=> !T.form l (ai ks i)||dh l f ks i) ks.length 0:=by
  have key:∀(k i:Nat),i+k=ks.length->aR (fun i=> !((T.forms l ks)[i]?).getD false||dh l f ks i) k i=aR (fun i=> !T.form l (ai ks i)||dh l f ks i) k i:=by
   intro k
   induction k with
   |zero=>intro i _;rfl
   |succ k d=>intro i h;simp only[aR];simp only[T.qsf l ks i (by omega),d (i+1) (by omega)]
  exact key _ _ (by omega)
 rw[<-e];simp[T.form,c,g]
theorem Lv(l:aD)(e:l.length<=1099511627776)(t:T)(c:t.inner<=1099511627776):aj XV 78 [.d (sg l),.d (t.enc .sub)] []=some (au (T.form l t),[]):=by
 match t,c with
 | .node f v ks,c=>simp only[T.inner]at c;exact UR l e f v ks (by omega) (fun s s' h h'=>V2 s s' (by have:=T.qaD h;omega) (by have:=T.qaD h';omega)) (fun s h=>Lv l e s (by have:=T.qaD h;omega))
termination_by t
decreasing_by
 simp_wf
 have:=ed h;omega
theorem RV(l:aD)(C:l.length<=1099511627776)(f v:Int)(ks:ah)(y:dz l f=true)(i:Nat)(hi:i<ks.length)(z:ks.length<=1099511627776)
 (r:∀s s',s∈ks->s'∈ks->aj XV 84 [.d (s.enc .sub),.d (s'.enc .sub)] []=some (au (decide (T.cmp s s'<0)),[]))
 (c:aj XV 83 [.d (sg l),.d ((ai ks i).enc .sub)] []=some (au (T.form l (ai ks i)),[])):
 aS XV (XV.lin 83) (.region true 0 [0,3,5,116] yX) ⟨[(0,.d (sg l)),(3,.ptr 0 0),(5,aa i),(69,au true)],cr f v ks⟩=
  some (.normal,⟨[(0,.d (sg l)),(3,.ptr 0 0),(5,aa i),(116,au (!T.form l (ai ks i)||dh l f ks i))],cr f v ks⟩):=by
 obtain⟨k,e⟩:=od y;unfold cr dh;cases c2:(aX l f.toNat).ac with
 |false=>
  cases c1:T.form l (ai ks i)with
  |false=>rw[c1]at c;simp[oN,c,k,e,bY e,c2,cut,hi,aZ hi]
  |true=>rw[c1]at c;simp[oN,c,k,e,bY e,c2,cut,hi,aZ hi]
 |true=>
  by_cases m:(ai ks i).f=f
  ·have o:((ai ks i).f==f)=true:=by simp[m]
   simp[oN,k,e,bY e,c2,o,cut,hi,aZ hi];simp[m]
  ·have o:((ai ks i).f==f)=false:=by simp[m]
   by_cases x:i=0
   ·subst x
    cases c1:T.form l (ai ks 0)with
    |false=>rw[c1]at c;simp[oN,c,k,e,bY e,c2,m,o,cut,hi,aZ hi]
    |true=>rw[c1]at c;simp[oN,c,k,e,bY e,c2,m,o,cut,hi,aZ hi]
   ·obtain⟨j,rfl⟩:∃j,i=j+1:=⟨i-1,by omega⟩
    have p:j<ks.length:=by omega
    have t:=r _ _ (bM hi) (bM p);have w:IntKind.i64.wrap (j:Int)=j:=Dt (by omega);have g:(0:Int)<((j+1:Nat):Int):=by omega
    have h:(((j+1:Nat):Int)).toNat=j+1:=by omega
    simp only[qt,dC]at g h;have q:(0:Int)<=(j:Int)+1:=by omega
    by_cases u:T.cmp (ai ks (j+1)) (ai ks j)<0
    ·simp only[u,decide_true]at t
     simp[oN,k,e,bY e,c2,m,o,w,g,h,q,p,hi,aZ p,aZ hi,cut,t,u]
    ·simp only[u,decide_false]at t
     cases c1:T.form l (ai ks (j+1))with
     |false=>rw[c1]at c;simp[oN,c,k,e,bY e,c2,m,o,w,g,h,q,p,hi,aZ p,aZ hi,cut,t,u]
     |true=>rw[c1]at c;simp[oN,c,k,e,bY e,c2,m,o,w,g,h,q,p,hi,aZ p,aZ hi,cut,t,u]
theorem QJ(l:aD)(x:l.length<=1099511627776)(f v:Int)(ks:ah)(C:ks.length<=1099511627776)
 (q:∀s s',s∈ks->s'∈ks->aj XV 84 [.d (s.enc .sub),.d (s'.enc .sub)] []=some (au (decide (T.cmp s s'<0)),[]))
 (k:∀s,s∈ks->aj XV 83 [.d (sg l),.d (s.enc .sub)] []=some (au (T.form l s),[])):
 aj XV 83 [.d (sg l),.d ((T.node f v ks).enc .sub)] []=some (au (T.form l (.node f v ks)),[]):=by
 rw[aK 83 pr rfl];have e:=lT v 0 99
 by_cases o:f= -1
 ·have c:T.form l (.node f v ks)=(b4 v 0 99&&decide (ks.length=0)):=by simp[T.form,o]
  rw[c];subst o;cases c2:b4 v 0 99 with
  |false=>rw[c2]at e;simp[pr,e]
  |true=>
   rw[c2]at e
   by_cases r:ks.length=0
   ·simp[pr,e,r]
   ·have z:((ks.length:Int)==0)=false:=by simp;exact fun h=>r (by simp[h])
    simp[pr,e,z];exact fun h=>r (by simp[h])
 have w:(f== -1)=false:=by simp[o]
 have p:=WF l x f v ks;simp only[cr,ao,Ht]at p;cases c2:i_ l f v ks.length with
 |true=>
  have c:T.form l (.node f v ks)=false:=by simp[T.form,o,c2]
  rw[c];rw[c2]at p;simp[pr,w];rw[p];simp
 |false=>
  have u:dz l f=true:=by
   unfold i_ at c2
   by_cases h:dz l f=true
   ·exact h
   ·rw[aC h]at c2;simp at c2
  rw[Kw l f v ks o c2];rw[c2]at p;have h:=bG (X:=XV) (T:=XV.lin 83) (L:=1) (live:=[0,3,5]) (b:=vm) (n:=ks.length) (γ:=Nat) (st:=fun(_:Unit) i=>⟨[(0,.d (sg l)),(3,.ptr 0 0),(5,aa i)],cr f v ks⟩) (step:=bH fun i=> !T.form l (ai ks i)||dh l f ks i)
   (F:=fun _=>(.exit 0,⟨[(0,.d (sg l)),(3,.ptr 0 0),(5,aa ks.length),(69,au false)],cr f v ks⟩)) (R:=fun j=>(.ret,⟨[(4,au false)],cr f v ks⟩))
   (fun a=>⟨by simp,by simp[vm,cr]⟩)
   (fun a i hi=>by
    have y:=aV (n:=i) (by omega);have g:=RV l x f v ks u i hi C q (k _ (bM hi));unfold bH;simp only[cr,ao,Ht]at g
    by_cases m:(!T.form l (ai ks i)||dh l f ks i)=true
    ·rw[ay m]
     rw[m]at g;refine⟨by simp,?_⟩;simp[vm,hi,cr];rw[g];simp
    ·rw[aC m]
     have t:(!T.form l (ai ks i)||dh l f ks i)=false:=by simpa using m
     rw[t]at g;refine⟨⟨[(0,.d (sg l)),(3,.ptr 0 0),(5,aa (i+1:Nat))],cr f v ks⟩,?_,by simp[aA,aB,cr]⟩;simp[vm,hi,cr];rw[g];simp[y])
   ks.length () 0 ⟨[(0,.d (sg l)),(3,.ptr 0 0),(5,aa 0)],cr f v ks⟩ (by omega) (by simp[aA,aB,cr])
  rw[cU]at h;simp only[cr,ao,Ht]at h;simp[pr,w];rw[p];simp;rw[h];cases m:aR (fun i=> !T.form l (ai ks i)||dh l f ks i) ks.length 0<;>simp[Ng]
theorem NH(l:aD)(e:l.length<=1099511627776)(t:T)(c:t.inner<=1099511627776):aj XV 83 [.d (sg l),.d (t.enc .sub)] []=some (au (T.form l t),[]):=by
 match t,c with
 | .node f v ks,c=>simp only[T.inner]at c;exact QJ l e f v ks (by omega) (fun s s' h h'=>H3 s s' (by have:=T.qaD h;omega) (by have:=T.qaD h';omega)) (fun s h=>NH l e s (by have:=T.qaD h;omega))
termination_by t
decreasing_by
 simp_wf
 have:=ed h;omega
mutual
theorem IQ:∀t:T,T.sum (fun _=>1) t=t.inner+1
 | .node f v ks=>by simp only[T.sum,T.inner];rw[OJ ks];push_cast;omega
theorem OJ:∀l:ah,T.sums (fun _=>1) l=T.inners l+l.length
 | []=>by simp[T.sums,T.inners]
 |t::r=>by simp only[T.sums,T.inners,c7];rw[IQ t,OJ r];push_cast;omega
end
theorem Nx(t:T)(c:t.inner<=1099511627776):IntKind.i64.wrap (T.sum (fun _=>1) t)=(t.inner+1:Nat):=by rw[IQ];exact Dt (n:=t.inner+1) (by omega)
def cq(l:aD)(t:T):Bool:=qg l&&(decide (t.inner+1<=60)&&T.form l t)
theorem FM(l:aD)(k:l.length<=1099511627776)(p:∀i,i<l.length->(aX l i).name.size<=1099511627776)(t:T)(g:t.inner<=1099511627776):aj XV 70 [.d (sg l),.d (t.enc .sub)] []=some (au (cq l t),[]):=by
 rw[aK 70 tZ rfl];have e:=Wl l k p;have h:=qt7 t g;rw[Nx t g]at h;have o:=Lv l k t g;unfold cq;cases c1:qg l with
 |false=>rw[c1]at e;simp[tZ,e]
 |true=>
  rw[c1]at e
  by_cases m:t.inner+1<=60
  ·have c:(((t.inner+1:Nat):Int))<=60:=by omega
   simp only[qt,dC]at c;simp[tZ,e,h,o,m,c]
  ·have c:¬(((t.inner+1:Nat):Int))<=60:=by omega
   simp only[qt,dC]at c;simp[tZ,e,h,m,c]
theorem EL(l:aD)(k:l.length<=1099511627776)(p:∀i,i<l.length->(aX l i).name.size<=1099511627776)(t:T)(g:t.inner<=1099511627776):aj XV 80 [.d (sg l),.d (t.enc .sub)] []=some (au (cq l t),[]):=by
 rw[aK 80 ud rfl];have e:=qsN l k p;have h:=Md t g;rw[Nx t g]at h;have o:=NH l k t g;unfold cq;cases c1:qg l with
 |false=>rw[c1]at e;simp[ud,e]
 |true=>
  rw[c1]at e
  by_cases m:t.inner+1<=60
  ·have c:(((t.inner+1:Nat):Int))<=60:=by omega
   simp only[qt,dC]at c;simp[ud,e,h,o,m,c]
  ·have c:¬(((t.inner+1:Nat):Int))<=60:=by omega
   simp only[qt,dC]at c;simp[ud,e,h,m,c]
structure Bd where
 v:Int
 t:T
abbrev ydL:=List (Option (List Bd))
abbrev ydK:=Option (List Bd)
abbrev ydz:=List (List Bd)
abbrev aF:=List Bd
def Bd.enc(g:Tag)(b:Bd):DV:= .agg [.int .i64 b.v,.int .i64 b.t.f,.int .i64 b.t.v,ao g b.t.kids]
def Bd.ok(b:Bd):Prop:=(-9223372036854775808<=b.v/\b.v<=9223372036854775807)/\b.t.ok
abbrev binds(g:Tag)(l:aF):DV:= .sl g (l.map (Bd.enc g))
@[simp] theorem Bd.qfk(g:Tag)(x:Bd):(x.enc g).cells=[.int .i64 x.v,.int .i64 x.t.f,.int .i64 x.t.v,ao g x.t.kids]:=rfl
@[simp] theorem Bd.qkQ(g:Tag)(x:Bd):(AV.d (x.enc g)).cells=[aa x.v,aa x.t.f,aa x.t.v,.d (ao g x.t.kids)]:=rfl
@[simp] theorem Bd.qkO(g:Tag)(x:Bd):(x.enc g).isCell=false:=rfl
@[simp] theorem Bd.q3w(g:Tag)(x:Bd):isAgg (x.enc g)=true:=rfl
@[simp] theorem Bd.qfj(g:Tag)(x:Bd):(x.enc g).clr=x.enc .sub:=by simp only[Bd.enc,DV.clr,DV.clrs,ao,DV.qay,mg]
@[simp high] theorem Bd.qgQ(g:Tag)(l:aF):(l.map (Bd.enc g)).map DV.clr=l.map (Bd.enc .sub):=by simp[eX,mf]
@[simp] theorem Bd.agg_enc(g:Tag)(x:Bd):DV.agg [.int .i64 x.v,.int .i64 x.t.f,.int .i64 x.t.v,ao g x.t.kids]=x.enc g:=rfl
def aQ(l:aF)(i:Nat):Bd:=(l[i]?).getD ⟨0,.node 0 0 []⟩
theorem df{l:aF}(h:i<l.length):l[i]=aQ l i:=by simp[aQ,h]
theorem iK{l:aF}(h:i<l.length):aQ l i∈l:=by rw[<-df h];exact gB h
def cnt(t:T)(v:Int):Int:=IntKind.i64.wrap (T.sum (wC v) t)
def MN(b:Bd):aG:=[aa b.v,aa b.t.f,aa b.t.v,.d (ao .sub b.t.kids)]
theorem Ln(l:aF)(c:Nat)(caps:aG)(B:az)(P:Bd->Bool)(r:l.length<=1099511627776)(o:AV.safe.safes B.length caps=true)(g:caps.map AV.clr=caps)(m:¬0∈XV.lin c)
 (q:∀s,s∈l->aj XV c (.d (s.enc .sub)::caps) B=some (au (P s),B)):
 aj XV 76 [.d (binds .sub l),.fn c caps] B=some (aa (bC (aR (fun i=>P (aQ l i)) l.length 0)),B):=by
 rw[aK 76 z_ rfl];have h:=bG (X:=XV) (T:=XV.lin 76) (L:=B.length) (live:=[0,1,7,8]) (b:=ym) (n:=l.length) (st:=fun(_:Unit) i=>⟨[(0,.d (binds .sub l)),(1,.fn c caps),(7,aa l.length),(8,aa i)],B⟩) (step:=bH fun i=>P (aQ l i))
  (F:=fun _=>(.exit 0,⟨[(0,.d (binds .sub l)),(1,.fn c caps),(7,aa l.length),(8,aa l.length),(9,au false)],B⟩)) (R:=fun(j:Nat)=>(.ret,⟨[(4,aa j)],B⟩))
  (fun a=>⟨by simp,by simp[ym]⟩)
  (fun a i hi=>by
   have p:=aV (n:=i) (by omega);have hc:=q _ (iK hi);unfold bH
   by_cases e:P (aQ l i)=true
   ·rw[ay e];rw[e]at hc
    exact⟨by simp,by simp[ym,hi,cut,df hi,hc,g,m]⟩
   ·rw[aC e]
    have k:P (aQ l i)=false:=by simpa using e
    rw[k]at hc;exact⟨_,by simp[ym,hi,p,cut,df hi,hc,g,m];rfl,by simp[aA,aB,o]⟩)
  l.length () 0 ⟨[(0,.d (binds .sub l)),(1,.fn c caps),(7,aa l.length),(8,aa 0)],B⟩ (by omega) (by simp[aA,aB,o])
 rw[cU]at h;simp only[q2e]at h;simp[z_];rw[h];cases e:aR (fun i=>P (aQ l i)) l.length 0<;>simp[bC]
theorem Mf(l:aF)(e:Nat)(caps:aG)(B:az)(P:Bd->Bool)(o:l.length<=1099511627776)(k:AV.safe.safes B.length caps=true)(c:caps.map AV.clr=caps)(g:¬0∈XV.lin e)
 (m:∀s,s∈l->aj XV e (.d (s.enc .sub)::caps) B=some (au (P s),B)):
 aj XV 72 [.d (binds .sub l),.fn e caps] B=some (au (aR (fun i=>P (aQ l i)) l.length 0).isSome,B):=by
 rw[aK 72 wW rfl];have h:=Ln l e caps B P o k c g m;cases hq:aR (fun i=>P (aQ l i)) l.length 0 with
 |none=>rw[hq]at h;simp[wW,h,bC,c]
 |some j=>rw[hq]at h;simp[wW,h,bC,c]
mutual
theorem yC:∀a b:T,T.cmp a b= -(T.cmp b a)
 | .node f v ks,.node d v' c=>by
  have h:=Nj ks c;simp only[T.cmp]
  repeat' split
  all_goals first|omega|exact h
theorem Nj:∀a b:ah,T.cmps a b= -(T.cmps b a)
 | [],[]=>rfl
 | [],_::_=>rfl
 |_::_,[]=>rfl
 |x::xs,y::c=>by
  have d:=yC x y;have e:=Nj xs c;simp only[T.cmps]
  repeat' split
  all_goals omega
end
mutual
theorem tU:∀a b:T,T.cmp a b=0->a=b
 | .node f v ks,.node d v' c,h=>by
  simp only[T.cmp]at h
  repeat' split at h
  all_goals first|omega|skip
  have e:=KE ks c (by omega) h;have k:f=d:=by omega
  have g:v=v':=by omega
  rw[e,k,g]
theorem KE:∀a b:ah,a.length=b.length->T.cmps a b=0->a=b
 | [],[],_,_=>rfl
 | [],_::_,h,_=>by simp at h
 |_::_,[],h,_=>by simp at h
 |x::xs,y::c,d,h=>by
  simp only[T.cmps]at h;split at h
  ·omega
  ·rename_i e
   rw[tU x y (by omega),KE xs c (by simpa using d) h]
end
mutual
theorem Pb:∀a b c:T,T.cmp a b<0->T.cmp b c<0->T.cmp a c<0
 | .node f v ks,.node o v' e,.node f2 m g,k,d=>by
  simp only[T.cmp]at k d⊢
  by_cases x:f<o
  ·have:o<=f2:=by
    apply Classical.byContradiction;intro h
    rw[aC (by omega),ay (by omega)]at d;omega
   rw[ay (by omega)];omega
  ·have s:f=o:=by
    apply Classical.byContradiction;intro h
    rw[aC x,ay (by omega)]at k;omega
   subst s
   by_cases t:f<f2
   ·rw[ay t];omega
   ·have r:f=f2:=by
     apply Classical.byContradiction;intro h
     rw[aC t,ay (by omega)]at d;omega
    subst r;simp only[Int.lt_irrefl,gt_iff_lt,if_false]at k d⊢
    by_cases e3:v<v'
    ·have:v'<=m:=by
      apply Classical.byContradiction;intro h
      rw[aC (by omega),ay (by omega)]at d;omega
     rw[ay (by omega)];omega
    ·have qQ:v=v':=by
      apply Classical.byContradiction;intro h
      rw[aC e3,ay (by omega)]at k;omega
     subst qQ
     by_cases u:v<m
     ·rw[ay u];omega
     ·have q:v=m:=by
       apply Classical.byContradiction;intro h
       rw[aC u,ay (by omega)]at d;omega
      subst q;simp only[Int.lt_irrefl,gt_iff_lt,if_false]at k d⊢
      by_cases z:ks.length<e.length
      ·have:e.length<=g.length:=by
        apply Classical.byContradiction;intro h
        rw[aC (by omega),ay (by omega)]at d;omega
       rw[ay (by omega)];omega
      ·have p:ks.length=e.length:=by
        apply Classical.byContradiction;intro h
        rw[aC z,ay (by omega)]at k;omega
       by_cases y:ks.length<g.length
       ·rw[ay y];omega
       ·have w:ks.length=g.length:=by
         apply Classical.byContradiction;intro h
         rw[aC (by omega),ay (by omega)]at d;omega
        rw[aC (by omega),aC (by omega)]at k d⊢
        exact Ke ks e g p (by omega) k d
theorem Ke:∀a b c:ah,a.length=b.length->b.length=c.length->T.cmps a b<0->T.cmps b c<0->T.cmps a c<0
 | [],[],_,_,_,h,_=>by simp[T.cmps]at h
 | [],_::_,_,h,_,_,_=>by simp at h
 |_::_,[],_,h,_,_,_=>by simp at h
 |x::xs,y::m,[],_,h,_,_=>by simp at h
 |x::xs,y::m,z::q,s,r,e,d=>by
  simp only[T.cmps]at e d⊢
  have t1:=Pb x y z
  by_cases k:T.cmp x y=0
  ·have:=tU x y k
   subst this
   by_cases g:T.cmp x z=0
   ·simp only[k,g,eg,sR,if_false]at e d⊢
    exact Ke xs m q (by simpa using s) (by simpa using r) e d
   ·simp only[g,eg,mq,if_true]at d⊢
    exact d
  ·simp only[k,eg,mq,if_true]at e
   by_cases g:T.cmp y z=0
   ·have:=tU y z g
    subst this;simp only[k,eg,mq,if_true];exact e
   ·simp only[g,eg,mq,if_true]at d
    have p:=t1 e d;have o:T.cmp x z≠0:=by omega
    simp only[o,eg,mq,if_true];exact p
end
def cZ(a b:T):Prop:=T.cmp a b<=0
theorem LE(a:T):cZ a a:=by have:=yC a a;unfold cZ;omega
variable{a b:T}
theorem vI{c:T}(e:cZ a b)(g:cZ b c):cZ a c:=by
 unfold cZ at*
 by_cases h:T.cmp a b=0
 ·rw[tU a b h];exact g
 by_cases d:T.cmp b c=0
 ·rw[<-tU b c d];exact e
 have:=Pb a b c (by omega) (by omega);omega
theorem SR(c:cZ a b)(d:cZ b a):a=b:=by
 have:=yC a b;unfold cZ at*
 exact tU a b (by omega)
theorem si(h:¬T.cmp a b<0):cZ b a:=by have:=yC a b;unfold cZ;omega
theorem rQ(h:T.cmp a b<0):cZ a b:=by unfold cZ;omega
def b0(l:ah):Prop:=l.Pairwise cZ
theorem qMN{a b:ah}(c:b0 a)(d:b0 b)(h:a.Perm b):a=b:=List.Perm.eq_of_pairwise (fun _ _ _ _=>SR) c d h
def kC(u w:aF)(i:Nat):Bool:= !((aQ u i).v==(aQ w i).v&&T.cmp (aQ u i).t (aQ w i).t==0)
def jc(u w:aF):Bool:=decide (u.length=w.length)&&(aR (kC u w) u.length 0).isNone
theorem q4i(t:T):DV.agg [.int .i64 t.f,.int .i64 t.v,ao .sub t.kids]=t.enc .sub:=by rw[T.qb8]
mutual
theorem T.qLq(g:Tag)(c:g≠.nil):∀t:T,(t.enc g).sh=t.enc .sub
 | .node f v ks=>by have:=T.qLp g c ks;simp only[T.enc,DV.sh,DV.shs,aC c,this]
theorem T.qLp(g:Tag)(c:g≠.nil):∀ts:ah,DV.shs (T.encs g ts)=T.encs .sub ts
 | []=>by simp[T.encs,DV.shs]
 |t::ts=>by simp only[T.encs,DV.shs,T.qLq g c t,T.qLp g c ts]
end
theorem F0(g:Tag)(c:g≠.nil)(ts:ah):(ts.map (T.enc g)).map DV.sh=ts.map (T.enc .sub):=by rw[eX];exact yY fun t _=>T.qLq g c t
theorem OO(g:Tag)(t:T):ki (t.enc g)=true:=by cases t;rfl
theorem qBi(g:Tag)(c:g≠.nil)(ts:ah)(i:Nat)(B:az)(hi:i<ts.length)(k:ts.length<=1099511627776):
 aj XV 284 [.d (ao g ts),aa i] B=some (.d (ao .sub (ts.take i++ts.drop (i+1))),B):=by
 rw[vk XV 284 _ _ lJ rfl];have e:(ts.map (T.enc g)).all ki=true:=by
  rw[cm];intro x hx
  obtain⟨t,_,rfl⟩:=cC.1 hx;exact OO g t
 have h:(0:Int)<=i/\(i:Int)<(ts.map (T.enc g)).length/\(ts.map (T.enc g)).length*40<=140737488355328:=by rw[cT];omega
 simp only[bd,b9,bO,lJ,ao];rw[ay ⟨e,h⟩];simp only[tI,<-List.map_take,<-List.map_drop,<-List.map_append,F0 g c,b9,bO]
structure Gl where
 many:Bool
 f:Int
 ps:ah
 ts:ah
def Gl.enc(g:Tag)(x:Gl):DV:= .agg [.bool x.many,.int .i64 x.f,ao g x.ps,ao g x.ts]
theorem My(l:ah)(c:Nat)(caps:aG)(B:az)(P:T->Bool)(r:l.length<=1099511627776)(o:AV.safe.safes B.length caps=true)(g:caps.map AV.clr=caps)(m:¬0∈XV.lin c)
 (q:∀s,s∈l->aj XV c (.d (s.enc .sub)::caps) B=some (au (P s),B)):
 aj XV 281 [.d (ao .sub l),.fn c caps] B=some (aa (bC (aR (fun i=>P (ai l i)) l.length 0)),B):=by
 rw[aK 281 Dl rfl];have h:=bG (X:=XV) (T:=XV.lin 281) (L:=B.length) (live:=[0,1,7,8]) (b:=wO) (n:=l.length) (st:=fun(_:Unit) i=>⟨[(0,.d (ao .sub l)),(1,.fn c caps),(7,aa l.length),(8,aa i)],B⟩) (step:=bH fun i=>P (ai l i))
  (F:=fun _=>(.exit 0,⟨[(0,.d (ao .sub l)),(1,.fn c caps),(7,aa l.length),(8,aa l.length),(9,au false)],B⟩)) (R:=fun(j:Nat)=>(.ret,⟨[(4,aa j)],B⟩))
  (fun a=>⟨by simp,by simp[wO]⟩)
  (fun a i hi=>by
   have p:=aV (n:=i) (by omega);have hc:=q _ (bM hi);unfold bH
   by_cases e:P (ai l i)=true
   ·rw[ay e];rw[e]at hc
    exact⟨by simp,by simp[wO,hi,cut,aZ hi,hc,g,m]⟩
   ·rw[aC e]
    have k:P (ai l i)=false:=by simpa using e
    rw[k]at hc;exact⟨_,by simp[wO,hi,p,cut,aZ hi,hc,g,m];rfl,by simp[aA,aB,o]⟩)
  l.length () 0 ⟨[(0,.d (ao .sub l)),(1,.fn c caps),(7,aa l.length),(8,aa 0)],B⟩ (by omega) (by simp[aA,aB,o])
 rw[cU]at h;simp only[qUF]at h;simp[Dl];rw[h];cases e:aR (fun i=>P (ai l i)) l.length 0<;>simp[bC]
theorem Ti(x:T)(f v:Int)(ks:ah)(hx:x.inner<=1099511627776)(c:(T.node f v ks).inner<=1099511627776):
 aj XV 283 [.d (x.enc .sub),.ptr 0 0] [some [aa f,aa v,.d (ao .sub ks)]]=some (au (T.cmp x (.node f v ks)==0),[some [aa f,aa v,.d (ao .sub ks)]]):=by
 rw[aK 283 DC rfl];have h:=same_eq x (.node f v ks) hx c;obtain⟨g,v',e⟩:=x;simp[DC,h]
def dM(l:ah)(t:T)(i:Nat):Bool:=T.cmp (ai l i) t==0
def kr(l:ah)(j:Nat):ah:=l.take j++l.drop (j+1)
def takeN:ah->ah->ah⊕T
 |l,[]=> .inl l
 |l,t::ts=>match aR (dM l t) l.length 0 with
  |none=> .inr t
  |some j=>takeN (kr l j) ts
def Cc(ts:ah)(l:ah)(i:Nat):ah⊕T:=
 match aR (dM l (ai ts i)) l.length 0 with
 |some j=> .inl (kr l j)
 |none=> .inr (ai ts i)
theorem Oj(ts:ah):∀(k i:Nat) (l:ah),i+k=ts.length->runN (Cc ts) k l i=takeN l (ts.drop i)
 |0,i,l,h=>by have d:ts.drop i=[]:=oS (by omega);simp[runN,d,takeN]
 |k+1,i,l,h=>by
  have c:i<ts.length:=by omega
  rw[dS c,aZ c];simp only[runN,Cc,takeN];cases aR (dM l (ai ts i)) l.length 0 with
  |none=>rfl
  |some j=>exact Oj ts k (i+1) _ (by omega)
variable{j:Nat}
theorem AF{x:T}(h:x∈kr l j):x∈l:=by
 unfold kr at h;rcases bw.1 h with h|h
 ·exact pT h
 ·exact O4 h
theorem Ed:(kr l j).length<=l.length:=by unfold kr;simp;omega
theorem qMH(l ts:ah)(t:l.length<=1099511627776)(y:ts.length<=1099511627776)(w:∀x,x∈l->x.inner<=1099511627776)(bt:∀x,x∈ts->x.inner<=1099511627776):
 aj XV 282 [.d (ao .sub l),.d (ao .sub ts)] []=some (match takeN l ts with| .inl r=> .d (.tup [ao .sub r,.bool true])| .inr _=> .d (.tup [.sl U [],.bool false]),[]):=by
 rw[aK 282 Dy rfl];have h:=ey (X:=XV) (T:=XV.lin 282) (L:=0) (live:=[0,9,10,11]) (b:=u9) (n:=ts.length) (γ:=T) (st:=fun(r:ah) i=>⟨[(0,.d (ao .sub r)),(9,.d (ao .sub ts)),(10,aa ts.length),(11,aa i)],[]⟩) (step:=Cc ts)
  (F:=fun r=>(.exit 0,⟨[(0,.d (ao .sub r)),(9,.d (ao .sub ts)),(10,aa ts.length),(11,aa ts.length),(12,au false)],[]⟩)) (R:=fun q=>(.ret,⟨[(4,.d (.sl U [])),(5,au false)],[some [aa q.f,aa q.v,.d (ao .sub q.kids)]]⟩))
  (fun r _=>r.length<=1099511627776/\∀x,x∈r->x.inner<=1099511627776)
  (fun a _=>⟨by simp,by simp[u9]⟩)
  (fun a i hi c=>by
   have s:=aV (n:=i) (by omega);obtain⟨g,p⟩:=c;have u:=bt _ (bM hi);generalize m:ai ts i=q at*
   obtain⟨f,v,ks⟩:=q;have hc:=My a 283 [.ptr 0 0] [some [aa f,aa v,.d (ao .sub ks)]] (fun x=>T.cmp x (.node f v ks)==0) g (by simp) (by simp) (by simp) (fun x hx=>Ti x f v ks (p x hx) u);have k:(fun j=>T.cmp (ai a j) (.node f v ks)==0)=dM a (.node f v ks):=rfl;rw[k]at hc;unfold Cc;rw[m];cases hfa:aR (dM a (.node f v ks)) a.length 0 with
   |none=>rw[hfa]at hc;exact⟨⟨by simp,by simp[u9,hi,cut,aZ hi,m,hc,bC,splice]⟩,fun a' h=>by simp at h⟩
   |some j=>
    rw[hfa]at hc;obtain⟨_,z,_⟩:=dy _ _ _ _ hfa;have e:¬((j:Int)<0):=by omega
    have o:=qBi .sub (by simp) a j [] (by omega) g;refine⟨⟨_,by simp[u9,hi,s,cut,aZ hi,m,hc,bC,o,splice,e];rfl,by simp[aA,aB,kr]⟩,fun a' h=> ?_⟩;simp only[j5]at h;subst h;exact⟨eG Ed g,fun x hx=>p x (AF hx)⟩)
  ts.length l 0 ⟨[(0,.d (ao .sub l)),(9,.d (ao .sub ts)),(10,aa ts.length),(11,aa 0)],[]⟩ (by omega) ⟨t,w⟩ (by simp[aA,aB])
 rw[Oj ts _ _ _ (by omega)]at h;simp only[qUE,eQ]at h;simp[Dy];rw[h];cases takeN l ts<;>simp
abbrev is(l:ax):DV:= .sl .sub (l.map (.int .i64))
def aE(l:ax)(i:Nat):Int:=(l[i]?).getD 0
theorem bR{l:ax}(h:i<l.length):l[i]=aE l i:=by simp[aE,h]
theorem NM(l:ax):∀x:DV,x∈l.map (.int .i64)->wc false 1 x:=by intro x hx;simp only[cC]at hx;obtain⟨n,_,rfl⟩:=hx;exact⟨rfl,rfl,fun h=>by simp at h,by simp⟩
@[simp high] theorem q3f(l:ax):(l.map (DV.int .i64)).map DV.clr=l.map (DV.int .i64):=by simp[eX,mf]
end Go.Proofs.YtpcoohnjllclnaaGreat.VS
