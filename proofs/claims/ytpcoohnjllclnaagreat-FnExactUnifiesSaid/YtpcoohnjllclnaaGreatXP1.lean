/- Contracts of the program's functions on the evaluator without names, and plain lemmas: part 1. -/
import Derived.Test.YtpcoohnjllclnaaGreatLin
set_option linter.unusedSimpArgs false
set_option linter.unusedVariables false
namespace Go.Proofs.YtpcoohnjllclnaaGreat.VS
inductive T where
 |node (f v:Int) (kids:List T)
 deriving Inhabited
abbrev ah:=List T
def T.f:T->Int| .node f _ _=>f
def T.v:T->Int| .node _ v _=>v
def T.kids:T->ah| .node _ _ k=>k
mutual
def T.enc(g:Tag):T->DV
 | .node f v ks=> .agg [.int .i64 f,.int .i64 v,.sl g (T.encs g ks)]
def T.encs(g:Tag):ah->aw
 | []=>[]
 |t::r=>t.enc g::T.encs g r
end
theorem T.qeH(g:Tag):∀l:ah,T.encs g l=l.map (T.enc g)
 | []=>by unfold T.encs;rfl
 |t::r=>by unfold T.encs;simp[T.qeH g r]
abbrev ao(g:Tag)(l:ah):DV:= .sl g (l.map (T.enc g))
theorem T.qb5(g:Tag)(t:T):t.enc g= .agg [.int .i64 t.f,.int .i64 t.v,ao g t.kids]:=by cases t;simp[T.enc,T.qeH,ao,T.f,T.v,T.kids]
@[simp] theorem agg_enc(g:Tag)(f v:Int)(ks:ah):DV.agg [.int .i64 f,.int .i64 v,ao g ks]=(T.node f v ks).enc g:=by simp[T.enc,T.qeH,ao]
@[simp] theorem T.eta(t:T):T.node t.f t.v t.kids=t:=by cases t;rfl
@[simp] theorem T.qaO(f v:Int)(k:ah):(T.node f v k).f=f:=rfl
@[simp] theorem T.qbx(f v:Int)(k:ah):(T.node f v k).v=v:=rfl
@[simp] theorem T.qav(f v:Int)(k:ah):(T.node f v k).kids=k:=rfl
@[simp] theorem T.qfd(g:Tag)(t:T):(t.enc g).cells=[.int .i64 t.f,.int .i64 t.v,ao g t.kids]:=by rw[T.qb5];rfl
@[simp] theorem T.qkJ(g:Tag)(t:T):(AV.d (t.enc g)).cells=[aa t.f,aa t.v,.d (ao g t.kids)]:=by rw[T.qb5];rfl
@[simp] theorem T.qkH(g:Tag)(t:T):(t.enc g).isCell=false:=by rw[T.qb5];rfl
mutual
theorem T.qfc(g:Tag):∀t:T,(t.enc g).clr=t.enc .sub
 | .node f v ks=>by simp only[T.enc,DV.clr,DV.clrs,T.qgK g ks]
theorem T.qgK(g:Tag):∀l:ah,DV.clrs (T.encs g l)=T.encs .sub l
 | []=>by simp only[T.encs,DV.clrs]
 |t::r=>by simp only[T.encs,DV.clrs,T.qfc g t,T.qgK g r]
end
attribute [simp] T.qfc
@[simp high] theorem mg(g:Tag)(l:ah):(l.map (T.enc g)).map DV.clr=l.map (T.enc .sub):=by rw[<-T.qeH,<-T.qeH,<-DV.qay,T.qgK]
def ai(l:ah)(i:Nat):T:=(l[i]?).getD (.node 0 0 [])
variable{i:Nat}{l:ah}
theorem a5(h:i<l.length):l[i]=ai l i:=by simp[ai,h]
theorem bL(h:i<l.length):ai l i∈l:=by rw[<-a5 h];exact gY h
theorem O2(h:i<l.length):l[i]?=some (ai l i):=by simp[ai,h]
@[simp] theorem qXP(g:Tag)(h:i<l.length):(l.map (T.enc g))[i]?=some ((ai l i).enc g):=by simp[O2 h]
mutual
def T.inner:T->Nat
 | .node _ _ ks=>ks.length+T.inners ks
def T.inners:ah->Nat
 | []=>0
 |t::r=>t.inner+T.inners r
end
def leftOf(left:Int)(n:Nat):Int:=if left-n<0 then-1 else left-n
def stepT(l:ah)(left:Int)(i:Nat):Int⊕Unit:=if left-(ai l i).inner<0 then .inr ()else .inl (left-(ai l i).inner)
theorem runT(l:ah):∀(k i:Nat) (left:Int),i+k=l.length->0<=left->runN (stepT l) k left i=if left-T.inners (l.drop i)<0 then .inr ()else .inl (left-T.inners (l.drop i))
 |0,i,left,h,g=>by
  have:l.drop i=[]:=pu (by omega);have d:¬left<0:=by omega
  simp[runN,this,T.inners,d]
 |k+1,i,left,h,g=>by
  have c:i<l.length:=by omega
  have p:T.inners (l.drop i)=(ai l i).inner+T.inners (l.drop (i+1)):=by rw[dV c,a5 c];simp only[T.inners]
  rw[p];generalize r:T.inners (l.drop (i+1))=m;have o:=fun left g=>runT l k (i+1) left (by omega) g
  rw[r]at o;simp only[runN,stepT]
  by_cases d:left-(ai l i).inner<0
  ·have q:left-((ai l i).inner+m:Nat)<0:=by omega
   simp only[d,q,if_true]
  ·simp only[d,if_false]
   rw[o _ (by omega)];have e:left-(ai l i).inner-(m:Int)=left-((ai l i).inner+m:Nat):=by omega
   rw[e]
def num(n:Int):AV:= aa n
theorem SN(l:ah)(left:Int)(q:l.length<=maxLen)(u:0<=left)(s:left<=1099511627776)
 (hc:∀t,t∈l->∀left,0<=left->left<=1099511627776->ak XV 1 [.d (t.enc .sub),aa left] []=some (aa (leftOf left t.inner),[])):
 ak XV 9 [.d (ao .sub l),aa left] []=some (aa (leftOf left (l.length+T.inners l)),[]):=by
 rw[aL 9 v9 rfl];have o:IntKind.i64.wrap (left-l.length)=left-l.length:=wrap_i64 (by unfold maxLen at q;omega) (by omega)
 by_cases h:left-l.length<0
 ·have m:leftOf left (l.length+T.inners l)= -1:=by unfold leftOf;rw[ay (by omega)]
  simp[v9,o,h,m]
 ·have c:=eu (X:=XV) (T:=[]) (L:=0) (live:=[0,1,5]) (b:=uQ) (n:=l.length) (γ:=Unit) (st:=fun(left:Int) i=>⟨[(0,.d (ao .sub l)),(1,aa left),(5,aa i)],[]⟩) (step:=stepT l)
   (F:=fun left=>(.exit 0,⟨[(0,.d (ao .sub l)),(1,aa left),(5,aa l.length),(15,au false)],[]⟩)) (R:=fun _=>(.ret,⟨[(4,aa (-1))],[]⟩))
   (fun left _=>0<=left/\left<=1099511627776)
   (fun left _=>⟨by simp,by simp[uQ]⟩)
   (fun left i hi g=>by
    have o:=aV (n:=i) (by unfold maxLen at q;omega);have e:=hc _ (bL hi) left g.1 g.2;unfold stepT
    by_cases m:left-(ai l i).inner<0
    ·have k:leftOf left (ai l i).inner= -1:=by unfold leftOf;rw[ay m]
     rw[k]at e;simp only[m,if_true];refine⟨⟨by simp,?_⟩,fun a' h=>by simp at h⟩;simp[uQ,hi,cut,a5 hi,e]
    ·have k:leftOf left (ai l i).inner=left-(ai l i).inner:=by unfold leftOf;rw[aD m]
     rw[k]at e;simp only[m,if_false];refine⟨⟨_,by simp[uQ,hi,o,cut,a5 hi,e,m];rfl,by simp[aA,aB]⟩,fun a' h=>by simp at h;subst h;exact⟨by omega,by omega⟩⟩)
   l.length (left-l.length) 0 ⟨[(0,.d (ao .sub l)),(1,aa (left-l.length)),(5,aa 0)],[]⟩ (by omega) ⟨by omega,by omega⟩ (by simp[aA,aB])
  rw[runT l _ _ _ (by omega) (by omega),eM]at c;simp[v9,o,h];rw[c]
  by_cases r:left-l.length-T.inners l<0
  ·have p:leftOf left (l.length+T.inners l)= -1:=by unfold leftOf;rw[ay (by omega)]
   simp[r,p]
  ·have p:leftOf left (l.length+T.inners l)=left-l.length-T.inners l:=by unfold leftOf;rw[aD (by omega)];omega
   simp[r,p,JN]
mutual
def T.ok:T->Prop
 | .node _ _ ks=>ks.length<=maxLen/\T.oks ks
def T.oks:ah->Prop
 | []=>True
 |t::r=>t.ok/\T.oks r
end
theorem T.qr1:∀l:ah,T.oks l↔∀t,t∈l->t.ok
 | []=>by simp[T.oks]
 |t::r=>by simp[T.oks,T.qr1 r]
theorem F8(t:T)(left:Int)(c:t.ok)(g:0<=left)(e:left<=1099511627776):ak XV 1 [.d (t.enc .sub),aa left] []=some (aa (leftOf left t.inner),[]):=by
 match t,c with
 | .node f v ks,c=>
  simp only[T.ok]at c;have hc:=SN ks left c.1 g e (fun s m left g e=>F8 s left ((T.qr1 ks).1 c.2 s m) g e);rw[aL 1 v1 rfl];have hi:(T.node f v ks).inner=ks.length+T.inners ks:=by simp[T.inner]
  rw[hi]
  by_cases h:left-(ks.length+T.inners ks:Nat)<0
  ·have k:leftOf left (ks.length+T.inners ks)= -1:=by unfold leftOf;rw[ay h]
   rw[k]at hc⊢
   simp[v1,hc]
  ·have k:leftOf left (ks.length+T.inners ks)=left-(ks.length+T.inners ks:Nat):=by unfold leftOf;rw[aD h]
   rw[k]at hc⊢
   have o:¬(left-((ks.length:Int)+T.inners ks))<0:=by omega
   simp[v1,hc,o]
termination_by t
decreasing_by
 simp_wf
 have:=d9 m;omega
theorem Hi(g:Tag)(l:ah):∀x:DV,x∈l.map (T.enc g)->xj true 3 x:=by intro x hx;simp only[cE]at hx;obtain⟨t,_,rfl⟩:=hx;exact⟨by simp,by simp[aY,a6],fun _=>⟨_,T.qb5 g t⟩,by simp⟩
theorem EP(g:Tag)(l:ah):∀x:DV,x∈l.map (T.enc g)->x.cells.length=3:=fun x hx=>(Hi g l x hx).1
def zT:DV:= .agg [.int .i64 0,.int .i64 0,.sl U []]
def jD(l:ah)(i:Nat):aH:=f7 (Go.Proofs.YtpcoohnjllclnaaGreat.VS.filled (l.map (T.enc U)) zT i)
theorem U1(l:ah)(i:Nat):(jD l i).length=l.length*3:=by unfold jD;rw[Ls (sz:=3) (Co (EP U l) rfl i),BG];simp
theorem Pf(l:ah)(i:Nat)(h:i<l.length):splice (jD l i) (i*3) [aa (ai l i).f,aa (ai l i).v,.d (ao U (ai l i).kids)]=jD l (i+1):=by have c:=LN (sz:=3) (i:=i) (es:=Go.Proofs.YtpcoohnjllclnaaGreat.VS.filled (l.map (T.enc U)) zT i) (e:=(ai l i).enc U) (Co (EP U l) rfl i) (by simp) (by rw[BG];simpa using h);have g:=IE (l.map (T.enc U)) zT i (by simpa using h);simp only[T.qfd,bF,bS]at c;unfold jD;rw[c,<-g];simp[a5 h]
theorem qE9(l:ah):jD l 0=((List.replicate l.length zT).flatMap DV.cells).map .d:=by unfold jD;rw[Jy];simp[f7,flat]
theorem ZI(l:ah):jD l l.length=f7 (l.map (T.enc U)):=by unfold jD;have:=ND (l.map (T.enc U)) zT;rw[cV]at this;rw[this]
theorem ZL(l:ah)(z:l.length<=1099511627776)(hc:∀t,t∈l->ak XV 2 [.d (t.enc .sub)] []=some (.d (t.enc U),[])):
 ak XV 8 [.d (ao .sub l)] []=some (.d (ao U l),[]):=by
 rw[aL 8 v8 rfl];have c:=bE (X:=XV) (T:=XV.lin 8) (L:=1) (live:=[0,3,4]) (b:=Bu) (n:=l.length) (γ:=Unit) (st:=fun(_:Unit) i=>⟨[(0,.d (ao .sub l)),(3,.bsl [] true 0 3 l.length),(4,aa i)],[some (jD l i)]⟩) (step:=fun _ _=> .inl ())
  (F:=fun _=>(.exit 0,⟨[(0,.d (ao .sub l)),(3,.bsl [] true 0 3 l.length),(4,aa l.length),(11,au false)],[some (jD l l.length)]⟩)) (R:=fun _=>(.ret,⟨[],[]⟩))
  (fun _=>⟨by simp,by simp[Bu]⟩)
  (fun _ i hi=>by
   have y:=aV (n:=i) (by omega);have s:=hc _ (bL hi);have p:=U1 l i;have u:i*3+3<=l.length*3:=by omega
   have h:=Pf l i hi;refine⟨_,by simp[Bu,hi,y,cut,a5 hi,s,p,u,h,aY,a6,bb,ba];rfl,by simp[aA,aB]⟩)
  l.length () 0 ⟨[(0,.d (ao .sub l)),(3,.bsl [] true 0 3 l.length),(4,aa 0)],[some (jD l 0)]⟩ (by omega) (by simp[aA,aB])
 have m:∀k i,runN (fun(_:Unit) (_:Nat)=>(Sum.inl ():Unit⊕Unit)) k () i= .inl ():=by
  intro k;induction k with
  |zero=>intro i;rfl
  |succ k x=>intro i;simp[runN,x]
 rw[m,qE9]at c;have e:=xM (l.map (T.enc U)) (Hi U l);rw[cV]at e;have w:(flat (l.map (T.enc U))).length=l.length*3:=by rw[we (EP U l)];simp
 have o:=ZI l;simp only[zT,Vo]at c;have q:l.length*40<=140737488355328:=by omega
 have r:(l.length:Int)<9223372036854775808:=by omega
 have g:l.length<9223372036854775808:=by omega
 simp[v8,isAgg,q,r];rw[c];simp[o,Ds,e,w,g]
theorem T.qaD:∀{l:ah} {t:T},t∈l->t.inner<=T.inners l
 | [],t,h=>by simp at h
 |s::r,t,h=>by
  simp only[T.inners];rcases cC.1 h with rfl|h
  ·omega
  ·have:=T.qaD h;omega
theorem EJ(t:T)(hi:t.inner<=1099511627776):ak XV 2 [.d (t.enc .sub)] []=some (.d (t.enc U),[]):=by
 match t,hi with
 | .node f v ks,hi=>simp only[T.inner]at hi;have hc:=ZL ks (by omega) (fun s c=>EJ s (by have:=T.qaD c;omega));rw[aL 2 v2 rfl];simp[v2,hc,splice,aW,AV.qay,aY,a6,bb,ba]
termination_by t
decreasing_by
 simp_wf
 have:=d9 c;omega
theorem Tl(l:ah)(o:l.length<=1099511627776)(hc:∀t,t∈l->ak XV 5 [.d (t.enc .sub),.d (t.enc .sub)] []=some (au true,[])):
 ak XV 7 [.d (ao .sub l),.d (ao .sub l)] []=some (au true,[]):=by
 rw[aL 7 v7 rfl];have c:=bE (X:=XV) (T:=[]) (L:=0) (live:=[0,1,5]) (b:=yp) (n:=l.length) (γ:=Unit) (st:=fun(_:Unit) i=>⟨[(0,.d (ao .sub l)),(1,.d (ao .sub l)),(5,aa i)],[]⟩) (step:=fun _ _=> .inl ())
  (F:=fun _=>(.exit 0,⟨[(0,.d (ao .sub l)),(1,.d (ao .sub l)),(5,aa l.length),(14,au false)],[]⟩)) (R:=fun _=>(.ret,⟨[],[]⟩))
  (fun _=>⟨by simp,by simp[yp]⟩)
  (fun _ i hi=>by have m:=aV (n:=i) (by omega);have g:=hc _ (bL hi);refine⟨_,by simp[yp,Tc,hi,m,cut,a5 hi,g];rfl,by simp[aA,aB]⟩)
  l.length () 0 ⟨[(0,.d (ao .sub l)),(1,.d (ao .sub l)),(5,aa 0)],[]⟩ (by omega) (by simp[aA,aB])
 have e:∀k i,runN (fun(_:Unit) (_:Nat)=>(Sum.inl ():Unit⊕Unit)) k () i= .inl ():=by
  intro k;induction k with
  |zero=>intro i;rfl
  |succ k h=>intro i;simp[runN,h]
 rw[e]at c;simp[v7];rw[c];simp
theorem Hz(t:T)(hi:t.inner<=1099511627776):ak XV 5 [.d (t.enc .sub),.d (t.enc .sub)] []=some (au true,[]):=by
 match t,hi with
 | .node f v ks,hi=>simp only[T.inner]at hi;have hc:=Tl ks (by omega) (fun s c=>Hz s (by have:=T.qaD c;omega));rw[aL 5 v5 rfl];simp[v5,hc]
termination_by t
decreasing_by
 simp_wf
 have:=d9 c;omega
mutual
def T.cmp:T->T->Int
 | .node f v ks,.node d v' c=>
  if f<d then-1 else if f>d then 1 else if v<v' then-1 else if v>v' then 1 else
  if ks.length<c.length then-1 else if ks.length>c.length then 1 else T.cmps ks c
def T.cmps:ah->ah->Int
 |a::as,b::bs=>if T.cmp a b≠0 then T.cmp a b else T.cmps as bs
 |_,_=>0
end
def lJ(l m:ah)(_:Unit)(i:Nat):Unit⊕Int:=if T.cmp (ai l i) (ai m i)≠0 then .inr (T.cmp (ai l i) (ai m i))else .inl ()
theorem wA(l m:ah)(e:l.length=m.length):∀(k i:Nat),i+k=l.length->runN (lJ l m) k () i=if T.cmps (l.drop i) (m.drop i)=0 then .inl ()else .inr (T.cmps (l.drop i) (m.drop i))
 |0,i,h=>by have g:l.drop i=[]:=pu (by omega);simp[runN,g,T.cmps]
 |k+1,i,h=>by
  have d:i<l.length:=by omega
  have c:i<m.length:=by omega
  rw[dV d,dV c,a5 d,a5 c];simp only[runN,lJ,T.cmps]
  by_cases hc:T.cmp (ai l i) (ai m i)=0
  ·simp only[hc,d0,sN,if_false]
   exact wA l m e k (i+1) (by omega)
  ·simp[hc]
def kT(a b c d e f:Int)(i:Nat):Int×Int:=if i=0 then(a,b)else if i=1 then(c,d)else(e,f)
def kU(a b c d e f:Int)(_:Unit)(i:Nat):Unit⊕(Int×(Int×Int)):=if(kT a b c d e f i).1<(kT a b c d e f i).2 then .inr (-1,kT a b c d e f i)else if(kT a b c d e f i).1>(kT a b c d e f i).2 then .inr (1,kT a b c d e f i)else .inl ()
def ck(f v:Int)(ks:ah)(e v':Int)(c:ah):az:=[some [aa f,aa v,.d (ao .sub ks)],some [aa e,aa v',.d (ao .sub c)]]
def jd(a b c d e f:Int):aw:=[.agg [.int .i64 a,.int .i64 b],.agg [.int .i64 c,.int .i64 d],.agg [.int .i64 e,.int .i64 f]]
theorem NI(a b c d e f:Int)(i:Nat)(hi:i<3):(jd a b c d e f)[i]?=some (.agg [.int .i64 (kT a b c d e f i).1,.int .i64 (kT a b c d e f i).2]):=by
 match i,hi with
 |0,_=>rfl
 |1,_=>rfl
 |2,_=>rfl
theorem Z5(a b c d e f:Int)(B:az)(t:B.length=2):
 bo XV [] 2 [2,3,26,27,28] iZ ⟨[(2,.ptr 0 0),(3,.ptr 1 0),(26,.d (.sl .sub (jd a b c d e f))),(27,aa 3),(28,aa 0)],B⟩=
  some (match runN (kU a b c d e f) 3 () 0 with
   | .inl _=>(.exit 0,⟨[(2,.ptr 0 0),(3,.ptr 1 0),(26,.d (.sl .sub (jd a b c d e f))),(27,aa 3),(28,aa 3),(29,au false)],B⟩)
   | .inr r=>(.ret,⟨[(4,aa r.1)],B++[some [aa r.2.1,aa r.2.2]]⟩)):=by
 obtain⟨h,g,rfl⟩:∃h g,B=[h,g]:=by
  match B,t with
  | [h,g],_=>exact⟨h,g,rfl⟩
 have key:=bE (X:=XV) (T:=[]) (L:=2) (live:=[2,3,26,27,28]) (b:=iZ) (n:=3) (γ:=Int×(Int×Int)) (st:=fun(_:Unit) i=>⟨[(2,.ptr 0 0),(3,.ptr 1 0),(26,.d (.sl .sub (jd a b c d e f))),(27,aa 3),(28,aa i)],[h,g]⟩) (step:=kU a b c d e f)
  (F:=fun _=>(.exit 0,⟨[(2,.ptr 0 0),(3,.ptr 1 0),(26,.d (.sl .sub (jd a b c d e f))),(27,aa 3),(28,aa 3),(29,au false)],[h,g]⟩)) (R:=fun r=>(.ret,⟨[(4,aa r.1)],[h,g]++[some [aa r.2.1,aa r.2.2]]⟩))
  (fun _=>⟨by simp,by simp[iZ]⟩)
  (fun _ i hi=>by
   have s:=aV (n:=i) (by omega);have k:(i:Int)<3:=by omega
   have o:=NI a b c d e f i hi;unfold kU;generalize kT a b c d e f i=q at o;obtain⟨x,y⟩:=q;simp only at o⊢
   by_cases m:x<y
   ·rw[ay m]
    refine⟨by simp,?_⟩;simp[iZ,k,o,cut,m,aY,splice,aW,bb,ba]
   ·rw[aD m]
    by_cases p:x>y
    ·rw[ay p]
     refine⟨by simp,?_⟩;simp[iZ,k,o,cut,m,p,aY,splice,aW,bb,ba]
    ·rw[aD p]
     refine⟨_,by simp[iZ,k,o,cut,m,p,s,aY,splice,aW,bb,ba];rfl,?_⟩;simp[aA,aB])
  3 () 0 ⟨[(2,.ptr 0 0),(3,.ptr 1 0),(26,.d (.sl .sub (jd a b c d e f))),(27,aa 3),(28,aa 0)],[h,g]⟩ (by omega) (by simp[aA,aB])
 rw[key];cases runN (kU a b c d e f) 3 () 0<;>rfl
theorem UL(f v:Int)(ks:ah)(g v':Int)(c:ah)(t:ks.length<=1099511627776)(k:ks.length=c.length)
 (o:∀s s',s∈ks->s'∈c->ak XV 6 [.d (s.enc .sub),.d (s'.enc .sub)] []=some (aa (T.cmp s s'),[])):
 bo XV [] 2 [2,3,47,48] lw ⟨[(2,.ptr 0 0),(3,.ptr 1 0),(47,aa ks.length),(48,aa 0)],ck f v ks g v' c⟩=
  some (if T.cmps ks c=0 then(.exit 3,⟨[(2,.ptr 0 0),(3,.ptr 1 0),(47,aa ks.length),(48,aa ks.length),(49,au false)],ck f v ks g v' c⟩)else(.ret,⟨[(4,aa (T.cmps ks c))],ck f v ks g v' c⟩)):=by
 have h:=bE (X:=XV) (T:=[]) (L:=2) (live:=[2,3,47,48]) (b:=lw) (n:=ks.length) (γ:=Int) (st:=fun(_:Unit) i=>⟨[(2,.ptr 0 0),(3,.ptr 1 0),(47,aa ks.length),(48,aa i)],ck f v ks g v' c⟩) (step:=lJ ks c)
  (F:=fun _=>(.exit 3,⟨[(2,.ptr 0 0),(3,.ptr 1 0),(47,aa ks.length),(48,aa ks.length),(49,au false)],ck f v ks g v' c⟩)) (R:=fun r=>(.ret,⟨[(4,aa r)],ck f v ks g v' c⟩))
  (fun _=>⟨by simp,by simp[lw]⟩)
  (fun _ i hi=>by
   have q:=aV (n:=i) (by omega);have e:i<c.length:=by omega
   have hc:=o _ _ (bL hi) (bL e);unfold lJ ck
   by_cases m:T.cmp (ai ks i) (ai c i)=0
   ·rw[m]at hc⊢
    simp only[d0,sN,if_false];refine⟨_,by simp[lw,C0,hi,e,q,cut,a5 hi,a5 e,hc,aW];rfl,?_⟩;simp[aA,aB]
   ·simp only[d0,m,md,if_true]
    have p:(T.cmp (ai ks i) (ai c i) !=0)=true:=by simp[m]
    refine⟨by simp,?_⟩;simp[lw,C0,hi,e,cut,a5 hi,a5 e,hc,aW,p])
  ks.length () 0 ⟨[(2,.ptr 0 0),(3,.ptr 1 0),(47,aa ks.length),(48,aa 0)],ck f v ks g v' c⟩ (by omega) (by simp[aA,aB,ck])
 rw[wA ks c k _ _ (by omega)]at h;simp only[eM]at h;rw[h]
 by_cases m:T.cmps ks c=0<;>simp[m]
def eQ(a b c d e f:Int)(r:Int):Int:=if a<b then-1 else if a>b then 1 else if c<d then-1 else if c>d then 1 else if e<f then-1 else if e>f then 1 else r
theorem N4(a b c d e f:Int):(runN (kU a b c d e f) 3 () 0= .inl ()/\a=b/\c=d/\e=f)\/∃r,runN (kU a b c d e f) 3 () 0= .inr r/\∀z,eQ a b c d e f z=r.1:=by
 simp only[runN,kU,kT,eQ]
 by_cases g:a<b
 ·right;refine⟨_,by simp[g];rfl,fun z=> ?_⟩;simp[g]
 by_cases h:a>b
 ·right;refine⟨_,by simp[g,h];rfl,fun z=> ?_⟩;simp[g,h]
 by_cases k:c<d
 ·right;refine⟨_,by simp[g,h,k];rfl,fun z=> ?_⟩;simp[g,h,k]
 by_cases m:c>d
 ·right;refine⟨_,by simp[g,h,k,m];rfl,fun z=> ?_⟩;simp[g,h,k,m]
 by_cases o:e<f
 ·right;refine⟨_,by simp[g,h,k,m,o];rfl,fun z=> ?_⟩;simp[g,h,k,m,o]
 by_cases p:e>f
 ·right;refine⟨_,by simp[g,h,k,m,o,p];rfl,fun z=> ?_⟩;simp[g,h,k,m,o,p]
 left;exact⟨by simp[g,h,k,m,o,p],by omega,by omega,by omega⟩
theorem yM(f v:Int)(ks:ah)(d v':Int)(c:ah):T.cmp (.node f v ks) (.node d v' c)=eQ f d v v' ks.length c.length (T.cmps ks c):=by simp only[T.cmp,eQ,Int.ofNat_lt,gt_iff_lt]
theorem Sv(f v:Int)(ks:ah)(g v':Int)(c:ah)(u:ks.length<=1099511627776)(w:c.length<=1099511627776)
 (h:∀s s',s∈ks->s'∈c->ak XV 6 [.d (s.enc .sub),.d (s'.enc .sub)] []=some (aa (T.cmp s s'),[])):
 ak XV 6 [.d ((T.node f v ks).enc .sub),.d ((T.node g v' c).enc .sub)] []=some (aa (T.cmp (.node f v ks) (.node g v' c)),[]):=by
 rw[aL 6 v6 rfl];have m:=Z5 f g v v' ks.length c.length (ck f v ks g v' c) rfl;simp[v6,aY,a6,bb,ba,splice,aW,fj,List.replicate];simp only[jd,ck]at m;rw[m,yM];rcases N4 f g v v' ks.length c.length with⟨k,y,t,e3⟩|⟨r,k,x⟩
 ·rw[k]
  have e:ks.length=c.length:=by omega
  have o:=UL f v ks g v' c u e h;simp only[ck]at o;subst y;subst t
  simp[GT,aW];rw[o];have q:eQ f f v v ks.length c.length (T.cmps ks c)=T.cmps ks c:=by simp[eQ,e]
  rw[q]
  by_cases p:T.cmps ks c=0
  ·simp[p,Is]
  ·simp[p]
 ·rw[k,x];simp
theorem Au(a b:T)(c:a.inner<=1099511627776)(e:b.inner<=1099511627776):ak XV 6 [.d (a.enc .sub),.d (b.enc .sub)] []=some (aa (T.cmp a b),[]):=by
 match a,b,c,e with
 | .node f v ks,.node m v' g,c,e=>simp only[T.inner]at c e;exact Sv f v ks m v' g (by omega) (by omega) (fun s s' k h=>Au s s' (by have:=T.qaD k;omega) (by have:=T.qaD h;omega))
termination_by a
decreasing_by
 simp_wf
 have:=d9 k;omega
theorem cmp_zero(f v:Int)(ks:ah)(d v':Int)(c:ah):T.cmp (.node f v ks) (.node d v' c)=0↔f=d/\v=v'/\ks.length=c.length/\T.cmps ks c=0:=by
 rw[yM];unfold eQ
 constructor
 ·intro h
  iterate 6 (split at h;·omega)
  exact⟨by omega,by omega,by omega,h⟩
 ·rintro⟨rfl,rfl,h,h'⟩
  simp[h,h']
theorem PX(f v:Int)(ks:ah)(e v':Int)(c:ah)(D:ks.length<=1099511627776)(y:c.length<=1099511627776)
 (p:∀s s',s∈ks->s'∈c->ak XV 3 [.d (s.enc .sub),.d (s'.enc .sub)] []=some (au (T.cmp s s'==0),[])):
 ak XV 3 [.d ((T.node f v ks).enc .sub),.d ((T.node e v' c).enc .sub)] []=some (au (T.cmp (.node f v ks) (.node e v' c)==0),[]):=by
 rw[aL 3 v3 rfl];have u:=cmp_zero f v ks e v' c;have ne:¬(f=e/\v=v'/\ks.length=c.length/\T.cmps ks c=0)->(T.cmp (.node f v ks) (.node e v' c)==0)=false:=fun h=>by rw[<-u]at h;simpa using h
 by_cases m:f=e
 case neg=>
  rw[ne (fun h=>m h.1)];have z:(f !=e)=true:=by simp[m]
  simp[v3,z]
 by_cases o:v=v'
 case neg=>
  rw[ne (fun h=>o h.2.1)];have C:(v !=v')=true:=by simp[o]
  simp[v3,m,C]
 by_cases q:ks.length=c.length
 case neg=>
  rw[ne (fun h=>q h.2.2.1)];have w:((ks.length:Int) !=c.length)=true:=by simp;omega
  simp[v3,m,o,w]
 have h:=bE (X:=XV) (T:=[]) (L:=2) (live:=[2,3,5]) (b:=wY) (n:=ks.length) (γ:=Int) (st:=fun(_:Unit) i=>⟨[(2,.ptr 0 0),(3,.ptr 1 0),(5,aa i)],ck f v ks e v' c⟩) (step:=lJ ks c)
  (F:=fun _=>(.exit 0,⟨[(2,.ptr 0 0),(3,.ptr 1 0),(5,aa ks.length),(31,au false)],ck f v ks e v' c⟩)) (R:=fun r=>(.ret,⟨[(4,au false)],ck f v ks e v' c⟩))
  (fun _=>⟨by simp,by simp[wY,ck]⟩)
  (fun _ i hi=>by
   have x:=aV (n:=i) (by omega);have g:i<c.length:=by omega
   have hc:=p _ _ (bL hi) (bL g);unfold lJ ck
   by_cases k:T.cmp (ai ks i) (ai c i)=0
   ·rw[k]at hc⊢
    simp only[d0,sN,if_false];refine⟨_,by simp[wY,KP,hi,g,x,cut,a5 hi,a5 g,hc];rfl,?_⟩;simp[aA,aB]
   ·simp only[d0,k,md,if_true]
    have t:(T.cmp (ai ks i) (ai c i)==0)=false:=by simp[k]
    rw[t]at hc;refine⟨by simp,?_⟩;simp[wY,KP,hi,g,cut,a5 hi,a5 g,hc])
  ks.length () 0 ⟨[(2,.ptr 0 0),(3,.ptr 1 0),(5,aa 0)],ck f v ks e v' c⟩ (by omega) (by simp[aA,aB,ck])
 rw[wA ks c q _ _ (by omega)]at h;simp only[eM,ck]at h;simp[v3,m,o,q];subst m;subst o
 rw[q]at h;rw[h]
 by_cases k:T.cmps ks c=0
 ·have:T.cmp (.node f v ks) (.node f v c)=0:=u.2 ⟨rfl,rfl,q,k⟩
  simp[k,GZ,this]
 ·have:¬T.cmp (.node f v ks) (.node f v c)=0:=fun h=>k (u.1 h).2.2.2
  simp[k,GZ,this]
theorem l9(a b:T)(c:a.inner<=1099511627776)(e:b.inner<=1099511627776):ak XV 3 [.d (a.enc .sub),.d (b.enc .sub)] []=some (au (T.cmp a b==0),[]):=by
 match a,b,c,e with
 | .node f v ks,.node m v' g,c,e=>simp only[T.inner]at c e;exact PX f v ks m v' g (by omega) (by omega) (fun s s' k h=>l9 s s' (by have:=T.qaD k;omega) (by have:=T.qaD h;omega))
termination_by a
decreasing_by
 simp_wf
 have:=d9 k;omega
theorem same_eq(a b:T)(c:a.inner<=1099511627776)(e:b.inner<=1099511627776):ak XV 4 [.d (a.enc .sub),.d (b.enc .sub)] []=some (au (T.cmp a b==0),[]):=by rw[aL 4 v4 rfl];have h:=Au a b c e;simp[v4,h]
variable{n:Nat}{left:Int}
theorem tV(h:left-n<0):leftOf left n= -1:=by unfold leftOf;rw[ay h]
theorem vS(h:¬left-n<0):leftOf left n=left-n:=by unfold leftOf;rw[aD h]
def jC(es:aw)(z:DV)(i:Nat):aH:=f7 (Go.Proofs.YtpcoohnjllclnaaGreat.VS.filled es z i)
variable{es:aw}{sz:Nat}
theorem qMS{z:DV}(h:∀x:DV,x∈es->x.cells.length=sz)(c:z.cells.length=sz)(i:Nat):(jC es z i).length=es.length*sz:=by unfold jC;rw[Ls (Co h c i),BG]
theorem Vi{z:DV}(h:∀x:DV,x∈es->x.cells.length=sz)(c:z.cells.length=sz)(i:Nat)(hi:i<es.length):splice (jC es z i) (i*sz) (es[i].cells.map .d)=jC es z (i+1):=by have g:=LN (i:=i) (Co h c i) (e:=es[i]) (h _ (gY hi)) (by rw[BG];exact hi);unfold jC;rw[g,IE es z i hi]
theorem Xg(es:aw)(z:DV):jC es z 0=((List.replicate es.length z).flatMap DV.cells).map .d:=by unfold jC;rw[Jy];simp[f7,flat]
theorem RV(es:aw)(z:DV):jC es z es.length=f7 es:=by unfold jC;rw[ND]
theorem dv(k i:Nat):runN (fun(_:Unit) (_:Nat)=>(Sum.inl ():Unit⊕Unit)) k () i= .inl ():=by
 induction k generalizing i with
 |zero=>rfl
 |succ k c=>simp[runN,c]
def stepW(w:Nat->Nat)(left:Int)(i:Nat):Int⊕Unit:=if left-w i<0 then .inr ()else .inl (left-w i)
def jz(w:Nat->Nat):Nat->Nat->Nat
 |_,0=>0
 |i,k+1=>w i+jz w (i+1) k
theorem Ln(w:Nat->Nat):∀(k i:Nat) (left:Int),0<=left->runN (stepW w) k left i=if left-jz w i k<0 then .inr ()else .inl (left-jz w i k)
 |0,i,left,d=>by
  have c:¬left<0:=by omega
  simp[runN,jz,c]
 |k+1,i,left,d=>by
  simp only[runN,stepW,jz]
  by_cases c:left-w i<0
  ·have g:left-(w i+jz w (i+1) k:Nat)<0:=by omega
   simp only[c,g,if_true]
  ·simp only[c,if_false]
   rw[Ln w k _ _ (by omega)];have e:left-w i-(jz w (i+1) k:Int)=left-(w i+jz w (i+1) k:Nat):=by omega
   rw[e];rfl
@[simp] theorem q15(cs:aw):isAgg (.agg cs)=true:=rfl
@[simp] theorem q14(k:IntKind)(n:Int):isAgg (.int k n)=false:=rfl
@[simp] theorem q6l(s:SymL):s.enc.cn=s.enc:=by simp[SymL.enc,SymL.cells]
@[simp] theorem q13(s:SymL):isAgg s.enc=true:=rfl
@[simp] theorem q3o(s:SymL):s.enc.clr=s.enc:=by simp[SymL.enc,SymL.cells]
@[simp] theorem Q8(s:SymL):s.enc.cells=[.str s.name,.int .i64 s.arity,.bool s.ac]:=rfl
@[simp] theorem qVG(s:SymL):(AV.d s.enc).cells=[.d (.str s.name),aa s.arity,au s.ac]:=rfl
@[simp] theorem qUZ(s:SymL):s.enc.isCell=false:=rfl
@[simp] theorem q3s(n:ByteArray)(a:Int)(b:Bool):DV.agg [.str n,.int .i64 a,.bool b]=SymL.enc ⟨n,a,b⟩:=rfl
@[simp high] theorem q2Q(l:aC):(l.map SymL.enc).map DV.clr=l.map SymL.enc:=by simp[eI,lN]
def aX(l:aC)(i:Nat):SymL:=(l[i]?).getD ⟨⟨#[]⟩,0,false⟩
theorem bY{l:aC}(h:i<l.length):l[i]=aX l i:=by simp[aX,h]
theorem Ma{l:aC}(h:i<l.length):aX l i∈l:=by rw[<-bY h];exact gY h
abbrev sg(l:aC):DV:= .sl .sub (l.map SymL.enc)
theorem R_(s:SymL)(left:Int)(k:0<=left)(g:left<=1099511627776)(e:s.name.size<=maxLen):ak XV 17 [.d s.enc,aa left] []=some (aa (leftOf left s.name.size),[]):=by
 rw[aL 17 yg rfl];have c:IntKind.i64.wrap (left-s.name.size)=left-s.name.size:=wrap_i64 (by unfold maxLen at e;omega) (by omega);unfold leftOf
 by_cases h:left-s.name.size<0
 ·simp[yg,c,h]
 ·simp[yg,c,h]
def lS(l:aC):Nat:=l.length+jz (fun i=>(aX l i).name.size) 0 l.length
theorem TM(l:aC)(left:Int)(p:l.length<=maxLen)(r:∀s,s∈l->s.ok)(u:0<=left)(t:left<=1099511627776):ak XV 11 [.d (sg l),aa left] []=some (aa (leftOf left (lS l)),[]):=by
 rw[aL 11 xi rfl];have m:IntKind.i64.wrap (left-l.length)=left-l.length:=wrap_i64 (by unfold maxLen at p;omega) (by omega);unfold lS;generalize o:(fun i=>(aX l i).name.size)=w
 by_cases h:left-l.length<0
 ·rw[tV (by omega)]
  simp[xi,m,h]
 ·have c:=eu (X:=XV) (T:=[]) (L:=0) (live:=[0,1,5]) (b:=x9) (n:=l.length) (γ:=Unit) (st:=fun(left:Int) i=>⟨[(0,.d (sg l)),(1,aa left),(5,aa i)],[]⟩) (step:=stepW w)
   (F:=fun left=>(.exit 0,⟨[(0,.d (sg l)),(1,aa left),(5,aa l.length),(15,au false)],[]⟩)) (R:=fun _=>(.ret,⟨[(4,aa (-1))],[]⟩))
   (fun left _=>0<=left/\left<=1099511627776)
   (fun left _=>⟨by simp,by simp[x9]⟩)
   (fun left i hi g=>by
    have m:=aV (n:=i) (by unfold maxLen at p;omega);have e:=R_ (aX l i) left g.1 g.2 (r _ (Ma hi)).1;subst o;unfold stepW;simp only
    by_cases k:left-(aX l i).name.size<0
    ·rw[tV k]at e
     simp only[k,if_true];refine⟨⟨by simp,?_⟩,fun a' h=>by simp at h⟩;simp[x9,hi,cut,bY hi,e]
    ·rw[vS k]at e
     simp only[k,if_false];refine⟨⟨_,by simp[x9,hi,m,cut,bY hi,e,k];rfl,by simp[aA,aB]⟩,fun a' h=>by simp at h;subst h;exact⟨by omega,by omega⟩⟩)
   l.length (left-l.length) 0 ⟨[(0,.d (sg l)),(1,aa (left-l.length)),(5,aa 0)],[]⟩ (by omega) ⟨by omega,by omega⟩ (by simp[aA,aB])
  rw[Ln _ _ _ _ (by omega)]at c;simp[xi,m,h];rw[c]
  by_cases q:left-l.length-jz w 0 l.length<0
  ·rw[tV (by omega)];simp[q]
  ·rw[vS (by omega)]
   simp[q];omega
theorem Lr(l:aC):∀x:DV,x∈l.map SymL.enc->xj true 3 x:=by intro x hx;simp only[cE]at hx;obtain⟨n,_,rfl⟩:=hx;exact⟨rfl,rfl,fun _=>⟨_,rfl⟩,by simp⟩
theorem qMo(s:SymL):ak XV 16 [.d s.enc] []=some (.d s.enc,[]):=by rw[aL 16 D5 rfl];simp[D5,splice]
def zS:DV:= .agg [.str ⟨#[]⟩,.int .i64 0,.bool false]
theorem qEJ(l:aC)(w:l.length<=1099511627776):ak XV 12 [.d (sg l)] []=some (.d (.sl U (l.map SymL.enc)),[]):=by
 rw[aL 12 Am rfl];have e:∀x:DV,x∈l.map SymL.enc->x.cells.length=3:=fun x hx=>(Lr l x hx).1
 have c:=bE (X:=XV) (T:=XV.lin 12) (L:=1) (live:=[0,3,4]) (b:=Ax) (n:=l.length) (γ:=Unit) (st:=fun(_:Unit) i=>⟨[(0,.d (sg l)),(3,.bsl [] true 0 3 l.length),(4,aa i)],[some (jC (l.map SymL.enc) zS i)]⟩) (step:=fun _ _=> .inl ())
  (F:=fun _=>(.exit 0,⟨[(0,.d (sg l)),(3,.bsl [] true 0 3 l.length),(4,aa l.length),(11,au false)],[some (jC (l.map SymL.enc) zS l.length)]⟩)) (R:=fun _=>(.ret,⟨[],[]⟩))
  (fun _=>⟨by simp,by simp[Ax]⟩)
  (fun _ i hi=>by
   have u:=aV (n:=i) (by omega);have h:=qMS (z:=zS) e rfl i;have k:=Vi (z:=zS) e rfl i (by simpa using hi);simp only[Mp,bY hi,Q8,bF,bS,cV]at k h;have s:i*3+3<=l.length*3:=by omega
   have r:=qMo (aX l i);exact⟨_,by simp[Ax,hi,u,cut,bY hi,r,h,s,k];rfl,by simp[aA,aB]⟩)
  l.length () 0 ⟨[(0,.d (sg l)),(3,.bsl [] true 0 3 l.length),(4,aa 0)],[some (jC (l.map SymL.enc) zS 0)]⟩ (by omega) (by simp[aA,aB])
 rw[dv,Xg]at c;have m:=xM (l.map SymL.enc) (Lr l);have t:(flat (l.map SymL.enc)).length=l.length*3:=by rw[we e];simp
 have g:=RV (l.map SymL.enc) zS;rw[cV]at m g;simp only[zS,T6,cV]at c g;have p:l.length*32<=140737488355328:=by omega
 have q:(l.length:Int)<9223372036854775808:=by omega
 have o:l.length<9223372036854775808:=by omega
 simp[Am,p,q];simp at c;rw[c];simp at g;simp[g,Ds,m,t,o]
theorem ZT(a:ByteArray):eT a a=true:=by simp[eT]
@[simp] theorem q2q(a b:ByteArray):nC .eql (.str a) (.str b)=some (.bool (eT a b)):=rfl
@[simp] theorem q2p(a b:ByteArray):nC .neq (.str a) (.str b)=some (.bool !(eT a b)):=rfl
theorem Yw(s:SymL):ak XV 20 [.d s.enc,.d s.enc] []=some (au true,[]):=by rw[aL 20 C8 rfl];simp[C8,ZT]
theorem qxl(l:aC)(h:l.length<=1099511627776):ak XV 15 [.d (sg l),.d (sg l)] []=some (au true,[]):=by
 rw[aL 15 y6 rfl];have c:=bE (X:=XV) (T:=[]) (L:=0) (live:=[0,1,5]) (b:=AP) (n:=l.length) (γ:=Unit) (st:=fun(_:Unit) i=>⟨[(0,.d (sg l)),(1,.d (sg l)),(5,aa i)],[]⟩) (step:=fun _ _=> .inl ())
  (F:=fun _=>(.exit 0,⟨[(0,.d (sg l)),(1,.d (sg l)),(5,aa l.length),(14,au false)],[]⟩)) (R:=fun _=>(.ret,⟨[],[]⟩))
  (fun _=>⟨by simp,by simp[AP]⟩)
  (fun _ i hi=>by have g:=aV (n:=i) (by omega);have e:=Yw (aX l i);exact⟨_,by simp[AP,q6k,hi,g,cut,bY hi,e];rfl,by simp[aA,aB]⟩)
  l.length () 0 ⟨[(0,.d (sg l)),(1,.d (sg l)),(5,aa 0)],[]⟩ (by omega) (by simp[aA,aB])
 rw[dv]at c;simp[y6];rw[c];simp
def b0(x lo hi:Int):Bool:=decide (lo<=x)&&decide (x<=hi)
theorem oV(x lo hi:Int):ak XV 30 [aa x,aa lo,aa hi] []=some (au (b0 x lo hi),[]):=by
 rw[aL 30 xe rfl];unfold b0
 by_cases h:lo<=x
 ·have h':x>=lo:=h
  simp[xe,h]
 ·have h':¬x>=lo:=h
  simp[xe,h]
theorem mi(x lo hi:Int):ak XV 31 [aa x,aa lo,aa hi] []=some (au (b0 x lo hi),[]):=by
 rw[aL 31 xH rfl];unfold b0
 by_cases h:lo<=x
 ·simp[xH,h]
 ·simp[xH,h]
def dx(l:aC)(f:Int):Bool:=b0 f 0 (l.length-1)
theorem pn{l:aC}{f:Int}(h:dx l f=true):0<=f/\f.toNat<l.length:=by simp[dx,b0]at h;omega
theorem F0(l:aC)(e:l.length<=1099511627776)(f:Int):ak XV 29 [.d (sg l),aa f] []=some (au (dx l f),[]):=by rw[aL 29 BC rfl];have c:IntKind.i64.wrap ((l.length:Int)-1)=l.length-1:=wrap_i64 (by omega) (by omega);have h:=oV f 0 (l.length-1);simp[BC,c,h,dx]
def bn(l:aC)(f:Int):Bool:=dx l f&&(aX l f.toNat).ac
theorem vY(l:aC)(e:l.length<=1099511627776)(f:Int):ak XV 34 [.d (sg l),aa f] []=some (au (bn l f),[]):=by
 rw[aL 34 wB rfl];have h:=F0 l e f;unfold bn;cases hs:dx l f with
 |false=>rw[hs]at h;simp[wB,h]
 |true=>rw[hs]at h;obtain⟨g,c⟩:=pn hs;simp[wB,h,g,c,bY c,cut]
theorem y4(l:aC)(k:l.length<=1099511627776)(f:Int):ak XV 33 [.d (sg l),aa f] []=some (au (bn l f),[]):=by
 rw[aL 33 xB rfl];have c:IntKind.i64.wrap ((l.length:Int)-1)=l.length-1:=wrap_i64 (by omega) (by omega);have h:=mi f 0 (l.length-1);unfold bn dx;cases hs:b0 f 0 (l.length-1)with
 |false=>rw[hs]at h;simp[xB,h,c]
 |true=>rw[hs]at h;obtain⟨g,e⟩:=pn (l:=l) (f:=f) hs;simp[xB,h,c,g,e,bY e,cut]
def pA(c:Int):Bool:=decide (97<=c)&&decide (c<=122)
def wb(c:Int):Bool:=decide (48<=c)&&decide (c<=57)
theorem MU(c:Int):ak XV 61 [.d (.int .u8 c)] []=some (au (pA c),[]):=by rw[aL 61 AK rfl];cases h1:decide (97<=c)<;>simp[AK,h1,pA]
theorem TL(c:Int):ak XV 62 [.d (.int .u8 c)] []=some (au (wb c),[]):=by rw[aL 62 Dt rfl];cases h1:decide (48<=c)<;>simp[Dt,h1,wb]
def ew(x:Int)(i:Nat):Prop:=(97<=x/\x<=122)\/(0<i/\48<=x/\x<=57)
instance (x:Int) (i:Nat):Decidable (ew x i):=by unfold ew;exact inferInstance
theorem KM(s:ByteArray)(m:s.size<=1099511627776)(i:Nat)(h:i<s.size)(x:Int)(c:ul s i=some x):
 aS XV [] xy ⟨[(0,.d (.str s)),(3,aa i)],[]⟩=some (if ew x i then(.normal,⟨[(0,.d (.str s)),(3,aa (i+1:Nat))],[]⟩)else(.ret,⟨[(2,au false)],[]⟩)):=by
 have k:=aV (n:=i) (by omega);simp[xy,c,h];cases h1:decide (97<=x)
 case true=>
  simp[c];cases h2:decide (x<=122)
  case true=>
   simp[k];have:ew x i:=by simp at h1 h2;exact .inl ⟨h1,h2⟩
   simp[this]
  case false=>
   simp;cases h3:decide (0<i)<;>simp[c]
   case true=>
    have e:(48<=x):=by simp at h1;omega
    simp[e,c];have g:¬(x<=57):=by simp at h1;omega
    have:¬ew x i:=by simp at h1 h2;unfold ew;omega
    simp[g,this]
   case false=>
    have:¬ew x i:=by simp at h1 h2 h3;unfold ew;omega
    simp[this]
 case false=>
  simp;cases h3:decide (0<i)
  case true=>
   simp[c];cases e:decide (48<=x)
   case true=>
    simp[c];cases g:decide (x<=57)
    case true=>
     have:ew x i:=by simp at h1 h3 e g;unfold ew;omega
     simp[k,this]
    case false=>
     have:¬ew x i:=by simp at h1 h3 e g;unfold ew;omega
     simp[this]
   case false=>
    have:¬ew x i:=by simp at h1 h3 e;unfold ew;omega
    simp[this]
  case false=>
   have:¬ew x i:=by simp at h1 h3;unfold ew;omega
   simp[this]
def mF(s:ByteArray)(i:Nat):Bool:=decide (ew (eR s i) i)
def jO(s:ByteArray)(f:ByteArray->Nat->Bool)(i k:Nat):Bool:=(List.range' i k).all (f s)
theorem OD(s:ByteArray)(f:ByteArray->Nat->Bool)(i:Nat):jO s f i 0=true:=rfl
theorem JF(s:ByteArray)(f:ByteArray->Nat->Bool)(i k:Nat):jO s f i (k+1)=(f s i&&jO s f (i+1) k):=by simp[jO,List.range'_succ]
theorem qKY(s:ByteArray)(f:ByteArray->Nat->Bool)(i k:Nat):jO s f i k=true↔∀j,i<=j->j<i+k->f s j=true:=by simp only[jO,cm,List.mem_range'_1];exact⟨fun h j c d=>h j ⟨c,d⟩,fun h j c=>h j c.1 c.2⟩
theorem KW(s:ByteArray)(e:s.size<=1099511627776):∀(k i:Nat),i+k=s.size->
 bo XV [] 0 [0,3] xy ⟨[(0,.d (.str s)),(3,aa i)],[]⟩=
  some (if jO s mF i k then(.exit 0,⟨[(0,.d (.str s)),(3,aa s.size),(7,au false)],[]⟩)else(.ret,⟨[(2,au false)],[]⟩))
 |0,i,m=>by
  have:i=s.size:=by omega
  subst this;rw[pE];simp[aA,aB,xy,OD]
 |k+1,i,m=>by
  have c:i<s.size:=by omega
  have o:=KW s e k (i+1) (by omega);rw[pE,JF]
  by_cases h:ew (eR s i) i
  ·have g:mF s i=true:=by simp[mF,h]
   rw[g,eF,<-o];simp[aA,aB,KM s e i c _ (BD c),h]
  ·have g:mF s i=false:=by simp[mF,h]
   simp[aA,aB,KM s e i c _ (BD c),h,g]
def nG(s:ByteArray):Bool:=jO s mF 0 s.size&&b0 s.size 1 8
theorem Wv(s:ByteArray)(c:s.size<=1099511627776):ak XV 59 [.d (.str s)] []=some (au (nG s),[]):=by
 rw[aL 59 C_ rfl];have h:=KW s c s.size 0 (by omega);simp[C_];simp at h;rw[h];cases h1:jO s mF 0 s.size
 ·simp[nG,h1]
 ·simp[nG,h1,mi]
def mO(s:ByteArray)(i:Nat):Bool:=pA (eR s i)||wb (eR s i)
theorem Lx(s:ByteArray)(h:s.size<=1099511627776)(i:Nat)(c:i<s.size):
 aS XV [] vU ⟨[(0,.d (.str s)),(5,aa s.size),(6,aa i)],[]⟩=some (if mO s i then(.normal,⟨[(0,.d (.str s)),(5,aa s.size),(6,aa (i+1:Nat))],[]⟩)else(.ret,⟨[(2,au false)],[]⟩)):=by
 have g:=aV (n:=i) (by omega);have e:=BD c;simp[vU,e,c,MU];cases h1:pA (eR s i)
 ·simp[e,TL]
  cases h2:wb (eR s i)<;>simp[g,mO,h1,h2]
 ·simp[g,mO,h1]
theorem Ns(s:ByteArray)(e:s.size<=1099511627776):∀(k i:Nat),i+k=s.size->
 bo XV [] 0 [0,5,6] vU ⟨[(0,.d (.str s)),(5,aa s.size),(6,aa i)],[]⟩=
  some (if jO s mO i k then(.exit 0,⟨[(0,.d (.str s)),(5,aa s.size),(6,aa s.size),(7,au false)],[]⟩)else(.ret,⟨[(2,au false)],[]⟩))
 |0,i,g=>by
  have:i=s.size:=by omega
  subst this;rw[pE];simp[aA,aB,vU,OD]
 |k+1,i,g=>by
  have c:i<s.size:=by omega
  have m:=Ns s e k (i+1) (by omega);rw[pE,JF];cases h:mO s i
  ·simp[aA,aB,Lx s e i c,h]
  ·rw[eF,<-m]
   simp[aA,aB,Lx s e i c,h]
def wv(s:ByteArray):Bool:=jO s mO 0 s.size&&(b0 s.size 1 8&&pA (eR s 0))
theorem qrx(s:ByteArray)(c:s.size<=1099511627776):ak XV 60 [.d (.str s)] []=some (au (wv s),[]):=by
 rw[aL 60 yy rfl];have h:=Ns s c s.size 0 (by omega);simp[yy];simp at h;rw[h];cases h1:jO s mO 0 s.size
 ·simp[wv,h1]
 ·simp[wv,h1,oV]
  cases h2:b0 s.size 1 8
  ·simp
  ·have e:0<s.size:=by simp[b0]at h2;omega
   simp[BD e,MU]
theorem Ro(s:ByteArray)(i:Nat):mF s i=true↔(97<=eR s i/\eR s i<=122)\/(0<i/\48<=eR s i/\eR s i<=57):=by unfold mF;rw[cA];rfl
theorem Wi(s:ByteArray)(i:Nat):mO s i=true↔(97<=eR s i/\eR s i<=122)\/(48<=eR s i/\eR s i<=57):=by simp[mO,pA,wb]
theorem qBg(x:Int):pA x=true↔97<=x/\x<=122:=by simp[pA]
theorem W5(s:ByteArray):wv s=nG s:=by
 rw[nZ];simp only[nG,wv,cb,qKY,Ro,Wi,qBg];constructor
 ·rintro⟨d,e,h⟩
  refine⟨fun j g c=> ?_,e⟩;have k:=d j g c;rcases Nat.eq_zero_or_pos j with rfl|o
  ·exact .inl h
  ·omega
 ·rintro⟨d,e⟩
  have p:0<s.size:=by simp[b0]at e;omega
  have m:=d 0 (bN _) (by omega);refine⟨fun j g c=> ?_,e,?_⟩
  ·have k:=d j g c
   omega
  ·omega
def aR(q:Nat->Bool):Nat->Nat->bq
 |0,_=>none
 |k+1,i=>if q i then some i else aR q k (i+1)
def bG(q:Nat->Bool)(_:Unit)(i:Nat):Unit⊕Nat:=if q i then .inr i else .inl ()
theorem cT(q:Nat->Bool):∀(k i:Nat),runN (bG q) k () i=match aR q k i with|some j=> .inr j|none=> .inl ()
 |0,i=>rfl
 |k+1,i=>by
  simp only[runN,bG,aR];cases h:q i
  ·simp[cT q k (i+1)]
  ·simp
def bC:bq->Int
 |some j=>j
 |none=> -1
theorem dA(q:Nat->Bool):∀(k i j:Nat),aR q k i=some j->i<=j/\j<i+k/\q j=true
 |0,i,j,h=>by simp[aR]at h
 |k+1,i,j,h=>by
  simp only[aR]at h;split at h
  ·simp at h;subst h;exact⟨bN _,by omega,by assumption⟩
  ·obtain⟨d,e,c⟩:=dA q k (i+1) j h;exact⟨by omega,by omega,c⟩
def iO(l:aC)(name:ByteArray):Int:=bC (aR (fun i=>eT (aX l i).name name) l.length 0)
theorem TJ(l:aC)(name:ByteArray)(k:l.length<=1099511627776):ak XV 13 [.d (sg l),.d (.str name)] []=some (aa (iO l name),[]):=by
 rw[aL 13 Cp rfl];have h:=bE (X:=XV) (T:=[]) (L:=0) (live:=[0,1,5]) (b:=xb) (n:=l.length) (st:=fun(_:Unit) i=>⟨[(0,.d (sg l)),(1,.d (.str name)),(5,aa i)],[]⟩) (step:=bG fun i=>eT (aX l i).name name)
  (F:=fun _=>(.exit 0,⟨[(0,.d (sg l)),(1,.d (.str name)),(5,aa l.length),(9,au false)],[]⟩)) (R:=fun(j:Nat)=>(.ret,⟨[(4,aa j)],[]⟩))
  (fun a=>⟨by simp,by simp[xb]⟩)
  (fun a i hi=>by
   have g:=aV (n:=i) (by omega);unfold bG
   by_cases c:eT (aX l i).name name=true
   ·rw[ay c];exact⟨by simp,by simp[xb,hi,cut,bY hi,c]⟩
   ·rw[aD c]
    have e:eT (aX l i).name name=false:=by simpa using c
    exact⟨_,by simp[xb,hi,g,cut,bY hi,e];rfl,by simp[aA,aB]⟩)
  l.length () 0 ⟨[(0,.d (sg l)),(1,.d (.str name)),(5,aa 0)],[]⟩ (by omega) (by simp[aA,aB])
 rw[cT]at h;simp[Cp];rw[h];unfold iO;cases c:aR (fun i=>eT (aX l i).name name) l.length 0<;>simp[bC]
theorem Rw(l:aC)(c:Nat)(caps:aH)(B:az)(P:SymL->Bool)(r:l.length<=1099511627776)(m:AV.safe.safes B.length caps=true)(e:caps.map AV.clr=caps)(o:¬0∈XV.lin c)
 (q:∀s,s∈l->ak XV c (.d s.enc::caps) B=some (au (P s),B)):
 ak XV 19 [.d (sg l),.fn c caps] B=some (aa (bC (aR (fun i=>P (aX l i)) l.length 0)),B):=by
 rw[aL 19 D3 rfl];have h:=bE (X:=XV) (T:=XV.lin 19) (L:=B.length) (live:=[0,1,7,8]) (b:=uW) (n:=l.length) (st:=fun(_:Unit) i=>⟨[(0,.d (sg l)),(1,.fn c caps),(7,aa l.length),(8,aa i)],B⟩) (step:=bG fun i=>P (aX l i))
  (F:=fun _=>(.exit 0,⟨[(0,.d (sg l)),(1,.fn c caps),(7,aa l.length),(8,aa l.length),(9,au false)],B⟩)) (R:=fun(j:Nat)=>(.ret,⟨[(4,aa j)],B⟩))
  (fun a=>⟨by simp,by simp[uW]⟩)
  (fun a i hi=>by
   have p:=aV (n:=i) (by omega);have hc:=q _ (Ma hi);unfold bG
   by_cases g:P (aX l i)=true
   ·rw[ay g];rw[g]at hc
    exact⟨by simp,by simp[uW,hi,cut,bY hi,hc,e,o]⟩
   ·rw[aD g]
    have k:P (aX l i)=false:=by simpa using g
    rw[k]at hc;exact⟨_,by simp[uW,hi,p,cut,bY hi,hc,e,o];rfl,by simp[aA,aB,m]⟩)
  l.length () 0 ⟨[(0,.d (sg l)),(1,.fn c caps),(7,aa l.length),(8,aa 0)],B⟩ (by omega) (by simp[aA,aB,m])
 rw[cT]at h;simp only[R9]at h;simp[D3];rw[h];cases g:aR (fun i=>P (aX l i)) l.length 0<;>simp[bC]
theorem qEO(s:SymL)(name:ByteArray):ak XV 18 [.d s.enc,.ptr 0 0] [some [.d (.str name)]]=some (au (eT s.name name),[some [.d (.str name)]]):=by rw[aL 18 Cg rfl];simp[Cg]
theorem qtT(l:aC)(name:ByteArray)(c:l.length<=1099511627776):ak XV 14 [.d (sg l),.d (.str name)] []=some (aa (iO l name),[]):=by rw[aL 14 Bc rfl];have hc:=Rw l 18 [.ptr 0 0] [some [.d (.str name)]] (fun s=>eT s.name name) c (by simp) (by simp) (by simp) (fun s _=>qEO s name);simp[Bc,hc,iO]
def iT(l:aC)(s:SymL)(i:Nat):Bool:= !nG s.name|| !(decide (iO l s.name=i))|| !(b0 s.arity 0 3)||(s.ac&& !decide (s.arity=2))
def AO(s:SymL):Bool:=eT s.name ⟨#[116,116]⟩&&decide (s.arity=0)
def ql(l:aC):Bool:=(aR (fun i=>iT l (aX l i) i) l.length 0).isNone&&(b0 l.length 1 8&&AO (aX l 0))
theorem Og(w:Nat->Nat):∀(k i j:Nat),i<=j->j<i+k->w j<=jz w i k
 |0,i,j,h,h'=>by omega
 |k+1,i,j,h,h'=>by
  simp only[jz];rcases Il h with rfl|h
  ·omega
  ·have:=Og w k (i+1) j h (by omega);omega
theorem YZ(l:aC)(i:Nat)(hi:i<l.length):(aX l i).name.size<=lS l:=by have:=Og (fun i=>(aX l i).name.size) l.length 0 i (c7 _) (by omega);unfold lS;omega
theorem xD(l:aC)(s:SymL)(i:Nat):iT l s i=false↔nG s.name=true/\iO l s.name=i/\b0 s.arity 0 3=true/\(s.ac=true->s.arity=2):=by simp[iT,y9]
theorem Zc(l:aC)(u:l.length<=1099511627776)(i:Nat)(hi:i<l.length)(w:(aX l i).name.size<=1099511627776):
 yx 0 [0,5,6,7] (fun(_:Unit) i=>⟨[(0,.d (sg l)),(5,.d (sg l)),(6,aa l.length),(7,aa i)],[]⟩) (fun(_:Nat)=>(.ret,⟨[(2,au false)],[some [.d (.str (aX l i).name),aa (aX l i).arity,au (aX l i).ac]]⟩)) i
  (aS XV (XV.lin 77) lO ⟨[(0,.d (sg l)),(5,.d (sg l)),(6,aa l.length),(7,aa i)],[]⟩) (bG (fun i=>iT l (aX l i) i) () i):=by
 have t:=aV (n:=i) (by omega);have c:=qrx (aX l i).name w;rw[W5]at c;have o:=qtT l (aX l i).name u;have e:=oV (aX l i).arity 0 3;unfold bG
 by_cases q:iT l (aX l i) i=true
 ·rw[ay q]
  refine⟨by simp,?_⟩;cases k:nG (aX l i).name with
  |false=>rw[k]at c;simp[lO,hi,cut,bY hi,c,splice]
  |true=>
   rw[k]at c
   by_cases h:iO l (aX l i).name=i
   ·have g:(iO l (aX l i).name !=i)=false:=by simp[h]
    cases m:b0 (aX l i).arity 0 3 with
    |false=>rw[m]at e;simp[lO,hi,cut,bY hi,c,o,g,e,splice]
    |true=>
     rw[m]at e;have p:(aX l i).ac=true/\¬(aX l i).arity=2:=by
      have:¬iT l (aX l i) i=false:=by simp[q]
      rw[xD]at this;simp only[k,h,m,qi]at this;exact Classical.not_imp.1 this
     have s:((aX l i).arity !=2)=true:=by simp[p.2]
     simp[lO,hi,cut,bY hi,c,o,g,e,splice,p.1,s]
   ·have g:(iO l (aX l i).name !=i)=true:=by simp[h]
    simp[lO,hi,cut,bY hi,c,o,g,splice]
 ·have r:iT l (aX l i) i=false:=by simpa using q
  rw[aD q];obtain⟨k,h,m,p⟩:=(xD l _ i).1 r;have g:(iO l (aX l i).name !=i)=false:=by simp[h]
  rw[k]at c;rw[m]at e
  cases c5:(aX l i).ac with
  |false=>exact⟨_,by simp[lO,hi,t,cut,bY hi,c,o,g,e,splice,c5];rfl,by simp[aA,aB]⟩
  |true=>
   have s:((aX l i).arity !=2)=false:=by simp[p c5]
   exact⟨_,by simp[lO,hi,t,cut,bY hi,c,o,g,e,splice,c5,s];rfl,by simp[aA,aB]⟩
theorem ZK(l:aC)(q:l.length<=1099511627776)(p:∀i,i<l.length->(aX l i).name.size<=1099511627776):ak XV 77 [.d (sg l)] []=some (au (ql l),[]):=by
 rw[aL 77 Bt rfl];have h:=bE (X:=XV) (T:=XV.lin 77) (L:=0) (live:=[0,5,6,7]) (b:=lO) (n:=l.length) (γ:=Nat) (st:=fun(_:Unit) i=>⟨[(0,.d (sg l)),(5,.d (sg l)),(6,aa l.length),(7,aa i)],[]⟩) (step:=bG fun i=>iT l (aX l i) i)
  (F:=fun _=>(.exit 0,⟨[(0,.d (sg l)),(5,.d (sg l)),(6,aa l.length),(7,aa l.length),(8,au false)],[]⟩)) (R:=fun j=>(.ret,⟨[(2,au false)],[some [.d (.str (aX l j).name),aa (aX l j).arity,au (aX l j).ac]]⟩))
  (fun a=>⟨by simp,by simp[lO]⟩)
  (fun a i hi=>by
   have g:=Zc l q i hi (p i hi);unfold bG at g⊢
   split at g
   ·rename_i k;rw[ay k];exact g
   ·rename_i k;rw[aD k];exact g)
  l.length () 0 ⟨[(0,.d (sg l)),(5,.d (sg l)),(6,aa l.length),(7,aa 0)],[]⟩ (by omega) (by simp[aA,aB])
 rw[cT]at h;simp only[PI]at h;simp[Bt];rw[h];unfold ql;cases hq:aR (fun i=>iT l (aX l i) i) l.length 0 with
 |some j=>simp
 |none=>
  have e:=oV l.length 1 8;cases c1:b0 l.length 1 8 with
  |false=>rw[c1]at e;simp[e]
  |true=>
   rw[c1]at e;have c:0<l.length:=by simp[b0]at c1;omega
   unfold AO;cases c2:eT (aX l 0).name ⟨#[116,116]⟩with
   |false=>simp[e,c,bY c,cut,c2]
   |true=>
    by_cases m:(aX l 0).arity=0
    ·simp[e,c,bY c,cut,c2,m]
    ·have o:((aX l 0).arity==0)=false:=by simp[m]
     simp[e,c,bY c,cut,c2,m,o]
theorem SA(l:aC)(K:l.length<=1099511627776)(N:∀i,i<l.length->(aX l i).name.size<=1099511627776):ak XV 82 [.d (sg l)] []=some (au (ql l),[]):=by
 rw[aL 82 Ae rfl];have h:=bE (X:=XV) (T:=XV.lin 82) (L:=0) (live:=[0,3]) (b:=mH) (n:=l.length) (γ:=Nat) (st:=fun(_:Unit) i=>⟨[(0,.d (sg l)),(3,aa i)],[]⟩) (step:=bG fun i=>iT l (aX l i) i)
  (F:=fun _=>(.exit 0,⟨[(0,.d (sg l)),(3,aa l.length),(7,au false)],[]⟩)) (R:=fun j=>(.ret,⟨[(2,au false)],[]⟩))
  (fun a=>⟨by simp,by simp[mH]⟩)
  (fun a i hi=>by
   have I:=aV (n:=i) (by omega);have m:=Wv (aX l i).name (N i hi);have w:=TJ l (aX l i).name K;have c:=mi (aX l i).arity 0 3;unfold bG
   by_cases y:iT l (aX l i) i=true
   ·rw[ay y]
    refine⟨by simp,?_⟩;cases g:nG (aX l i).name with
    |false=>rw[g]at m;simp[mH,hi,cut,bY hi,m]
    |true=>
     rw[g]at m
     by_cases o:iO l (aX l i).name=i
     ·have p:(iO l (aX l i).name !=i)=false:=by simp[o]
      cases r:b0 (aX l i).arity 0 3 with
      |false=>rw[r]at c;simp[mH,hi,cut,bY hi,m,w,p,c]
      |true=>
       rw[r]at c;have u:(aX l i).ac=true/\¬(aX l i).arity=2:=by
        have:¬iT l (aX l i) i=false:=by simp[y]
        rw[xD]at this;simp only[g,o,r,qi]at this;exact Classical.not_imp.1 this
       have D:((aX l i).arity !=2)=true:=by simp[u.2]
       simp[mH,hi,cut,bY hi,m,w,p,c,u.1,D]
     ·have p:(iO l (aX l i).name !=i)=true:=by simp[o]
      simp[mH,hi,cut,bY hi,m,w,p]
   ·have H:iT l (aX l i) i=false:=by simpa using y
    rw[aD y];obtain⟨g,o,r,u⟩:=(xD l _ i).1 H;have p:(iO l (aX l i).name !=i)=false:=by simp[o]
    rw[g]at m;rw[r]at c
    cases c5:(aX l i).ac with
    |false=>exact⟨_,by simp[mH,hi,I,cut,bY hi,m,w,p,c,c5];rfl,by simp[aA,aB]⟩
    |true=>
     have D:((aX l i).arity !=2)=false:=by simp[u c5]
     exact⟨_,by simp[mH,hi,I,cut,bY hi,m,w,p,c,c5,D];rfl,by simp[aA,aB]⟩)
  l.length () 0 ⟨[(0,.d (sg l)),(3,aa 0)],[]⟩ (by omega) (by simp[aA,aB])
 rw[cT]at h;simp only[q1O]at h;simp[Ae];rw[h];unfold ql;cases hq:aR (fun i=>iT l (aX l i) i) l.length 0 with
 |some j=>simp
 |none=>
  have c:=mi l.length 1 8;cases g:b0 l.length 1 8 with
  |false=>rw[g]at c;simp[c]
  |true=>
   rw[g]at c;have J:0<l.length:=by simp[b0]at g;omega
   have t:∀(q:Nat->Bool) (k i j:Nat),aR q k i=none->i<=j->j<i+k->q j=false:=by
    intro q k
    induction k with
    |zero=>intro i j _ z M;omega
    |succ k O=>
     intro i j C z M;simp only[aR]at C;split at C
     ·simp at C
     ·rcases Il z with rfl|z
      ·simpa using ‹¬q i=true›
      ·exact O (i+1) j C z (by omega)
   have G:=t _ _ _ 0 hq (bN _) (by omega);obtain⟨_,_,_,u⟩:=(xD l (aX l 0) 0).1 G;have key:eU [2,0,1] [.str (aX l 0).name,.int .i64 (aX l 0).arity,.bool (aX l 0).ac] [.str ⟨#[116,116]⟩,.int .i64 0,.bool false]=some (AO (aX l 0)):=by
    unfold AO;cases o:eT (aX l 0).name ⟨#[116,116]⟩<;>by_cases r:(aX l 0).arity=0<;>cases c5:(aX l 0).ac<;>simp[eU,o,r]
    have:=u c5;omega
   have x:∀s s':SymL,Fg false [2,0,1] (some (.d s.enc)) (some (.d s'.enc))=(eU [2,0,1] [.str s.name,.int .i64 s.arity,.bool s.ac] [.str s'.name,.int .i64 s'.arity,.bool s'.ac]).map fun e=> au e:=fun s s'=>by show(eU [2,0,1] s.cells s'.cells).map _=_;simp[SymL.cells]
   simp[c,J,bY J,cut,x,key,splice]
mutual
def T.fold{σ:Type}(e:T->σ->σ):T->σ->σ
 | .node f v ks,s=>T.folds e ks (e (.node f v ks) s)
def T.folds{σ:Type}(e:T->σ->σ):ah->σ->σ
 | [],s=>s
 |t::r,s=>T.folds e r (T.fold e t s)
end
variable{α:Type}
theorem get_at(B:List α)(x:α)(r:List α):(B++x::r)[B.length]?=some x:=by simp
theorem ji(B:List α)(x y:α)(r:List α):(B++x::y::r)[B.length+1]?=some y:=by rw[dB (by omega),show B.length+1-B.length=1 by omega];rfl
theorem take_at(B r:List α):(B++r).take B.length=B:=by simp
theorem iS{L:Nat}{live:ae}{s:XS}{c:aI}{B e:az}(h:keep s.r live=c)(k:aB L c=true)(d:B.length=L)(g:s.B=B++e):aA L live s=some ⟨c,B⟩:=by unfold aA;rw[h,g,ay ⟨k,by simp;omega⟩,<-d,take_at]
variable{σ:Type}
def m9(e:T->σ->σ)(l:ah)(s:σ)(i:Nat):σ⊕Unit:= .inl (T.fold e (ai l i) s)
theorem Ci(e:T->σ->σ)(l:ah):∀(k i:Nat) (s:σ),i+k=l.length->runN (m9 e l) k s i= .inl (T.folds e (l.drop i) s)
 |0,i,s,h=>by have d:l.drop i=[]:=pu (by omega);simp[runN,d,T.folds]
 |k+1,i,s,h=>by
  have c:i<l.length:=by omega
  rw[dV c,a5 c];simp only[runN,m9,T.folds];exact Ci e l k (i+1) _ (by omega)
theorem QB(st:σ->az)(e:T->σ->σ)(k:Nat)(caps:aH)(m:Nat)(H:∀s,(st s).length=m)(o:∀n,m<=n->AV.safe.safes n caps=true)(q:caps.map AV.clr=caps)(M:¬0∈XV.lin k)
 (f v:Int) (ks:ah) (Q:ks.length<=1099511627776)
 (O:∀(x:T) (s:σ) (r:az),ak XV k (.d (x.enc .sub)::caps) (st s++r)=some (.d (.tup []),st (e x s)++r))
 (u:∀x,x∈ks->∀(s:σ) (r:az),ak XV 25 [.d (x.enc .sub),.fn k caps] (st s++r)=some (.d (.tup []),st (T.fold e x s)++r)) (s:σ) (r:az):
 ak XV 25 [.d ((T.node f v ks).enc .sub),.fn k caps] (st s++r)=some (.d (.tup []),st (T.fold e (.node f v ks) s)++r):=by
 rw[aL 25 sS rfl];have g:=O (.node f v ks) s (r++[some [aa f,aa v,.d (ao .sub ks)]]);have len:∀s,(st s++r).length=m+r.length:=fun s=>by simp[H]
 have c:=bE (X:=XV) (T:=XV.lin 25) (L:=m+r.length+1) (live:=[1,10,11,12]) (b:=qO) (n:=ks.length) (γ:=Unit) (st:=fun(s:σ) i=>⟨[(1,.fn k caps),(10,.d (ao .sub ks)),(11,aa ks.length),(12,aa i)],(st s++r)++[some [aa f,aa v,.d (ao .sub ks)]]⟩) (step:=m9 e ks)
  (F:=fun s=>(.exit 0,⟨[(1,.fn k caps),(10,.d (ao .sub ks)),(11,aa ks.length),(12,aa ks.length),(13,au false)],(st s++r)++[some [aa f,aa v,.d (ao .sub ks)]]⟩)) (R:=fun _=>(.ret,⟨[],[]⟩))
  (fun s=>⟨by simp,by simp[qO]⟩)
  (fun s i hi=>by
   have N:=aV (n:=i) (by omega);have z:=u _ (bL hi) s (r++[some [aa f,aa v,.d (ao .sub ks)],some [aa (ai ks i).f,aa (ai ks i).v,.d (ao .sub (ai ks i).kids)]]);have C:=len s;have h:=len (T.fold e (ai ks i) s);simp only[<-bW]at z;generalize P:st s++r=B at z C;generalize w:st (T.fold e (ai ks i) s)++r=B' at z h;unfold m9;refine⟨⟨[(1,.fn k caps),(10,.d (ao .sub ks)),(11,aa ks.length),(12,aa (i+1:Nat))],B'++[some [aa f,aa v,.d (ao .sub ks)],some [aa (ai ks i).f,aa (ai ks i).v,.d (ao .sub (ai ks i).kids)]]⟩,?_,?_⟩
   ·simp[qO,hi,N,cut,a5 hi,q,z,splice]
   ·refine iS (e:=[some [aa (ai ks i).f,aa (ai ks i).v,.d (ao .sub (ai ks i).kids)]]) (by simp) (by simp[aB,o _ (show m<=m+r.length+1 by omega)]) (by simp[h,w]) (by simp[<-w]))
  ks.length (e (.node f v ks) s) 0 ⟨[(1,.fn k caps),(10,.d (ao .sub ks)),(11,aa ks.length),(12,aa 0)],(st (e (.node f v ks) s)++r)++[some [aa f,aa v,.d (ao .sub ks)]]⟩ (by omega) (iS (e:=[]) (by simp) (by simp[aB,o _ (show m<=m+r.length+1 by omega)]) (by simp[H];omega) (by simp))
 rw[Ci e ks _ _ _ (by omega)]at c;simp only[eM]at c;have D:=len s;have y:=len (e (.node f v ks) s);have G:(st (T.fold e (.node f v ks) s)++r).length=m+r.length:=len _;have t:T.folds e ks (e (.node f v ks) s)=T.fold e (.node f v ks) s:=by simp[T.fold]
 rw[t]at c;simp only[<-bW]at g;generalize K:st s++r=B0 at g D;generalize J:st (e (.node f v ks) s)++r=B1 at g y c;generalize I:st (T.fold e (.node f v ks) s)++r=B2 at G c;have p:B1.length=B0.length:=by omega
 rw[<-y]at c;simp only[ao,Jd]at g c;simp[sS,g,q,M,p.symm];rw[c];simp[show B1.length=B2.length by omega]
theorem Fb(st:σ->az)(e:T->σ->σ)(k:Nat)(caps:aH)(m:Nat)(q:∀s,(st s).length=m)(g:∀n,m<=n->AV.safe.safes n caps=true)(c:caps.map AV.clr=caps)(o:¬0∈XV.lin k)
 (p:∀(x:T) (s:σ) (r:az),ak XV k (.d (x.enc .sub)::caps) (st s++r)=some (.d (.tup []),st (e x s)++r)) (t:T) (h:t.inner<=1099511627776) (s:σ) (r:az):
 ak XV 25 [.d (t.enc .sub),.fn k caps] (st s++r)=some (.d (.tup []),st (T.fold e t s)++r):=by
 match t,h with
 | .node f v ks,h=>simp only[T.inner]at h;exact QB st e k caps m q g c o f v ks (by omega) p (fun x hx s r=>Fb st e k caps m q g c o p x (by have:=T.qaD hx;omega) s r) s r
termination_by t
decreasing_by
 simp_wf
 have:=d9 hx;omega
theorem wrap_add(a b:Int):IntKind.i64.wrap (IntKind.i64.wrap a+b)=IntKind.i64.wrap (a+b):=by
 show(if(true&&decide (((if(true&&decide (a%18446744073709551616>=9223372036854775808))=true then a%18446744073709551616-18446744073709551616 else a%18446744073709551616)+b)%18446744073709551616>=9223372036854775808))=true then((if(true&&decide (a%18446744073709551616>=9223372036854775808))=true then a%18446744073709551616-18446744073709551616 else a%18446744073709551616)+b)%18446744073709551616-18446744073709551616 else((if(true&&decide (a%18446744073709551616>=9223372036854775808))=true then a%18446744073709551616-18446744073709551616 else a%18446744073709551616)+b)%18446744073709551616)=(if(true&&decide ((a+b)%18446744073709551616>=9223372036854775808))=true then(a+b)%18446744073709551616-18446744073709551616 else(a+b)%18446744073709551616);simp only[eF,cA];have:((if a%18446744073709551616>=9223372036854775808 then a%18446744073709551616-18446744073709551616 else a%18446744073709551616)+b)%18446744073709551616=(a+b)%18446744073709551616:=by split<;>omega
 rw[this]
theorem Zx(a b:Int):IntKind.i64.wrap (a+IntKind.i64.wrap b)=IntKind.i64.wrap (a+b):=by rw[Int.add_comm,wrap_add,Int.add_comm]
mutual
def T.sum(w:T->Int):T->Int
 | .node f v ks=>w (.node f v ks)+T.sums w ks
def T.sums(w:T->Int):ah->Int
 | []=>0
 |t::r=>T.sum w t+T.sums w r
end
def uJ(w:T->Int)(x:T)(n:Int):Int:=IntKind.i64.wrap (n+w x)
mutual
theorem JV(w:T->Int):∀(t:T) (n:Int),T.fold (uJ w) t (IntKind.i64.wrap n)=IntKind.i64.wrap (n+T.sum w t)
 | .node f v ks,n=>by simp only[T.fold,T.sum,uJ];rw[wrap_add,K_ w ks,xm]
theorem K_(w:T->Int):∀(l:ah) (n:Int),T.folds (uJ w) l (IntKind.i64.wrap n)=IntKind.i64.wrap (n+T.sums w l)
 | [],n=>by simp[T.folds,T.sums]
 |t::r,n=>by simp only[T.folds,T.sums];rw[JV w t,K_ w r,xm]
end
def A4(c:T->Int)(l:ah)(n:Int)(i:Nat):Int⊕Unit:= .inl (IntKind.i64.wrap (n+c (ai l i)))
theorem HZ(w:T->Int)(l:ah):∀(k i:Nat) (n:Int),i+k=l.length->runN (A4 (fun t=>IntKind.i64.wrap (T.sum w t)) l) k (IntKind.i64.wrap n) i= .inl (IntKind.i64.wrap (n+T.sums w (l.drop i)))
 |0,i,n,h=>by have d:l.drop i=[]:=pu (by omega);simp[runN,d,T.sums]
 |k+1,i,n,h=>by
  have c:i<l.length:=by omega
  rw[dV c,a5 c];simp only[runN,A4,T.sums];rw[Zx,wrap_add,HZ w l k (i+1) _ (by omega),xm]
theorem qtV(t:T)(g:t.inner<=1099511627776):ak XV 23 [.d (t.enc .sub)] []=some (aa (IntKind.i64.wrap (T.sum (fun _=>1) t)),[]):=by
 rw[aL 23 Cz rfl];have key:∀(n:Int),ak XV 25 [.d (t.enc .sub),.fn 24 [.ptr 1 0]] ([some [aa t.f,aa t.v,.d (ao .sub t.kids)],some [aa n]]++[])=some (.d (.tup []),[some [aa t.f,aa t.v,.d (ao .sub t.kids)],some [aa (T.fold (uJ fun _=>1) t n)]]++[]):=fun n=>
  Fb (fun n:Int=>[some [aa t.f,aa t.v,.d (ao .sub t.kids)],some [aa n]]) (uJ fun _=>1) 24 [.ptr 1 0] 2 (fun _=>rfl) (fun n h=>by simp;omega) rfl (by simp) (fun x s r=>by rw[aL 24 Ba rfl];simp[Ba,splice,uJ]) t g n []
 have c:=key 0;have e:=JV (fun _=>1) t 0;rw[show IntKind.i64.wrap 0=0 from rfl,CH]at e;rw[e]at c;simp only[cR,ao]at c;simp[Cz,splice,c]
theorem QV(f v:Int)(ks:ah)(k:ks.length<=1099511627776)(c:∀s,s∈ks->ak XV 22 [.d (s.enc .sub)] []=some (aa (IntKind.i64.wrap (T.sum (fun _=>1) s)),[])):
 ak XV 22 [.d ((T.node f v ks).enc .sub)] []=some (aa (IntKind.i64.wrap (T.sum (fun _=>1) (.node f v ks))),[]):=by
 rw[aL 22 v22 rfl];have h:=bE (X:=XV) (T:=[]) (L:=1) (live:=[1,3,4]) (b:=Ac) (n:=ks.length) (γ:=Unit) (st:=fun(n:Int) i=>⟨[(1,.ptr 0 0),(3,aa n),(4,aa i)],[some [aa f,aa v,.d (ao .sub ks)]]⟩) (step:=A4 (fun t=>IntKind.i64.wrap (T.sum (fun _=>1) t)) ks)
  (F:=fun n=>(.exit 0,⟨[(1,.ptr 0 0),(3,aa n),(4,aa ks.length),(9,au false)],[some [aa f,aa v,.d (ao .sub ks)]]⟩)) (R:=fun r=>(.ret,⟨[],[]⟩))
  (fun _=>⟨by simp,by simp[Ac]⟩)
  (fun n i hi=>by have g:=aV (n:=i) (by omega);have hc:=c _ (bL hi);exact⟨_,by simp[Ac,hi,g,cut,a5 hi,hc];rfl,by simp[aA,aB]⟩)
  ks.length (IntKind.i64.wrap 1) 0 ⟨[(1,.ptr 0 0),(3,aa 1),(4,aa 0)],[some [aa f,aa v,.d (ao .sub ks)]]⟩ (by omega) (by simp[aA,aB,show IntKind.i64.wrap 1=1 from rfl])
 rw[HZ _ _ _ _ _ (by omega)]at h;simp only[eM,ao]at h;have e:T.sum (fun _=>1) (T.node f v ks)=1+T.sums (fun _=>1) ks:=by simp[T.sum]
 simp[v22,e];rw[h];simp[O5]
theorem Kr(t:T)(c:t.inner<=1099511627776):ak XV 22 [.d (t.enc .sub)] []=some (aa (IntKind.i64.wrap (T.sum (fun _=>1) t)),[]):=by
 match t,c with
 | .node f v ks,c=>simp only[T.inner]at c;exact QV f v ks (by omega) (fun s e=>Kr s (by have:=T.qaD e;omega))
termination_by t
decreasing_by
 simp_wf
 have:=d9 e;omega
mutual
theorem Kf(w:T->Int)(e:T->Int->Int)(c:∀x m,e x (IntKind.i64.wrap m)=IntKind.i64.wrap (m+w x)):∀(t:T) (n:Int),T.fold e t (IntKind.i64.wrap n)=IntKind.i64.wrap (n+T.sum w t)
 | .node f v ks,n=>by simp only[T.fold,T.sum];rw[c,Js w e c ks,xm]
theorem Js(w:T->Int)(e:T->Int->Int)(c:∀x m,e x (IntKind.i64.wrap m)=IntKind.i64.wrap (m+w x)):∀(l:ah) (n:Int),T.folds e l (IntKind.i64.wrap n)=IntKind.i64.wrap (n+T.sums w l)
 | [],n=>by simp[T.folds,T.sums]
 |t::r,n=>by simp only[T.folds,T.sums];rw[Kf w e c t,Js w e c r,xm]
end
theorem iQ(t:T):ak XV 75 [.d (t.enc .sub)] []=some (au (t.f== -1),[]):=by rw[aL 75 Br rfl];simp[Br]
def wC(n:Int)(x:T):Int:=if x.f= -1/\x.v=n then 1 else 0
def eC(n:Int)(x:T)(m:Int):Int:=if x.f= -1/\x.v=n then IntKind.i64.wrap (m+1)else m
theorem q2w(n:Int)(x:T)(m:Int):eC n x (IntKind.i64.wrap m)=IntKind.i64.wrap (m+wC n x):=by
 unfold eC wC;split
 ·exact wrap_add m 1
 ·simp
theorem Im(t:T)(u:t.inner<=1099511627776)(n:Int):ak XV 73 [.d (t.enc .sub),aa n] []=some (aa (IntKind.i64.wrap (T.sum (wC n) t)),[]):=by
 rw[aL 73 z_ rfl];have key:∀(m:Int),ak XV 25 [.d (t.enc .sub),.fn 74 [.ptr 1 0,.ptr 2 0]] ([some [aa t.f,aa t.v,.d (ao .sub t.kids)],some [aa n],some [aa m]]++[])=some (.d (.tup []),[some [aa t.f,aa t.v,.d (ao .sub t.kids)],some [aa n],some [aa (T.fold (eC n) t m)]]++[]):=fun m=>
  Fb (fun m:Int=>[some [aa t.f,aa t.v,.d (ao .sub t.kids)],some [aa n],some [aa m]]) (eC n) 74 [.ptr 1 0,.ptr 2 0] 3 (fun _=>rfl) (fun n y=>by simp;omega) rfl (by simp) (fun x m r=>by
   rw[aL 74 rI rfl];obtain⟨h,k,q⟩:=x;have c:=iQ (.node h k q);simp only[T.qaO]at c;unfold eC;simp only[T.qaO,T.qbx]
   by_cases e:h= -1
   ·subst e
    simp only[BEq.rfl]at c
    by_cases g:k=n
    ·subst g
     simp[rI,c,splice]
    ·have w:(k==n)=false:=by simp[g]
     simp[rI,c,g,w]
   ·have s:(h== -1)=false:=by simp[e]
    rw[s]at c;simp[rI,c,e]) t u m []
 have o:=key 0;have p:=Kf (wC n) (eC n) (q2w n) t 0;rw[show IntKind.i64.wrap 0=0 from rfl,CH]at p;rw[p]at o;simp only[cR,ao]at o;simp[z_,splice,o]
theorem M2(b:Bool):ak XV 85 [au b] []=some (aa (if b then 1 else 0),[]):=by rw[aL 85 yo rfl];cases b<;>simp[yo]
theorem qsF(n f v:Int)(ks:ah)(y:ks.length<=1099511627776)(g:∀s,s∈ks->ak XV 81 [.d (s.enc .sub),aa n] []=some (aa (IntKind.i64.wrap (T.sum (wC n) s)),[])):
 ak XV 81 [.d ((T.node f v ks).enc .sub),aa n] []=some (aa (IntKind.i64.wrap (T.sum (wC n) (.node f v ks))),[]):=by
 rw[aL 81 uj rfl];have h:=fun m=>bE (X:=XV) (T:=[]) (L:=1) (live:=[1,2,5,6]) (b:=B3) (n:=ks.length) (γ:=Unit) (st:=fun(m:Int) i=>⟨[(1,aa n),(2,.ptr 0 0),(5,aa m),(6,aa i)],[some [aa f,aa v,.d (ao .sub ks)]]⟩) (step:=A4 (fun t=>IntKind.i64.wrap (T.sum (wC n) t)) ks)
  (F:=fun m=>(.exit 0,⟨[(1,aa n),(2,.ptr 0 0),(5,aa m),(6,aa ks.length),(21,au false)],[some [aa f,aa v,.d (ao .sub ks)]]⟩)) (R:=fun r=>(.ret,⟨[],[]⟩))
  (fun _=>⟨by simp,by simp[B3]⟩)
  (fun m i hi=>by have c:=aV (n:=i) (by omega);have hc:=g _ (bL hi);exact⟨_,by simp[B3,hi,c,cut,a5 hi,hc];rfl,by simp[aA,aB]⟩)
  ks.length (IntKind.i64.wrap m) 0 ⟨[(1,aa n),(2,.ptr 0 0),(5,aa (IntKind.i64.wrap m)),(6,aa 0)],[some [aa f,aa v,.d (ao .sub ks)]]⟩ (by omega) (by simp[aA,aB])
 have h':=fun m=>by have:=h m;rw[HZ _ _ _ _ _ (by omega)]at this;simpa only[eM,ao]using this
 have w:T.sum (wC n) (T.node f v ks)=wC n (.node f v ks)+T.sums (wC n) ks:=by simp[T.sum]
 have bt:=M2 true;have o:=M2 false;simp only[if_true,bh,if_false]at bt o;rw[w];have q:=h' 1;have p:=h' 0;rw[show IntKind.i64.wrap 1=1 from rfl]at q;rw[show IntKind.i64.wrap 0=0 from rfl]at p
 by_cases e:f= -1
 ·by_cases k:v=n
  ·have c:wC n (.node f v ks)=1:=by simp[wC,e,k]
   rw[c];subst e;subst k
   simp[uj,bt];rw[q];simp
  ·have c:wC n (.node f v ks)=0:=by simp[wC,e,k]
   have x:(v==n)=false:=by simp[k]
   rw[c];subst e;simp[uj,o,x];rw[p];simp
 ·have c:wC n (.node f v ks)=0:=by simp[wC,e]
  have u:(f== -1)=false:=by simp[e]
  rw[c];simp[uj,o,u];rw[p];simp
theorem N1(t:T)(c:t.inner<=1099511627776)(n:Int):ak XV 81 [.d (t.enc .sub),aa n] []=some (aa (IntKind.i64.wrap (T.sum (wC n) t)),[]):=by
 match t,c with
 | .node f v ks,c=>simp only[T.inner]at c;exact qsF n f v ks (by omega) (fun s e=>N1 s (by have:=T.qaD e;omega) n)
termination_by t
decreasing_by
 simp_wf
 have:=d9 e;omega
def cq(f v:Int)(ks:ah):az:=[some [aa f,aa v,.d (ao .sub ks)]]
theorem VO(a b:T)(c:a.inner<=1099511627776)(e:b.inner<=1099511627776):ak XV 79 [.d (a.enc .sub),.d (b.enc .sub)] []=some (au (decide (T.cmp a b<0)),[]):=by rw[aL 79 Ag rfl];have h:=Au a b c e;simp[Ag,h]
theorem Xq(f v:Int)(ks:ah)(m v':Int)(c:ah)(K:ks.length<=1099511627776)(I:c.length<=1099511627776)
 (o:∀s s',s∈ks->s'∈c->ak XV 3 [.d (s.enc .sub),.d (s'.enc .sub)] []=some (au (T.cmp s s'==0),[]))
 (t:∀s s',s∈ks->s'∈c->ak XV 84 [.d (s.enc .sub),.d (s'.enc .sub)] []=some (au (decide (T.cmp s s'<0)),[])):
 ak XV 84 [.d ((T.node f v ks).enc .sub),.d ((T.node m v' c).enc .sub)] []=some (au (decide (T.cmp (.node f v ks) (.node m v' c)<0)),[]):=by
 rw[aL 84 qV rfl];rw[yM]
 by_cases C:f=m
 case neg=>
  have H:(f !=m)=true:=by simp[C]
  have e:decide (eQ f m v v' ks.length c.length (T.cmps ks c)<0)=decide (f<m):=by
   unfold eQ;by_cases k:f<m
   ·simp[k]
   ·have p:f>m:=by omega
    simp[k,p]
  rw[e];simp[qV,H]
 subst C
 by_cases z:v=v'
 case neg=>
  have J:(v !=v')=true:=by simp[z]
  have e:decide (eQ f f v v' ks.length c.length (T.cmps ks c)<0)=decide (v<v'):=by
   unfold eQ;by_cases k:v<v'
   ·simp[k]
   ·have p:v>v':=by omega
    simp[k,p]
  rw[e];simp[qV,J]
 subst z
 by_cases w:ks.length=c.length
 case neg=>
  have D:((ks.length:Int) !=c.length)=true:=by simp;omega
  have e:decide (eQ f f v v ks.length c.length (T.cmps ks c)<0)=decide (ks.length<c.length):=by
   unfold eQ;by_cases k:ks.length<c.length
   ·simp[k]
   ·have p:c.length<ks.length:=by omega
    simp[k,p]
  rw[e];simp[qV,D]
 have y:eQ f f v v ks.length c.length (T.cmps ks c)=T.cmps ks c:=by simp[eQ,w]
 rw[y];have h:=bE (X:=XV) (T:=[]) (L:=2) (live:=[2,3,5]) (b:=xC) (n:=ks.length) (γ:=Int) (st:=fun(_:Unit) i=>⟨[(2,.ptr 0 0),(3,.ptr 1 0),(5,aa i)],ck f v ks f v c⟩) (step:=lJ ks c)
  (F:=fun _=>(.exit 0,⟨[(2,.ptr 0 0),(3,.ptr 1 0),(5,aa ks.length),(44,au false)],ck f v ks f v c⟩)) (R:=fun r=>(.ret,⟨[(4,au (decide (r<0)))],ck f v ks f v c⟩))
  (fun _=>⟨by simp,by simp[xC,ck]⟩)
  (fun _ i hi=>by
   have G:=aV (n:=i) (by omega);have g:i<c.length:=by omega
   have u:=o _ _ (bL hi) (bL g);have hc:=t _ _ (bL hi) (bL g);unfold lJ ck
   by_cases q:T.cmp (ai ks i) (ai c i)=0
   ·rw[q]at u⊢
    simp only[d0,sN,if_false];refine⟨_,by simp[xC,KX,hi,g,G,cut,a5 hi,a5 g,u];rfl,?_⟩;simp[aA,aB]
   ·simp only[d0,q,md,if_true]
    have x:(T.cmp (ai ks i) (ai c i)==0)=false:=by simp[q]
    rw[x]at u;refine⟨by simp,?_⟩;simp[xC,KX,q2x,hi,g,cut,a5 hi,a5 g,u,hc])
  ks.length () 0 ⟨[(2,.ptr 0 0),(3,.ptr 1 0),(5,aa 0)],ck f v ks f v c⟩ (by omega) (by simp[aA,aB,ck])
 rw[wA ks c w _ _ (by omega)]at h;simp only[eM,ck,ao]at h;simp[qV,w];rw[w]at h;rw[h]
 by_cases q:T.cmps ks c=0<;>simp[q]
theorem F3(a b:T)(g:a.inner<=1099511627776)(h:b.inner<=1099511627776):ak XV 84 [.d (a.enc .sub),.d (b.enc .sub)] []=some (au (decide (T.cmp a b<0)),[]):=by
 match a,b,g,h with
 | .node f v ks,.node m v' k,g,h=>simp only[T.inner]at g h;exact Xq f v ks m v' k (by omega) (by omega) (fun s s' e c=>l9 s s' (by have:=T.qaD e;omega) (by have:=T.qaD c;omega)) (fun s s' e c=>F3 s s' (by have:=T.qaD e;omega) (by have:=T.qaD c;omega))
termination_by a
decreasing_by
 simp_wf
 have:=d9 e;omega
def jo(l:aC)(f v:Int)(n:Nat):Bool:=
 if dx l f=true then
  if v=0 then(if(aX l f.toNat).ac=true then decide ((n:Int)<2)else !decide ((n:Int)=(aX l f.toNat).arity))
  else true
 else true
def dc(l:aC)(f:Int)(ks:ah)(i:Nat):Bool:=if(aX l f.toNat).ac=true then(if(ai ks i).f=f then true else if i=0 then false else decide (T.cmp (ai ks i) (ai ks (i-1))<0))else false
mutual
def T.form(l:aC):T->Bool
 | .node f v ks=>
  if f= -1 then b0 v 0 99&&decide (ks.length=0)
  else if jo l f v ks.length=true then false
  else(aR (fun i=> !((T.forms l ks)[i]?).getD false||dc l f ks i) ks.length 0).isNone
def T.forms(l:aC):ah->List Bool
 | []=>[]
 |t::r=>T.form l t::T.forms l r
end
theorem T.qva(l:aC):∀ks:ah,T.forms l ks=ks.map (T.form l)
 | []=>by simp[T.forms]
 |t::r=>by simp[T.forms,T.qva l r]
theorem T.qr4(l:aC)(ks:ah)(i:Nat)(hi:i<ks.length):((T.forms l ks)[i]?).getD false=T.form l (ai ks i):=by rw[T.qva];simp[O2 hi]
theorem Sr(l:aC)(m:l.length<=1099511627776)(f v:Int)(ks:ah):aS XV (XV.lin 78) (.region true 0 [0,3,62] BE) ⟨[(0,.d (sg l)),(3,.ptr 0 0),(8,au false)],cq f v ks⟩=some (.normal,⟨[(0,.d (sg l)),(3,.ptr 0 0),(62,au (jo l f v ks.length))],cq f v ks⟩):=by
 have c:=F0 l m f;unfold jo cq;cases c1:dx l f with
 |false=>rw[c1]at c;simp[vQ,c]
 |true=>
  rw[c1]at c;obtain⟨k,e⟩:=pn c1
  by_cases g:v=0
  ·cases c3:(aX l f.toNat).ac with
   |true=>simp[vQ,c,g,k,e,bY e,cut,c3]
   |false=>
    by_cases h:(ks.length:Int)=(aX l f.toNat).arity
    ·simp[vQ,c,g,k,e,bY e,cut,c3,h]
    ·have p:((ks.length:Int) !=(aX l f.toNat).arity)=true:=by simp[h]
     simp[vQ,c,g,k,e,bY e,cut,c3,h,p]
  ·have o:(v !=0)=true:=by simp[g]
   simp[vQ,c,g,o]
theorem q17(l:aC)(q:l.length<=1099511627776)(f v:Int)(ks:ah):aS XV (XV.lin 83) (.region true 0 [0,3,64] Bp) ⟨[(0,.d (sg l)),(3,.ptr 0 0),(8,au false)],cq f v ks⟩=some (.normal,⟨[(0,.d (sg l)),(3,.ptr 0 0),(64,au (jo l f v ks.length))],cq f v ks⟩):=by
 have c:=mi f 0 (l.length-1);have h:IntKind.i64.wrap ((l.length:Int)-1)=l.length-1:=wrap_i64 (by omega) (by omega);unfold jo cq;cases c1:dx l f with
 |false=>unfold dx at c1;rw[c1]at c;simp[ve,c,h]
 |true=>
  obtain⟨m,e⟩:=pn c1;unfold dx at c1;rw[c1]at c
  by_cases g:v=0
  ·cases c3:(aX l f.toNat).ac with
   |true=>simp[ve,c,h,g,m,e,bY e,cut,c3]
   |false=>
    by_cases k:(ks.length:Int)=(aX l f.toNat).arity
    ·simp[ve,c,h,g,m,e,bY e,cut,c3,k]
    ·have p:((ks.length:Int) !=(aX l f.toNat).arity)=true:=by simp[k]
     simp[ve,c,h,g,m,e,bY e,cut,c3,k,p]
  ·have o:(v !=0)=true:=by simp[g]
   simp[ve,c,h,g,o]
theorem YL(l:aC)(x:l.length<=1099511627776)(f v:Int)(ks:ah)(u:dx l f=true)(i:Nat)(hi:i<ks.length)(w:ks.length<=1099511627776)
 (h:∀s s',s∈ks->s'∈ks->ak XV 79 [.d (s.enc .sub),.d (s'.enc .sub)] []=some (au (decide (T.cmp s s'<0)),[]))
 (c:ak XV 78 [.d (sg l),.d ((ai ks i).enc .sub)] []=some (au (T.form l (ai ks i)),[])):
 aS XV (XV.lin 78) (.region true 0 [0,3,64,65,66,103] Bl) ⟨[(0,.d (sg l)),(3,.ptr 0 0),(5,aa i),(6,.ptr 1 0),(64,.d (ao .sub ks)),(65,aa ks.length),(66,aa i)],cq f v ks++[some [aa (ai ks i).f,aa (ai ks i).v,.d (ao .sub (ai ks i).kids)]]⟩=
  some (.normal,⟨[(0,.d (sg l)),(3,.ptr 0 0),(64,.d (ao .sub ks)),(65,aa ks.length),(66,aa i),(103,au (!T.form l (ai ks i)||dc l f ks i))],cq f v ks++[some [aa (ai ks i).f,aa (ai ks i).v,.d (ao .sub (ai ks i).kids)]]⟩):=by
 obtain⟨o,e⟩:=pn u;unfold cq dc;cases c1:T.form l (ai ks i)with
 |false=>rw[c1]at c;simp[uR,c]
 |true=>
  rw[c1]at c;cases c2:(aX l f.toNat).ac with
  |false=>simp[uR,c,o,e,bY e,c2,cut]
  |true=>
   by_cases k:(ai ks i).f=f
   ·have m:((ai ks i).f==f)=true:=by simp[k]
    simp[uR,c,o,e,bY e,c2,m,cut];simp[k]
   ·have m:((ai ks i).f==f)=false:=by simp[k]
    by_cases q:i=0
    ·subst q;simp[uR,c,o,e,bY e,c2,k,m,cut]
    ·obtain⟨j,rfl⟩:∃j,i=j+1:=⟨i-1,by omega⟩
     have p:j<ks.length:=by omega
     have r:=h _ _ (bL hi) (bL p);have t:IntKind.i64.wrap (j:Int)=j:=Cs (by omega);have g:(0:Int)<((j+1:Nat):Int):=by omega
     simp only[qN,dy]at g;simp[uR,c,o,e,bY e,c2,k,m,t,g,p,a5 p,cut,r]
theorem U_(l:aC)(z:l.length<=1099511627776)(f v:Int)(ks:ah)(H:ks.length<=1099511627776)
 (r:∀s s',s∈ks->s'∈ks->ak XV 79 [.d (s.enc .sub),.d (s'.enc .sub)] []=some (au (decide (T.cmp s s'<0)),[]))
 (o:∀s,s∈ks->ak XV 78 [.d (sg l),.d (s.enc .sub)] []=some (au (T.form l s),[])):
 ak XV 78 [.d (sg l),.d ((T.node f v ks).enc .sub)] []=some (au (T.form l (.node f v ks)),[]):=by
 rw[aL 78 pe rfl];have m:=iQ (.node f v ks);have g:=oV v 0 99;simp only[T.qaO]at m
 by_cases q:f= -1
 ·have c:T.form l (.node f v ks)=(b0 v 0 99&&decide (ks.length=0)):=by simp[T.form,q]
  rw[c];subst q;simp only[BEq.rfl]at m;cases c2:b0 v 0 99 with
  |false=>rw[c2]at g;simp[pe,m,g]
  |true=>
   rw[c2]at g
   by_cases x:ks.length=0
   ·simp[pe,m,g,x]
   ·have C:((ks.length:Int)==0)=false:=by simp;exact fun h=>x (by simp[h])
    simp[pe,m,g,C];exact fun h=>x (by simp[h])
 have I:(f== -1)=false:=by simp[q]
 rw[I]at m;have p:=Sr l z f v ks;simp only[cq,ao,Ga]at p;cases c2:jo l f v ks.length with
 |true=>
  have c:T.form l (.node f v ks)=false:=by simp[T.form,q,c2]
  rw[c];rw[c2]at p;simp[pe,m];rw[p];simp
 |false=>
  have w:dx l f=true:=by
   unfold jo at c2
   by_cases h:dx l f=true
   ·exact h
   ·rw[aD h]at c2;simp at c2
  have c:T.form l (.node f v ks)=(aR (fun i=> !T.form l (ai ks i)||dc l f ks i) ks.length 0).isNone:=by
   have e:aR (fun i=> !((T.forms l ks)[i]?).getD false||dc l f ks i) ks.length 0=aR (fun i=> !T.form l (ai ks i)||dc l f ks i) ks.length 0:=by
    have key:∀(k i:Nat),i+k=ks.length->aR (fun i=> !((T.forms l ks)[i]?).getD false||dc l f ks i) k i=aR (fun i=> !T.form l (ai ks i)||dc l f ks i) k i:=by
     intro k
     induction k with
     |zero=>intro i _;rfl
     |succ k D=>intro i h;simp only[aR];simp only[T.qr4 l ks i (by omega),D (i+1) (by omega)]
    exact key _ _ (by omega)
   rw[<-e];simp[T.form,q,c2]
  rw[c];rw[c2]at p;have h:=bE (X:=XV) (T:=XV.lin 78) (L:=1) (live:=[0,3,64,65,66]) (b:=wo) (n:=ks.length) (γ:=Nat) (st:=fun(_:Unit) i=>⟨[(0,.d (sg l)),(3,.ptr 0 0),(64,.d (ao .sub ks)),(65,aa ks.length),(66,aa i)],cq f v ks⟩) (step:=bG fun i=> !T.form l (ai ks i)||dc l f ks i)
   (F:=fun _=>(.exit 0,⟨[(0,.d (sg l)),(3,.ptr 0 0),(64,.d (ao .sub ks)),(65,aa ks.length),(66,aa ks.length),(67,au false)],cq f v ks⟩)) (R:=fun j=>(.ret,⟨[(4,au false)],cq f v ks++[some [aa (ai ks j).f,aa (ai ks j).v,.d (ao .sub (ai ks j).kids)]]⟩))
   (fun a=>⟨by simp,by simp[wo]⟩)
   (fun a i hi=>by
    have G:=aV (n:=i) (by omega);have t:=YL l z f v ks w i hi H r (o _ (bL hi));unfold bG;simp only[cq,ao,c_,cp,Ga]at t
    by_cases u:(!T.form l (ai ks i)||dc l f ks i)=true
    ·rw[ay u]
     rw[u]at t;refine⟨by simp,?_⟩;simp[wo,hi,cut,a5 hi,cq,splice];rw[t];simp
    ·rw[aD u]
     have y:(!T.form l (ai ks i)||dc l f ks i)=false:=by simpa using u
     rw[y]at t;refine⟨⟨[(0,.d (sg l)),(3,.ptr 0 0),(64,.d (ao .sub ks)),(65,aa ks.length),(66,aa (i+1:Nat))],cq f v ks++[some [aa (ai ks i).f,aa (ai ks i).v,.d (ao .sub (ai ks i).kids)]]⟩,?_,by simp[aA,aB,cq]⟩;simp[wo,hi,cut,a5 hi,cq,splice];rw[t];simp[G])
   ks.length () 0 ⟨[(0,.d (sg l)),(3,.ptr 0 0),(64,.d (ao .sub ks)),(65,aa ks.length),(66,aa 0)],cq f v ks⟩ (by omega) (by simp[aA,aB,cq])
  rw[cT]at h;simp only[cq,ao,c_,cp,Ga]at h;simp[pe,m];rw[p];simp;rw[h];cases u:aR (fun i=> !T.form l (ai ks i)||dc l f ks i) ks.length 0<;>simp[Kb]
theorem I9(l:aC)(f v:Int)(ks:ah)(d:f≠-1)(c:jo l f v ks.length=false):T.form l (.node f v ks)=(aR (fun i=> !T.form l (ai ks i)||dc l f ks i) ks.length 0).isNone:=by
 have e:aR (fun i=> !((T.forms l ks)[i]?).getD false||dc l f ks i) ks.length 0=aR (fun i=> !T.form l (ai ks i)||dc l f ks i) ks.length 0:=by
  have key:∀(k i:Nat),i+k=ks.length->aR (fun i=> !((T.forms l ks)[i]?).getD false||dc l f ks i) k i=aR (fun i=> !T.form l (ai ks i)||dc l f ks i) k i:=by
   intro k
   induction k with
   |zero=>intro i _;rfl
   |succ k g=>intro i h;simp only[aR];simp only[T.qr4 l ks i (by omega),g (i+1) (by omega)]
  exact key _ _ (by omega)
 rw[<-e];simp[T.form,d,c]
theorem MX(l:aC)(e:l.length<=1099511627776)(t:T)(c:t.inner<=1099511627776):ak XV 78 [.d (sg l),.d (t.enc .sub)] []=some (au (T.form l t),[]):=by
 match t,c with
 | .node f v ks,c=>simp only[T.inner]at c;exact U_ l e f v ks (by omega) (fun s s' h h'=>VO s s' (by have:=T.qaD h;omega) (by have:=T.qaD h';omega)) (fun s h=>MX l e s (by have:=T.qaD h;omega))
termination_by t
decreasing_by
 simp_wf
 have:=d9 h;omega
theorem RB(l:aC)(C:l.length<=1099511627776)(f v:Int)(ks:ah)(y:dx l f=true)(i:Nat)(hi:i<ks.length)(z:ks.length<=1099511627776)
 (u:∀s s',s∈ks->s'∈ks->ak XV 84 [.d (s.enc .sub),.d (s'.enc .sub)] []=some (au (decide (T.cmp s s'<0)),[]))
 (c:ak XV 83 [.d (sg l),.d ((ai ks i).enc .sub)] []=some (au (T.form l (ai ks i)),[])):
 aS XV (XV.lin 83) (.region true 0 [0,3,5,116] Bz) ⟨[(0,.d (sg l)),(3,.ptr 0 0),(5,aa i),(69,au true)],cq f v ks⟩=
  some (.normal,⟨[(0,.d (sg l)),(3,.ptr 0 0),(5,aa i),(116,au (!T.form l (ai ks i)||dc l f ks i))],cq f v ks⟩):=by
 obtain⟨k,e⟩:=pn y;unfold cq dc;cases c2:(aX l f.toNat).ac with
 |false=>
  cases c1:T.form l (ai ks i)with
  |false=>rw[c1]at c;simp[pM,c,k,e,bY e,c2,cut,hi,a5 hi]
  |true=>rw[c1]at c;simp[pM,c,k,e,bY e,c2,cut,hi,a5 hi]
 |true=>
  by_cases m:(ai ks i).f=f
  ·have p:((ai ks i).f==f)=true:=by simp[m]
   simp[pM,k,e,bY e,c2,p,cut,hi,a5 hi];simp[m]
  ·have p:((ai ks i).f==f)=false:=by simp[m]
   by_cases x:i=0
   ·subst x
    cases c1:T.form l (ai ks 0)with
    |false=>rw[c1]at c;simp[pM,c,k,e,bY e,c2,m,p,cut,hi,a5 hi]
    |true=>rw[c1]at c;simp[pM,c,k,e,bY e,c2,m,p,cut,hi,a5 hi]
   ·obtain⟨j,rfl⟩:∃j,i=j+1:=⟨i-1,by omega⟩
    have q:j<ks.length:=by omega
    have r:=u _ _ (bL hi) (bL q);have w:IntKind.i64.wrap (j:Int)=j:=Cs (by omega);have g:(0:Int)<((j+1:Nat):Int):=by omega
    have h:(((j+1:Nat):Int)).toNat=j+1:=by omega
    simp only[qN,dy]at g h;have o:(0:Int)<=(j:Int)+1:=by omega
    by_cases t:T.cmp (ai ks (j+1)) (ai ks j)<0
    ·simp only[t,decide_true]at r
     simp[pM,k,e,bY e,c2,m,p,w,g,h,o,q,hi,a5 q,a5 hi,cut,r,t]
    ·simp only[t,decide_false]at r
     cases c1:T.form l (ai ks (j+1))with
     |false=>rw[c1]at c;simp[pM,c,k,e,bY e,c2,m,p,w,g,h,o,q,hi,a5 q,a5 hi,cut,r,t]
     |true=>rw[c1]at c;simp[pM,c,k,e,bY e,c2,m,p,w,g,h,o,q,hi,a5 q,a5 hi,cut,r,t]
theorem qBI(l:aC)(x:l.length<=1099511627776)(f v:Int)(ks:ah)(y:ks.length<=1099511627776)
 (o:∀s s',s∈ks->s'∈ks->ak XV 84 [.d (s.enc .sub),.d (s'.enc .sub)] []=some (au (decide (T.cmp s s'<0)),[]))
 (g:∀s,s∈ks->ak XV 83 [.d (sg l),.d (s.enc .sub)] []=some (au (T.form l s),[])):
 ak XV 83 [.d (sg l),.d ((T.node f v ks).enc .sub)] []=some (au (T.form l (.node f v ks)),[]):=by
 rw[aL 83 pN rfl];have e:=mi v 0 99
 by_cases m:f= -1
 ·have c:T.form l (.node f v ks)=(b0 v 0 99&&decide (ks.length=0)):=by simp[T.form,m]
  rw[c];subst m;cases c2:b0 v 0 99 with
  |false=>rw[c2]at e;simp[pN,e]
  |true=>
   rw[c2]at e
   by_cases t:ks.length=0
   ·simp[pN,e,t]
   ·have z:((ks.length:Int)==0)=false:=by simp;exact fun h=>t (by simp[h])
    simp[pN,e,z];exact fun h=>t (by simp[h])
 have w:(f== -1)=false:=by simp[m]
 have k:=q17 l x f v ks;simp only[cq,ao,Hy]at k;cases c2:jo l f v ks.length with
 |true=>
  have c:T.form l (.node f v ks)=false:=by simp[T.form,m,c2]
  rw[c];rw[c2]at k;simp[pN,w];rw[k];simp
 |false=>
  have r:dx l f=true:=by
   unfold jo at c2
   by_cases h:dx l f=true
   ·exact h
   ·rw[aD h]at c2;simp at c2
  rw[I9 l f v ks m c2];rw[c2]at k;have h:=bE (X:=XV) (T:=XV.lin 83) (L:=1) (live:=[0,3,5]) (b:=uS) (n:=ks.length) (γ:=Nat) (st:=fun(_:Unit) i=>⟨[(0,.d (sg l)),(3,.ptr 0 0),(5,aa i)],cq f v ks⟩) (step:=bG fun i=> !T.form l (ai ks i)||dc l f ks i)
   (F:=fun _=>(.exit 0,⟨[(0,.d (sg l)),(3,.ptr 0 0),(5,aa ks.length),(69,au false)],cq f v ks⟩)) (R:=fun j=>(.ret,⟨[(4,au false)],cq f v ks⟩))
   (fun a=>⟨by simp,by simp[uS,cq]⟩)
   (fun a i hi=>by
    have C:=aV (n:=i) (by omega);have p:=RB l x f v ks r i hi y o (g _ (bL hi));unfold bG;simp only[cq,ao,Hy]at p
    by_cases q:(!T.form l (ai ks i)||dc l f ks i)=true
    ·rw[ay q]
     rw[q]at p;refine⟨by simp,?_⟩;simp[uS,hi,cq];rw[p];simp
    ·rw[aD q]
     have u:(!T.form l (ai ks i)||dc l f ks i)=false:=by simpa using q
     rw[u]at p;refine⟨⟨[(0,.d (sg l)),(3,.ptr 0 0),(5,aa (i+1:Nat))],cq f v ks⟩,?_,by simp[aA,aB,cq]⟩;simp[uS,hi,cq];rw[p];simp[C])
   ks.length () 0 ⟨[(0,.d (sg l)),(3,.ptr 0 0),(5,aa 0)],cq f v ks⟩ (by omega) (by simp[aA,aB,cq])
  rw[cT]at h;simp only[cq,ao,Hy]at h;simp[pN,w];rw[k];simp;rw[h];cases q:aR (fun i=> !T.form l (ai ks i)||dc l f ks i) ks.length 0<;>simp[NK]
theorem Lf(l:aC)(e:l.length<=1099511627776)(t:T)(c:t.inner<=1099511627776):ak XV 83 [.d (sg l),.d (t.enc .sub)] []=some (au (T.form l t),[]):=by
 match t,c with
 | .node f v ks,c=>simp only[T.inner]at c;exact qBI l e f v ks (by omega) (fun s s' h h'=>F3 s s' (by have:=T.qaD h;omega) (by have:=T.qaD h';omega)) (fun s h=>Lf l e s (by have:=T.qaD h;omega))
termination_by t
decreasing_by
 simp_wf
 have:=d9 h;omega
mutual
theorem F9:∀t:T,T.sum (fun _=>1) t=t.inner+1
 | .node f v ks=>by simp only[T.sum,T.inner];rw[Ks ks];push_cast;omega
theorem Ks:∀l:ah,T.sums (fun _=>1) l=T.inners l+l.length
 | []=>by simp[T.sums,T.inners]
 |t::r=>by simp only[T.sums,T.inners,cY];rw[F9 t,Ks r];push_cast;omega
end
theorem OQ(t:T)(c:t.inner<=1099511627776):IntKind.i64.wrap (T.sum (fun _=>1) t)=(t.inner+1:Nat):=by rw[F9];exact Cs (n:=t.inner+1) (by omega)
def cu(l:aC)(t:T):Bool:=ql l&&(decide (t.inner+1<=60)&&T.form l t)
theorem E0(l:aC)(m:l.length<=1099511627776)(o:∀i,i<l.length->(aX l i).name.size<=1099511627776)(t:T)(g:t.inner<=1099511627776):ak XV 70 [.d (sg l),.d (t.enc .sub)] []=some (au (cu l t),[]):=by
 rw[aL 70 su rfl];have e:=ZK l m o;have h:=qtV t g;rw[OQ t g]at h;have p:=MX l m t g;unfold cu;cases c1:ql l with
 |false=>rw[c1]at e;simp[su,e]
 |true=>
  rw[c1]at e
  by_cases k:t.inner+1<=60
  ·have c:(((t.inner+1:Nat):Int))<=60:=by omega
   simp only[qN,dy]at c;simp[su,e,h,p,k,c]
  ·have c:¬(((t.inner+1:Nat):Int))<=60:=by omega
   simp only[qN,dy]at c;simp[su,e,h,k,c]
theorem H8(l:aC)(m:l.length<=1099511627776)(o:∀i,i<l.length->(aX l i).name.size<=1099511627776)(t:T)(g:t.inner<=1099511627776):ak XV 80 [.d (sg l),.d (t.enc .sub)] []=some (au (cu l t),[]):=by
 rw[aL 80 ui rfl];have e:=SA l m o;have h:=Kr t g;rw[OQ t g]at h;have p:=Lf l m t g;unfold cu;cases c1:ql l with
 |false=>rw[c1]at e;simp[ui,e]
 |true=>
  rw[c1]at e
  by_cases k:t.inner+1<=60
  ·have c:(((t.inner+1:Nat):Int))<=60:=by omega
   simp only[qN,dy]at c;simp[ui,e,h,p,k,c]
  ·have c:¬(((t.inner+1:Nat):Int))<=60:=by omega
   simp only[qN,dy]at c;simp[ui,e,h,k,c]
structure Bd where
 v:Int
 t:T
abbrev ydG:=List (Option (List Bd))
abbrev ydF:=Option (List Bd)
abbrev ydu:=List (List Bd)
abbrev aF:=List Bd
def Bd.enc(g:Tag)(b:Bd):DV:= .agg [.int .i64 b.v,.int .i64 b.t.f,.int .i64 b.t.v,ao g b.t.kids]
def Bd.ok(b:Bd):Prop:=(-9223372036854775808<=b.v/\b.v<=9223372036854775807)/\b.t.ok
abbrev binds(g:Tag)(l:aF):DV:= .sl g (l.map (Bd.enc g))
@[simp] theorem Bd.qfd(g:Tag)(x:Bd):(x.enc g).cells=[.int .i64 x.v,.int .i64 x.t.f,.int .i64 x.t.v,ao g x.t.kids]:=rfl
@[simp] theorem Bd.qkJ(g:Tag)(x:Bd):(AV.d (x.enc g)).cells=[aa x.v,aa x.t.f,aa x.t.v,.d (ao g x.t.kids)]:=rfl
@[simp] theorem Bd.qkH(g:Tag)(x:Bd):(x.enc g).isCell=false:=rfl
@[simp] theorem Bd.q3b(g:Tag)(x:Bd):isAgg (x.enc g)=true:=rfl
@[simp] theorem Bd.qfc(g:Tag)(x:Bd):(x.enc g).clr=x.enc .sub:=by simp only[Bd.enc,DV.clr,DV.clrs,ao,DV.qay,mg]
@[simp high] theorem Bd.qgK(g:Tag)(l:aF):(l.map (Bd.enc g)).map DV.clr=l.map (Bd.enc .sub):=by simp[eI,lN]
@[simp] theorem Bd.agg_enc(g:Tag)(x:Bd):DV.agg [.int .i64 x.v,.int .i64 x.t.f,.int .i64 x.t.v,ao g x.t.kids]=x.enc g:=rfl
def aQ(l:aF)(i:Nat):Bd:=(l[i]?).getD ⟨0,.node 0 0 []⟩
theorem df{l:aF}(h:i<l.length):l[i]=aQ l i:=by simp[aQ,h]
theorem ia{l:aF}(h:i<l.length):aQ l i∈l:=by rw[<-df h];exact gY h
def cnt(t:T)(v:Int):Int:=IntKind.i64.wrap (T.sum (wC v) t)
def Ja(b:Bd):aH:=[aa b.v,aa b.t.f,aa b.t.v,.d (ao .sub b.t.kids)]
theorem Jo(l:aF)(c:Nat)(caps:aH)(B:az)(P:Bd->Bool)(r:l.length<=1099511627776)(m:AV.safe.safes B.length caps=true)(e:caps.map AV.clr=caps)(o:¬0∈XV.lin c)
 (q:∀s,s∈l->ak XV c (.d (s.enc .sub)::caps) B=some (au (P s),B)):
 ak XV 76 [.d (binds .sub l),.fn c caps] B=some (aa (bC (aR (fun i=>P (aQ l i)) l.length 0)),B):=by
 rw[aL 76 CC rfl];have h:=bE (X:=XV) (T:=XV.lin 76) (L:=B.length) (live:=[0,1,7,8]) (b:=wO) (n:=l.length) (st:=fun(_:Unit) i=>⟨[(0,.d (binds .sub l)),(1,.fn c caps),(7,aa l.length),(8,aa i)],B⟩) (step:=bG fun i=>P (aQ l i))
  (F:=fun _=>(.exit 0,⟨[(0,.d (binds .sub l)),(1,.fn c caps),(7,aa l.length),(8,aa l.length),(9,au false)],B⟩)) (R:=fun(j:Nat)=>(.ret,⟨[(4,aa j)],B⟩))
  (fun a=>⟨by simp,by simp[wO]⟩)
  (fun a i hi=>by
   have p:=aV (n:=i) (by omega);have hc:=q _ (ia hi);unfold bG
   by_cases g:P (aQ l i)=true
   ·rw[ay g];rw[g]at hc
    exact⟨by simp,by simp[wO,hi,cut,df hi,hc,e,o]⟩
   ·rw[aD g]
    have k:P (aQ l i)=false:=by simpa using g
    rw[k]at hc;exact⟨_,by simp[wO,hi,p,cut,df hi,hc,e,o];rfl,by simp[aA,aB,m]⟩)
  l.length () 0 ⟨[(0,.d (binds .sub l)),(1,.fn c caps),(7,aa l.length),(8,aa 0)],B⟩ (by omega) (by simp[aA,aB,m])
 rw[cT]at h;simp only[q1Q]at h;simp[CC];rw[h];cases g:aR (fun i=>P (aQ l i)) l.length 0<;>simp[bC]
theorem Oa(l:aF)(e:Nat)(caps:aH)(B:az)(P:Bd->Bool)(g:l.length<=1099511627776)(k:AV.safe.safes B.length caps=true)(c:caps.map AV.clr=caps)(o:¬0∈XV.lin e)
 (m:∀s,s∈l->ak XV e (.d (s.enc .sub)::caps) B=some (au (P s),B)):
 ak XV 72 [.d (binds .sub l),.fn e caps] B=some (au (aR (fun i=>P (aQ l i)) l.length 0).isSome,B):=by
 rw[aL 72 xp rfl];have h:=Jo l e caps B P g k c o m;cases hq:aR (fun i=>P (aQ l i)) l.length 0 with
 |none=>rw[hq]at h;simp[xp,h,bC,c]
 |some j=>rw[hq]at h;simp[xp,h,bC,c]
mutual
theorem Dj:∀a b:T,T.cmp a b= -(T.cmp b a)
 | .node f v ks,.node d v' c=>by
  have h:=LO ks c;simp only[T.cmp]
  repeat' split
  all_goals first|omega|exact h
theorem LO:∀a b:ah,T.cmps a b= -(T.cmps b a)
 | [],[]=>rfl
 | [],_::_=>rfl
 |_::_,[]=>rfl
 |x::xs,y::c=>by
  have d:=Dj x y;have e:=LO xs c;simp only[T.cmps]
  repeat' split
  all_goals omega
end
mutual
theorem uz:∀a b:T,T.cmp a b=0->a=b
 | .node f v ks,.node g v' c,h=>by
  simp only[T.cmp]at h
  repeat' split at h
  all_goals first|omega|skip
  have e:=Mz ks c (by omega) h;have k:f=g:=by omega
  have d:v=v':=by omega
  rw[e,k,d]
theorem Mz:∀a b:ah,a.length=b.length->T.cmps a b=0->a=b
 | [],[],_,_=>rfl
 | [],_::_,h,_=>by simp at h
 |_::_,[],h,_=>by simp at h
 |x::xs,y::d,c,h=>by
  simp only[T.cmps]at h;split at h
  ·omega
  ·rename_i e
   rw[uz x y (by omega),Mz xs d (by simpa using c) h]
end
mutual
theorem NL:∀a b c:T,T.cmp a b<0->T.cmp b c<0->T.cmp a c<0
 | .node f v ks,.node q v' g,.node f2 m e,k,d=>by
  simp only[T.cmp]at k d⊢
  by_cases y:f<q
  ·have:q<=f2:=by
    apply Classical.byContradiction;intro h
    rw[aD (by omega),ay (by omega)]at d;omega
   rw[ay (by omega)];omega
  ·have s:f=q:=by
    apply Classical.byContradiction;intro h
    rw[aD y,ay (by omega)]at k;omega
   subst s
   by_cases u:f<f2
   ·rw[ay u];omega
   ·have p:f=f2:=by
     apply Classical.byContradiction;intro h
     rw[aD u,ay (by omega)]at d;omega
    subst p;simp only[Int.lt_irrefl,gt_iff_lt,if_false]at k d⊢
    by_cases e3:v<v'
    ·have:v'<=m:=by
      apply Classical.byContradiction;intro h
      rw[aD (by omega),ay (by omega)]at d;omega
     rw[ay (by omega)];omega
    ·have qB:v=v':=by
      apply Classical.byContradiction;intro h
      rw[aD e3,ay (by omega)]at k;omega
     subst qB
     by_cases t:v<m
     ·rw[ay t];omega
     ·have o:v=m:=by
       apply Classical.byContradiction;intro h
       rw[aD t,ay (by omega)]at d;omega
      subst o;simp only[Int.lt_irrefl,gt_iff_lt,if_false]at k d⊢
      by_cases x:ks.length<g.length
      ·have:g.length<=e.length:=by
        apply Classical.byContradiction;intro h
        rw[aD (by omega),ay (by omega)]at d;omega
       rw[ay (by omega)];omega
      ·have r:ks.length=g.length:=by
        apply Classical.byContradiction;intro h
        rw[aD x,ay (by omega)]at k;omega
       by_cases w:ks.length<e.length
       ·rw[ay w];omega
       ·have z:ks.length=e.length:=by
         apply Classical.byContradiction;intro h
         rw[aD (by omega),ay (by omega)]at d;omega
        rw[aD (by omega),aD (by omega)]at k d⊢
        exact Lv ks g e r (by omega) k d
theorem Lv:∀a b c:ah,a.length=b.length->b.length=c.length->T.cmps a b<0->T.cmps b c<0->T.cmps a c<0
 | [],[],_,_,_,h,_=>by simp[T.cmps]at h
 | [],_::_,_,h,_,_,_=>by simp at h
 |_::_,[],_,h,_,_,_=>by simp at h
 |x::xs,y::m,[],_,h,_,_=>by simp at h
 |x::xs,y::m,z::o,r,s,e,d=>by
  simp only[T.cmps]at e d⊢
  have t1:=NL x y z
  by_cases k:T.cmp x y=0
  ·have:=uz x y k
   subst this
   by_cases g:T.cmp x z=0
   ·simp only[k,g,d0,sN,if_false]at e d⊢
    exact Lv xs m o (by simpa using r) (by simpa using s) e d
   ·simp only[g,d0,md,if_true]at d⊢
    exact d
  ·simp only[k,d0,md,if_true]at e
   by_cases g:T.cmp y z=0
   ·have:=uz y z g
    subst this;simp only[k,d0,md,if_true];exact e
   ·simp only[g,d0,md,if_true]at d
    have p:=t1 e d;have q:T.cmp x z≠0:=by omega
    simp only[q,d0,md,if_true];exact p
end
def cZ(a b:T):Prop:=T.cmp a b<=0
theorem NY(a:T):cZ a a:=by have:=Dj a a;unfold cZ;omega
variable{a b:T}
theorem vu{c:T}(e:cZ a b)(h:cZ b c):cZ a c:=by
 unfold cZ at*
 by_cases g:T.cmp a b=0
 ·rw[uz a b g];exact h
 by_cases d:T.cmp b c=0
 ·rw[<-uz b c d];exact e
 have:=NL a b c (by omega) (by omega);omega
theorem XG(c:cZ a b)(d:cZ b a):a=b:=by
 have:=Dj a b;unfold cZ at*
 exact uz a b (by omega)
theorem sO(h:¬T.cmp a b<0):cZ b a:=by have:=Dj a b;unfold cZ;omega
theorem rV(h:T.cmp a b<0):cZ a b:=by unfold cZ;omega
def b4(l:ah):Prop:=l.Pairwise cZ
theorem P0{a b:ah}(c:b4 a)(d:b4 b)(h:a.Perm b):a=b:=List.Perm.eq_of_pairwise (fun _ _ _ _=>XG) c d h
def j8(u w:aF)(i:Nat):Bool:= !((aQ u i).v==(aQ w i).v&&T.cmp (aQ u i).t (aQ w i).t==0)
def jc(u w:aF):Bool:=decide (u.length=w.length)&&(aR (j8 u w) u.length 0).isNone
theorem VW(t:T):DV.agg [.int .i64 t.f,.int .i64 t.v,ao .sub t.kids]=t.enc .sub:=by rw[T.qb5]
mutual
theorem T.qK8(g:Tag)(c:g≠.nil):∀t:T,(t.enc g).sh=t.enc .sub
 | .node f v ks=>by have:=T.qK7 g c ks;simp only[T.enc,DV.sh,DV.shs,aD c,this]
theorem T.qK7(g:Tag)(c:g≠.nil):∀ts:ah,DV.shs (T.encs g ts)=T.encs .sub ts
 | []=>by simp[T.encs,DV.shs]
 |t::ts=>by simp only[T.encs,DV.shs,T.qK8 g c t,T.qK7 g c ts]
end
theorem Ea(g:Tag)(c:g≠.nil)(ts:ah):(ts.map (T.enc g)).map DV.sh=ts.map (T.enc .sub):=by rw[eI];exact C1 fun t _=>T.qK8 g c t
theorem Mo(g:Tag)(t:T):k_ (t.enc g)=true:=by cases t;rfl
theorem UB(g:Tag)(e:g≠.nil)(ts:ah)(i:Nat)(B:az)(hi:i<ts.length)(k:ts.length<=1099511627776):
 ak XV 284 [.d (ao g ts),aa i] B=some (.d (ao .sub (ts.take i++ts.drop (i+1))),B):=by
 rw[xq XV 284 _ _ lM rfl];have c:(ts.map (T.enc g)).all k_=true:=by
  rw[cm];intro x hx
  obtain⟨t,_,rfl⟩:=cE.1 hx;exact Mo g t
 have h:(0:Int)<=i/\(i:Int)<(ts.map (T.enc g)).length/\(ts.map (T.enc g)).length*40<=140737488355328:=by rw[cV];omega
 simp only[bd,b7,bO,lM,ao];rw[ay ⟨c,h⟩];simp only[te,<-List.map_take,<-List.map_drop,<-List.map_append,Ea g e,b7,bO]
structure Gl where
 many:Bool
 f:Int
 ps:ah
 ts:ah
def Gl.enc(g:Tag)(x:Gl):DV:= .agg [.bool x.many,.int .i64 x.f,ao g x.ps,ao g x.ts]
theorem OL(l:ah)(c:Nat)(caps:aH)(B:az)(P:T->Bool)(r:l.length<=1099511627776)(m:AV.safe.safes B.length caps=true)(e:caps.map AV.clr=caps)(o:¬0∈XV.lin c)
 (q:∀s,s∈l->ak XV c (.d (s.enc .sub)::caps) B=some (au (P s),B)):
 ak XV 281 [.d (ao .sub l),.fn c caps] B=some (aa (bC (aR (fun i=>P (ai l i)) l.length 0)),B):=by
 rw[aL 281 yK rfl];have h:=bE (X:=XV) (T:=XV.lin 281) (L:=B.length) (live:=[0,1,7,8]) (b:=vd) (n:=l.length) (st:=fun(_:Unit) i=>⟨[(0,.d (ao .sub l)),(1,.fn c caps),(7,aa l.length),(8,aa i)],B⟩) (step:=bG fun i=>P (ai l i))
  (F:=fun _=>(.exit 0,⟨[(0,.d (ao .sub l)),(1,.fn c caps),(7,aa l.length),(8,aa l.length),(9,au false)],B⟩)) (R:=fun(j:Nat)=>(.ret,⟨[(4,aa j)],B⟩))
  (fun a=>⟨by simp,by simp[vd]⟩)
  (fun a i hi=>by
   have p:=aV (n:=i) (by omega);have hc:=q _ (bL hi);unfold bG
   by_cases g:P (ai l i)=true
   ·rw[ay g];rw[g]at hc
    exact⟨by simp,by simp[vd,hi,cut,a5 hi,hc,e,o]⟩
   ·rw[aD g]
    have k:P (ai l i)=false:=by simpa using g
    rw[k]at hc;exact⟨_,by simp[vd,hi,p,cut,a5 hi,hc,e,o];rfl,by simp[aA,aB,m]⟩)
  l.length () 0 ⟨[(0,.d (ao .sub l)),(1,.fn c caps),(7,aa l.length),(8,aa 0)],B⟩ (by omega) (by simp[aA,aB,m])
 rw[cT]at h;simp only[qUk]at h;simp[yK];rw[h];cases g:aR (fun i=>P (ai l i)) l.length 0<;>simp[bC]
theorem Yj(x:T)(f v:Int)(ks:ah)(hx:x.inner<=1099511627776)(c:(T.node f v ks).inner<=1099511627776):
 ak XV 283 [.d (x.enc .sub),.ptr 0 0] [some [aa f,aa v,.d (ao .sub ks)]]=some (au (T.cmp x (.node f v ks)==0),[some [aa f,aa v,.d (ao .sub ks)]]):=by
 rw[aL 283 Cw rfl];have h:=same_eq x (.node f v ks) hx c;obtain⟨g,v',e⟩:=x;simp[Cw,h]
def dJ(l:ah)(t:T)(i:Nat):Bool:=T.cmp (ai l i) t==0
def kQ(l:ah)(j:Nat):ah:=l.take j++l.drop (j+1)
def takeN:ah->ah->ah⊕T
 |l,[]=> .inl l
 |l,t::ts=>match aR (dJ l t) l.length 0 with
  |none=> .inr t
  |some j=>takeN (kQ l j) ts
def AA(ts:ah)(l:ah)(i:Nat):ah⊕T:=
 match aR (dJ l (ai ts i)) l.length 0 with
 |some j=> .inl (kQ l j)
 |none=> .inr (ai ts i)
theorem OM(ts:ah):∀(k i:Nat) (l:ah),i+k=ts.length->runN (AA ts) k l i=takeN l (ts.drop i)
 |0,i,l,h=>by have d:ts.drop i=[]:=pu (by omega);simp[runN,d,takeN]
 |k+1,i,l,h=>by
  have c:i<ts.length:=by omega
  rw[dV c,a5 c];simp only[runN,AA,takeN];cases aR (dJ l (ai ts i)) l.length 0 with
  |none=>rfl
  |some j=>exact OM ts k (i+1) _ (by omega)
variable{j:Nat}
theorem Cv{x:T}(h:x∈kQ l j):x∈l:=by
 unfold kQ at h;rcases bu.1 h with h|h
 ·exact pI h
 ·exact Jt h
theorem Dh:(kQ l j).length<=l.length:=by unfold kQ;simp;omega
theorem qMp(l ts:ah)(w:l.length<=1099511627776)(y:ts.length<=1099511627776)(s:∀x,x∈l->x.inner<=1099511627776)(bt:∀x,x∈ts->x.inner<=1099511627776):
 ak XV 282 [.d (ao .sub l),.d (ao .sub ts)] []=some (match takeN l ts with| .inl r=> .d (.tup [ao .sub r,.bool true])| .inr _=> .d (.tup [.sl U [],.bool false]),[]):=by
 rw[aL 282 Ch rfl];have h:=eu (X:=XV) (T:=XV.lin 282) (L:=0) (live:=[0,9,10,11]) (b:=xS) (n:=ts.length) (γ:=T) (st:=fun(r:ah) i=>⟨[(0,.d (ao .sub r)),(9,.d (ao .sub ts)),(10,aa ts.length),(11,aa i)],[]⟩) (step:=AA ts)
  (F:=fun r=>(.exit 0,⟨[(0,.d (ao .sub r)),(9,.d (ao .sub ts)),(10,aa ts.length),(11,aa ts.length),(12,au false)],[]⟩)) (R:=fun q=>(.ret,⟨[(4,.d (.sl U [])),(5,au false)],[some [aa q.f,aa q.v,.d (ao .sub q.kids)]]⟩))
  (fun r _=>r.length<=1099511627776/\∀x,x∈r->x.inner<=1099511627776)
  (fun a _=>⟨by simp,by simp[xS]⟩)
  (fun a i hi c=>by
   have u:=aV (n:=i) (by omega);obtain⟨o,p⟩:=c;have t:=bt _ (bL hi);generalize m:ai ts i=q at*
   obtain⟨f,v,ks⟩:=q;have hc:=OL a 283 [.ptr 0 0] [some [aa f,aa v,.d (ao .sub ks)]] (fun x=>T.cmp x (.node f v ks)==0) o (by simp) (by simp) (by simp) (fun x hx=>Yj x f v ks (p x hx) t);have g:(fun j=>T.cmp (ai a j) (.node f v ks)==0)=dJ a (.node f v ks):=rfl;rw[g]at hc;unfold AA;rw[m];cases hfa:aR (dJ a (.node f v ks)) a.length 0 with
   |none=>rw[hfa]at hc;exact⟨⟨by simp,by simp[xS,hi,cut,a5 hi,m,hc,bC,splice]⟩,fun a' h=>by simp at h⟩
   |some j=>
    rw[hfa]at hc;obtain⟨_,z,_⟩:=dA _ _ _ _ hfa;have e:¬((j:Int)<0):=by omega
    have k:=UB .sub (by simp) a j [] (by omega) o;refine⟨⟨_,by simp[xS,hi,u,cut,a5 hi,m,hc,bC,k,splice,e];rfl,by simp[aA,aB,kQ]⟩,fun a' h=> ?_⟩;simp only[ka]at h;subst h;exact⟨eo Dh o,fun x hx=>p x (Cv hx)⟩)
  ts.length l 0 ⟨[(0,.d (ao .sub l)),(9,.d (ao .sub ts)),(10,aa ts.length),(11,aa 0)],[]⟩ (by omega) ⟨w,s⟩ (by simp[aA,aB])
 rw[OM ts _ _ _ (by omega)]at h;simp only[qUj,eM]at h;simp[Ch];rw[h];cases takeN l ts<;>simp
abbrev is(l:ax):DV:= .sl .sub (l.map (.int .i64))
def aE(l:ax)(i:Nat):Int:=(l[i]?).getD 0
theorem bP{l:ax}(h:i<l.length):l[i]=aE l i:=by simp[aE,h]
theorem MZ(l:ax):∀x:DV,x∈l.map (.int .i64)->xj false 1 x:=by intro x hx;simp only[cE]at hx;obtain⟨n,_,rfl⟩:=hx;exact⟨rfl,rfl,fun h=>by simp at h,by simp⟩
@[simp high] theorem q2R(l:ax):(l.map (DV.int .i64)).map DV.clr=l.map (DV.int .i64):=by simp[eI,lN]
end Go.Proofs.YtpcoohnjllclnaaGreat.VS
