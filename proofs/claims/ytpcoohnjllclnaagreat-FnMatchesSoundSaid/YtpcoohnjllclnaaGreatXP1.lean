/- Contracts of the program's functions on the evaluator without names, and plain lemmas: part 1. -/
import Derived.Test.YtpcoohnjllclnaaGreatLin
set_option linter.unusedSimpArgs false
set_option linter.unusedVariables false
namespace Go.Proofs.YtpcoohnjllclnaaGreat.VS
inductive T where
 |node (f v:Int) (kids:List T)
 deriving Inhabited
abbrev ah:=List T
def T.f:T->Int| .node f _ _=>f
def T.v:T->Int| .node _ v _=>v
def T.kids:T->ah| .node _ _ k=>k
mutual
def T.enc(g:Tag):T->DV
 | .node f v ks=> .agg [.int .i64 f,.int .i64 v,.sl g (T.encs g ks)]
def T.encs(g:Tag):ah->al
 | []=>[]
 |t::r=>t.enc g::T.encs g r
end
theorem T.qeG(g:Tag):∀l:ah,T.encs g l=l.map (T.enc g)
 | []=>by unfold T.encs;rfl
 |t::r=>by unfold T.encs;simp[T.qeG g r]
abbrev ai(g:Tag)(l:ah):DV:= .sl g (l.map (T.enc g))
theorem T.qbD(g:Tag)(t:T):t.enc g= .agg [.int .i64 t.f,.int .i64 t.v,ai g t.kids]:=by cases t;simp[T.enc,T.qeG,ai,T.f,T.v,T.kids]
@[simp] theorem agg_enc(g:Tag)(f v:Int)(ks:ah):DV.agg [.int .i64 f,.int .i64 v,ai g ks]=(T.node f v ks).enc g:=by simp[T.enc,T.qeG,ai]
@[simp] theorem T.eta(t:T):T.node t.f t.v t.kids=t:=by cases t;rfl
@[simp] theorem T.qaO(f v:Int)(k:ah):(T.node f v k).f=f:=rfl
@[simp] theorem T.qbT(f v:Int)(k:ah):(T.node f v k).v=v:=rfl
@[simp] theorem T.qaD(f v:Int)(k:ah):(T.node f v k).kids=k:=rfl
@[simp] theorem T.qgL(g:Tag)(t:T):(t.enc g).cells=[.int .i64 t.f,.int .i64 t.v,ai g t.kids]:=by rw[T.qbD];rfl
@[simp] theorem T.qjJ(g:Tag)(t:T):(AV.d (t.enc g)).cells=[aa t.f,aa t.v,.d (ai g t.kids)]:=by rw[T.qbD];rfl
@[simp] theorem T.qjI(g:Tag)(t:T):(t.enc g).isCell=false:=by rw[T.qbD];rfl
mutual
theorem T.qfU(g:Tag):∀t:T,(t.enc g).clr=t.enc .sub
 | .node f v ks=>by simp only[T.enc,DV.clr,DV.clrs,T.qeh g ks]
theorem T.qeh(g:Tag):∀l:ah,DV.clrs (T.encs g l)=T.encs .sub l
 | []=>by simp only[T.encs,DV.clrs]
 |t::r=>by simp only[T.encs,DV.clrs,T.qfU g t,T.qeh g r]
end
attribute [simp] T.qfU
@[simp high] theorem kn(g:Tag)(l:ah):(l.map (T.enc g)).map DV.clr=l.map (T.enc .sub):=by rw[<-T.qeG,<-T.qeG,<-DV.qaw,T.qeh]
def aj(l:ah)(i:Nat):T:=(l[i]?).getD (.node 0 0 [])
variable{i:Nat}{l:ah}
theorem bg(h:i<l.length):l[i]=aj l i:=by simp[aj,h]
theorem bV(h:i<l.length):aj l i∈l:=by rw[<-bg h];exact jt h
theorem CY(h:i<l.length):l[i]?=some (aj l i):=by simp[aj,h]
@[simp] theorem qTS(g:Tag)(h:i<l.length):(l.map (T.enc g))[i]?=some ((aj l i).enc g):=by simp[CY h]
mutual
def T.inner:T->Nat
 | .node _ _ ks=>ks.length+T.inners ks
def T.inners:ah->Nat
 | []=>0
 |t::r=>t.inner+T.inners r
end
theorem T.qdz(t:T):t.inner=t.kids.length+T.inners t.kids:=by cases t;simp[T.inner]
mutual
def T.ok:T->Prop
 | .node _ _ ks=>ks.length<=maxLen/\T.oks ks
def T.oks:ah->Prop
 | []=>True
 |t::r=>t.ok/\T.oks r
end
theorem YK(g:Tag)(l:ah):∀x:DV,x∈l.map (T.enc g)->Kd true 3 x:=by intro x a;simp only[cw]at a;obtain⟨t,_,rfl⟩:=a;exact⟨by simp,by simp[aW,ba],fun _=>⟨_,T.qbD g t⟩,by simp⟩
theorem T.qaF:∀{l:ah} {t:T},t∈l->t.inner<=T.inners l
 | [],t,h=>by simp at h
 |s::r,t,h=>by
  simp only[T.inners];rcases bK.1 h with rfl|h
  ·omega
  ·have:=T.qaF h;omega
mutual
def T.cmp:T->T->Int
 | .node f v ks,.node b v' a=>
  if f<b then-1 else if f>b then 1 else if v<v' then-1 else if v>v' then 1 else
  if ks.length<a.length then-1 else if ks.length>a.length then 1 else T.cmps ks a
def T.cmps:ah->ah->Int
 |a::as,b::bs=>if T.cmp a b≠0 then T.cmp a b else T.cmps as bs
 |_,_=>0
end
def kw(l m:ah)(_:Unit)(i:Nat):Unit⊕Int:=if T.cmp (aj l i) (aj m i)≠0 then .inr (T.cmp (aj l i) (aj m i))else .inl ()
theorem sI(l m:ah)(d:l.length=m.length):∀(k i:Nat),i+k=l.length->runN (kw l m) k () i=if T.cmps (l.drop i) (m.drop i)=0 then .inl ()else .inr (T.cmps (l.drop i) (m.drop i))
 |0,i,h=>by have e:l.drop i=[]:=ki (by omega);simp[runN,e,T.cmps]
 |k+1,i,h=>by
  have b:i<l.length:=by omega
  have a:i<m.length:=by omega
  rw[dl b,dl a,bg b,bg a];simp only[runN,kw,T.cmps]
  by_cases hc:T.cmp (aj l i) (aj m i)=0
  ·simp only[hc,fw,om,if_false]
   exact sI l m d k (i+1) (by omega)
  ·simp[hc]
def js(a b c d e f:Int)(i:Nat):Int×Int:=if i=0 then(a,b)else if i=1 then(c,d)else(e,f)
def jM(a b c d e f:Int)(_:Unit)(i:Nat):Unit⊕(Int×(Int×Int)):=if(js a b c d e f i).1<(js a b c d e f i).2 then .inr (-1,js a b c d e f i)else if(js a b c d e f i).1>(js a b c d e f i).2 then .inr (1,js a b c d e f i)else .inl ()
def cE(f v:Int)(ks:ah)(b v':Int)(a:ah):ar:=[some [aa f,aa v,.d (ai .sub ks)],some [aa b,aa v',.d (ai .sub a)]]
def iG(a b c d e f:Int):al:=[.agg [.int .i64 a,.int .i64 b],.agg [.int .i64 c,.int .i64 d],.agg [.int .i64 e,.int .i64 f]]
theorem Mb(a b c d e f:Int)(i:Nat)(hi:i<3):(iG a b c d e f)[i]?=some (.agg [.int .i64 (js a b c d e f i).1,.int .i64 (js a b c d e f i).2]):=by
 match i,hi with
 |0,_=>rfl
 |1,_=>rfl
 |2,_=>rfl
theorem qAs(a b c d e f:Int)(B:ar)(s:B.length=2):
 cj XV [] 2 [2,3,26,27,28] ii ⟨[(2,.ptr 0 0),(3,.ptr 1 0),(26,.d (.sl .sub (iG a b c d e f))),(27,aa 3),(28,aa 0)],B⟩=
  some (match runN (jM a b c d e f) 3 () 0 with
   | .inl _=>(.exit 0,⟨[(2,.ptr 0 0),(3,.ptr 1 0),(26,.d (.sl .sub (iG a b c d e f))),(27,aa 3),(28,aa 3),(29,ax false)],B⟩)
   | .inr r=>(.ret,⟨[(4,aa r.1)],B++[some [aa r.2.1,aa r.2.2]]⟩)):=by
 obtain⟨h,g,rfl⟩:∃h g,B=[h,g]:=by
  match B,s with
  | [h,g],_=>exact⟨h,g,rfl⟩
 have key:=cd (X:=XV) (T:=[]) (L:=2) (live:=[2,3,26,27,28]) (b:=ii) (n:=3) (γ:=Int×(Int×Int)) (st:=fun(_:Unit) i=>⟨[(2,.ptr 0 0),(3,.ptr 1 0),(26,.d (.sl .sub (iG a b c d e f))),(27,aa 3),(28,aa i)],[h,g]⟩) (step:=jM a b c d e f)
  (F:=fun _=>(.exit 0,⟨[(2,.ptr 0 0),(3,.ptr 1 0),(26,.d (.sl .sub (iG a b c d e f))),(27,aa 3),(28,aa 3),(29,ax false)],[h,g]⟩)) (R:=fun r=>(.ret,⟨[(4,aa r.1)],[h,g]++[some [aa r.2.1,aa r.2.2]]⟩))
  (fun _=>⟨by simp,by simp[ii]⟩)
  (fun _ i hi=>by
   have p:=bE (n:=i) (by omega);have j:(i:Int)<3:=by omega
   have k:=Mb a b c d e f i hi;unfold jM;generalize js a b c d e f i=q at k;obtain⟨x,y⟩:=q;simp only at k⊢
   by_cases m:x<y
   ·rw[aw m]
    refine⟨by simp,?_⟩;simp[ii,j,k,cut,m,aW,splice,aP,bh,bd]
   ·rw[au m]
    by_cases o:x>y
    ·rw[aw o]
     refine⟨by simp,?_⟩;simp[ii,j,k,cut,m,o,aW,splice,aP,bh,bd]
    ·rw[au o]
     refine⟨_,by simp[ii,j,k,cut,m,o,p,aW,splice,aP,bh,bd];rfl,?_⟩;simp[aJ,aG])
  3 () 0 ⟨[(2,.ptr 0 0),(3,.ptr 1 0),(26,.d (.sl .sub (iG a b c d e f))),(27,aa 3),(28,aa 0)],[h,g]⟩ (by omega) (by simp[aJ,aG])
 rw[key];cases runN (jM a b c d e f) 3 () 0<;>rfl
theorem Re(f v:Int)(ks:ah)(g v':Int)(a:ah)(q:ks.length<=1099511627776)(m:ks.length=a.length)
 (j:∀s s',s∈ks->s'∈a->ap XV 6 [.d (s.enc .sub),.d (s'.enc .sub)] []=some (aa (T.cmp s s'),[])):
 cj XV [] 2 [2,3,47,48] jE ⟨[(2,.ptr 0 0),(3,.ptr 1 0),(47,aa ks.length),(48,aa 0)],cE f v ks g v' a⟩=
  some (if T.cmps ks a=0 then(.exit 3,⟨[(2,.ptr 0 0),(3,.ptr 1 0),(47,aa ks.length),(48,aa ks.length),(49,ax false)],cE f v ks g v' a⟩)else(.ret,⟨[(4,aa (T.cmps ks a))],cE f v ks g v' a⟩)):=by
 have h:=cd (X:=XV) (T:=[]) (L:=2) (live:=[2,3,47,48]) (b:=jE) (n:=ks.length) (γ:=Int) (st:=fun(_:Unit) i=>⟨[(2,.ptr 0 0),(3,.ptr 1 0),(47,aa ks.length),(48,aa i)],cE f v ks g v' a⟩) (step:=kw ks a)
  (F:=fun _=>(.exit 3,⟨[(2,.ptr 0 0),(3,.ptr 1 0),(47,aa ks.length),(48,aa ks.length),(49,ax false)],cE f v ks g v' a⟩)) (R:=fun r=>(.ret,⟨[(4,aa r)],cE f v ks g v' a⟩))
  (fun _=>⟨by simp,by simp[jE]⟩)
  (fun _ i hi=>by
   have p:=bE (n:=i) (by omega);have e:i<a.length:=by omega
   have hc:=j _ _ (bV hi) (bV e);unfold kw cE
   by_cases k:T.cmp (aj ks i) (aj a i)=0
   ·rw[k]at hc⊢
    simp only[fw,om,if_false];refine⟨_,by simp[jE,x9,hi,e,p,cut,bg hi,bg e,hc,aP];rfl,?_⟩;simp[aJ,aG]
   ·simp only[fw,k,jT,if_true]
    have o:(T.cmp (aj ks i) (aj a i) !=0)=true:=by simp[k]
    refine⟨by simp,?_⟩;simp[jE,x9,hi,e,cut,bg hi,bg e,hc,aP,o])
  ks.length () 0 ⟨[(2,.ptr 0 0),(3,.ptr 1 0),(47,aa ks.length),(48,aa 0)],cE f v ks g v' a⟩ (by omega) (by simp[aJ,aG,cE])
 rw[sI ks a m _ _ (by omega)]at h;simp only[gD]at h;rw[h]
 by_cases k:T.cmps ks a=0<;>simp[k]
def fJ(a b c d e f:Int)(r:Int):Int:=if a<b then-1 else if a>b then 1 else if c<d then-1 else if c>d then 1 else if e<f then-1 else if e>f then 1 else r
theorem Iy(a b c d e f:Int):(runN (jM a b c d e f) 3 () 0= .inl ()/\a=b/\c=d/\e=f)\/∃r,runN (jM a b c d e f) 3 () 0= .inr r/\∀z,fJ a b c d e f z=r.1:=by
 simp only[runN,jM,js,fJ]
 by_cases c1:a<b
 ·right;refine⟨_,by simp[c1];rfl,fun z=> ?_⟩;simp[c1]
 by_cases g:a>b
 ·right;refine⟨_,by simp[c1,g];rfl,fun z=> ?_⟩;simp[c1,g]
 by_cases h:c<d
 ·right;refine⟨_,by simp[c1,g,h];rfl,fun z=> ?_⟩;simp[c1,g,h]
 by_cases j:c>d
 ·right;refine⟨_,by simp[c1,g,h,j];rfl,fun z=> ?_⟩;simp[c1,g,h,j]
 by_cases k:e<f
 ·right;refine⟨_,by simp[c1,g,h,j,k];rfl,fun z=> ?_⟩;simp[c1,g,h,j,k]
 by_cases m:e>f
 ·right;refine⟨_,by simp[c1,g,h,j,k,m];rfl,fun z=> ?_⟩;simp[c1,g,h,j,k,m]
 left;exact⟨by simp[c1,g,h,j,k,m],by omega,by omega,by omega⟩
theorem wH(f v:Int)(ks:ah)(b v':Int)(a:ah):T.cmp (.node f v ks) (.node b v' a)=fJ f b v v' ks.length a.length (T.cmps ks a):=by simp only[T.cmp,fJ,Int.ofNat_lt,gt_iff_lt]
theorem Rk(f v:Int)(ks:ah)(e v':Int)(a:ah)(n:ks.length<=1099511627776)(t:a.length<=1099511627776)
 (g:∀s s',s∈ks->s'∈a->ap XV 6 [.d (s.enc .sub),.d (s'.enc .sub)] []=some (aa (T.cmp s s'),[])):
 ap XV 6 [.d ((T.node f v ks).enc .sub),.d ((T.node e v' a).enc .sub)] []=some (aa (T.cmp (.node f v ks) (.node e v' a)),[]):=by
 rw[aN 6 v6 rfl];have m:=qAs f e v v' ks.length a.length (cE f v ks e v' a) rfl;simp[v6,aW,ba,bh,bd,splice,aP,df,List.replicate];simp only[iG,cE]at m;rw[m,wH];rcases Iy f e v v' ks.length a.length with⟨h,o,u,e3⟩|⟨r,h,p⟩
 ·rw[h]
  have b:ks.length=a.length:=by omega
  have j:=Re f v ks e v' a n b g;simp only[cE]at j;subst o;subst u
  simp[Gk,aP];rw[j];have q:fJ f f v v ks.length a.length (T.cmps ks a)=T.cmps ks a:=by simp[fJ,b]
  rw[q]
  by_cases k:T.cmps ks a=0
  ·simp[k,B9]
  ·simp[k]
 ·rw[h,p];simp
theorem BL(a b:T)(j:a.inner<=1099511627776)(g:b.inner<=1099511627776):ap XV 6 [.d (a.enc .sub),.d (b.enc .sub)] []=some (aa (T.cmp a b),[]):=by
 match a,b,j,g with
 | .node f v ks,.node m v' e,j,g=>simp only[T.inner]at j g;exact Rk f v ks m v' e (by omega) (by omega) (fun s s' k h=>BL s s' (by have:=T.qaF k;omega) (by have:=T.qaF h;omega))
termination_by a
decreasing_by
 simp_wf
 have:=gM k;omega
theorem cmp_zero(f v:Int)(ks:ah)(b v':Int)(a:ah):T.cmp (.node f v ks) (.node b v' a)=0↔f=b/\v=v'/\ks.length=a.length/\T.cmps ks a=0:=by
 rw[wH];unfold fJ
 constructor
 ·intro h
  iterate 6 (split at h;·omega)
  exact⟨by omega,by omega,by omega,h⟩
 ·rintro⟨rfl,rfl,h,h'⟩
  simp[h,h']
theorem YU(f v:Int)(ks:ah)(e v':Int)(a:ah)(z:ks.length<=1099511627776)(y:a.length<=1099511627776)
 (m:∀s s',s∈ks->s'∈a->ap XV 3 [.d (s.enc .sub),.d (s'.enc .sub)] []=some (ax (T.cmp s s'==0),[])):
 ap XV 3 [.d ((T.node f v ks).enc .sub),.d ((T.node e v' a).enc .sub)] []=some (ax (T.cmp (.node f v ks) (.node e v' a)==0),[]):=by
 rw[aN 3 v3 rfl];have p:=cmp_zero f v ks e v' a;have ne:¬(f=e/\v=v'/\ks.length=a.length/\T.cmps ks a=0)->(T.cmp (.node f v ks) (.node e v' a)==0)=false:=fun h=>by rw[<-p]at h;simpa using h
 by_cases c1:f=e
 case neg=>
  rw[ne (fun h=>c1 h.1)];have t:(f !=e)=true:=by simp[c1]
  simp[v3,t]
 by_cases o:v=v'
 case neg=>
  rw[ne (fun h=>o h.2.1)];have w:(v !=v')=true:=by simp[o]
  simp[v3,c1,w]
 by_cases k:ks.length=a.length
 case neg=>
  rw[ne (fun h=>k h.2.2.1)];have x:((ks.length:Int) !=a.length)=true:=by simp;omega
  simp[v3,c1,o,x]
 have h:=cd (X:=XV) (T:=[]) (L:=2) (live:=[2,3,5]) (b:=tR) (n:=ks.length) (γ:=Int) (st:=fun(_:Unit) i=>⟨[(2,.ptr 0 0),(3,.ptr 1 0),(5,aa i)],cE f v ks e v' a⟩) (step:=kw ks a)
  (F:=fun _=>(.exit 0,⟨[(2,.ptr 0 0),(3,.ptr 1 0),(5,aa ks.length),(31,ax false)],cE f v ks e v' a⟩)) (R:=fun r=>(.ret,⟨[(4,ax false)],cE f v ks e v' a⟩))
  (fun _=>⟨by simp,by simp[tR,cE]⟩)
  (fun _ i hi=>by
   have u:=bE (n:=i) (by omega);have g:i<a.length:=by omega
   have hc:=m _ _ (bV hi) (bV g);unfold kw cE
   by_cases j:T.cmp (aj ks i) (aj a i)=0
   ·rw[j]at hc⊢
    simp only[fw,om,if_false];refine⟨_,by simp[tR,JW,hi,g,u,cut,bg hi,bg g,hc];rfl,?_⟩;simp[aJ,aG]
   ·simp only[fw,j,jT,if_true]
    have q:(T.cmp (aj ks i) (aj a i)==0)=false:=by simp[j]
    rw[q]at hc;refine⟨by simp,?_⟩;simp[tR,JW,hi,g,cut,bg hi,bg g,hc])
  ks.length () 0 ⟨[(2,.ptr 0 0),(3,.ptr 1 0),(5,aa 0)],cE f v ks e v' a⟩ (by omega) (by simp[aJ,aG,cE])
 rw[sI ks a k _ _ (by omega)]at h;simp only[gD,cE]at h;simp[v3,c1,o,k];subst c1;subst o
 rw[k]at h;rw[h]
 by_cases j:T.cmps ks a=0
 ·have:T.cmp (.node f v ks) (.node f v a)=0:=p.2 ⟨rfl,rfl,k,j⟩
  simp[j,Ej,this]
 ·have:¬T.cmp (.node f v ks) (.node f v a)=0:=fun h=>j (p.1 h).2.2.2
  simp[j,Ej,this]
theorem nI(a b:T)(j:a.inner<=1099511627776)(g:b.inner<=1099511627776):ap XV 3 [.d (a.enc .sub),.d (b.enc .sub)] []=some (ax (T.cmp a b==0),[]):=by
 match a,b,j,g with
 | .node f v ks,.node m v' e,j,g=>simp only[T.inner]at j g;exact YU f v ks m v' e (by omega) (by omega) (fun s s' k h=>nI s s' (by have:=T.qaF k;omega) (by have:=T.qaF h;omega))
termination_by a
decreasing_by
 simp_wf
 have:=gM k;omega
theorem same_eq(a b:T)(g:a.inner<=1099511627776)(e:b.inner<=1099511627776):ap XV 4 [.d (a.enc .sub),.d (b.enc .sub)] []=some (ax (T.cmp a b==0),[]):=by rw[aN 4 v4 rfl];have h:=BL a b g e;simp[v4,h]
theorem kD(k i:Nat):runN (fun(_:Unit) (_:Nat)=>(Sum.inl ():Unit⊕Unit)) k () i= .inl ():=by
 induction k generalizing i with
 |zero=>rfl
 |succ k a=>simp[runN,a]
@[simp] theorem qWR(cs:al):isAgg (.agg cs)=true:=rfl
@[simp] theorem qWQ(k:IntKind)(n:Int):isAgg (.int k n)=false:=rfl
@[simp] theorem q0C(s:SymL):s.enc.cn=s.enc:=by simp[SymL.enc,SymL.cells]
@[simp] theorem qWP(s:SymL):isAgg s.enc=true:=rfl
@[simp] theorem qYc(s:SymL):s.enc.clr=s.enc:=by simp[SymL.enc,SymL.cells]
@[simp] theorem qSj(s:SymL):s.enc.cells=[.str s.name,.int .i64 s.arity,.bool s.ac]:=rfl
@[simp] theorem qRR(s:SymL):(AV.d s.enc).cells=[.d (.str s.name),aa s.arity,ax s.ac]:=rfl
@[simp] theorem qQ0(s:SymL):s.enc.isCell=false:=rfl
@[simp] theorem qYf(n:ByteArray)(a:Int)(b:Bool):DV.agg [.str n,.int .i64 a,.bool b]=SymL.enc ⟨n,a,b⟩:=rfl
@[simp high] theorem Gs(l:aF):(l.map SymL.enc).map DV.clr=l.map SymL.enc:=by simp[et,lH]
def aZ(l:aF)(i:Nat):SymL:=(l[i]?).getD ⟨⟨#[]⟩,0,false⟩
theorem cB{l:aF}(h:i<l.length):l[i]=aZ l i:=by simp[aZ,h]
theorem LZ{l:aF}(h:i<l.length):aZ l i∈l:=by rw[<-cB h];exact jt h
abbrev sg(l:aF):DV:= .sl .sub (l.map SymL.enc)
@[simp] theorem qXl(a b:ByteArray):fV .eql (.str a) (.str b)=some (.bool (gg a b)):=rfl
@[simp] theorem qXk(a b:ByteArray):fV .neq (.str a) (.str b)=some (.bool !(gg a b)):=rfl
def dA(x lo hi:Int):Bool:=decide (lo<=x)&&decide (x<=hi)
theorem rW(x lo hi:Int):ap XV 30 [aa x,aa lo,aa hi] []=some (ax (dA x lo hi),[]):=by
 rw[aN 30 rn rfl];unfold dA
 by_cases h:lo<=x
 ·have h':x>=lo:=h
  simp[rn,h]
 ·have h':¬x>=lo:=h
  simp[rn,h]
theorem nS(x lo hi:Int):ap XV 31 [aa x,aa lo,aa hi] []=some (ax (dA x lo hi),[]):=by
 rw[aN 31 t_ rfl];unfold dA
 by_cases h:lo<=x
 ·simp[t_,h]
 ·simp[t_,h]
def dS(l:aF)(f:Int):Bool:=dA f 0 (l.length-1)
theorem kO{l:aF}{f:Int}(h:dS l f=true):0<=f/\f.toNat<l.length:=by simp[dS,dA]at h;omega
theorem FF(l:aF)(b:l.length<=1099511627776)(f:Int):ap XV 29 [.d (sg l),aa f] []=some (ax (dS l f),[]):=by rw[aN 29 AH rfl];have a:IntKind.i64.wrap ((l.length:Int)-1)=l.length-1:=wrap_i64 (by omega) (by omega);have h:=rW f 0 (l.length-1);simp[AH,a,h,dS]
def bI(l:aF)(f:Int):Bool:=dS l f&&(aZ l f.toNat).ac
theorem rN(l:aF)(e:l.length<=1099511627776)(f:Int):ap XV 34 [.d (sg l),aa f] []=some (ax (bI l f),[]):=by
 rw[aN 34 ud rfl];have h:=FF l e f;unfold bI;cases hs:dS l f with
 |false=>rw[hs]at h;simp[ud,h]
 |true=>rw[hs]at h;obtain⟨b,a⟩:=kO hs;simp[ud,h,b,a,cB a,cut]
theorem uO(l:aF)(g:l.length<=1099511627776)(f:Int):ap XV 33 [.d (sg l),aa f] []=some (ax (bI l f),[]):=by
 rw[aN 33 ua rfl];have a:IntKind.i64.wrap ((l.length:Int)-1)=l.length-1:=wrap_i64 (by omega) (by omega);have h:=nS f 0 (l.length-1);unfold bI dS;cases hs:dA f 0 (l.length-1)with
 |false=>rw[hs]at h;simp[ua,h,a]
 |true=>rw[hs]at h;obtain⟨e,b⟩:=kO (l:=l) (f:=f) hs;simp[ua,h,a,e,b,cB b,cut]
def vP(x:Int):Int:=IntKind.i64.wrap ((BitVec.ofInt 64 x&&&BitVec.ofInt 64 255).toNat:Int)
def UZ(x y:Int):Int:=IntKind.i64.wrap ((BitVec.ofInt 64 x^^^BitVec.ofInt 64 y).toNat:Int)
theorem Me(x:Int):dm .and .i64 x 255=some (.int .i64 (vP x)):=rfl
theorem Iu(x y:Int):dm .xor .i64 x y=some (.int .i64 (UZ x y)):=rfl
theorem Jt(x:Int):dm .shr .i64 x 33=some (.int .i64 (x.fdiv 8589934592)):=rfl
theorem Kr(x:Int):dm .shr .i64 x 45=some (.int .i64 (x.fdiv 35184372088832)):=rfl
theorem LU(x:Int):0<=vP x/\vP x<=255:=by
 have h:(BitVec.ofInt 64 x&&&BitVec.ofInt 64 255).toNat<=255:=by rw[BitVec.toNat_and];exact cT Nat.and_le_right (by decide)
 unfold vP;generalize (BitVec.ofInt 64 x&&&BitVec.ofInt 64 255).toNat=n at*
 rw[wrap_i64 (by omega) (by omega)];omega
def ce(bs:aX)(pos st:Int):aA:=[.d (.sl .sub (bs.map (.int .u8))),aa pos,aa st]
variable{c:aA}{B:ar}
theorem GQ(h:i<B.length):aT (B.set i (some c)) i=some c:=by simp[aT,h]
theorem C3(h:aT B i=some c):i<B.length:=by
 rcases eN i B.length with a|a
 ·exact a
 ·simp[aT,gU a]at h
theorem jC(h:aT B i=some c):B[i]?=some (some c):=by
 unfold aT at h;split at h
 ·rename_i c' hc;rw[hc];simpa using h
 ·simp at h
theorem qGd(bs:aX)(n:bs.length<=1099511627776)(B:ar)(i:Nat)(pos st:Int)(e:aT B i=some (ce bs pos st))(k:0<=pos/\pos<=bs.length):
 ∃b pos' h:Int,(0<=b/\b<=255)/\(0<=pos'/\pos'<=bs.length)/\ap XV 165 [.ptr i 0] B=some (aa b,B.set i (some (ce bs pos' h))):=by
 have hi:=C3 e;have g:¬B.length<=i:=by omega
 have a:∀c:Option aA,List.take B.length (B.set i c)=B.set i c:=fun c=>dE (by simp)
 have d:∀c:Option aA,(B.set i c)[i]?=some c:=fun c=>by simp[hi]
 rw[aN 165 qO rfl];have e:=jC e;unfold ce at e⊢
 by_cases c:pos<bs.length
 ·have m:IntKind.i64.wrap (pos+1)=pos+1:=wrap_i64 (by omega) (by omega)
  have j:pos.toNat<bs.length:=by omega
  refine⟨_,_,_,?_,?_,by simp[qO,M7,Ki,qXG,aP,e,d,splice,Me,Iu,Jt,Kr,NP,g,c,k,j,m,cut,aW,bh,bd,gS,a];exact⟨rfl,rfl⟩⟩
  ·exact LU _
  ·exact⟨by omega,by omega⟩
 ·refine⟨_,_,_,?_,?_,by simp[qO,M7,Ki,aP,e,d,splice,Me,Iu,Jt,Kr,NP,g,c,aW,bh,bd,gS,a];exact⟨rfl,rfl⟩⟩
  ·exact LU _
  ·exact k
def Turned(bs:aX)(i:Nat)(B B':ar):Prop:=∃pos st:Int,(0<=pos/\pos<=bs.length)/\B'=B.set i (some (ce bs pos st))
def qcV(bs:aX)(i:Nat)(B:ar):Prop:=∃pos st:Int,(0<=pos/\pos<=bs.length)/\aT B i=some (ce bs pos st)
variable{B':ar}
theorem Turned.at{bs:aX}(hi:i<B.length)(h:Turned bs i B B'):qcV bs i B':=by obtain⟨pos,st,a,rfl⟩:=h;exact⟨pos,st,a,GQ hi⟩
theorem Turned.len{bs:aX}(h:Turned bs i B B'):B'.length=B.length:=by obtain⟨pos,st,a,rfl⟩:=h;simp
theorem Turned.trans{bs:aX}{a:ar}(h:Turned bs i B B')(h':Turned bs i B' a):Turned bs i B a:=by obtain⟨pos,st,e,rfl⟩:=h;obtain⟨pos',b,d,rfl⟩:=h';exact⟨pos',b,d,by simp⟩
theorem qcV.lt{bs:aX}(h:qcV bs i B):i<B.length:=by obtain⟨_,_,_,h⟩:=h;exact C3 h
theorem YB(bs:aX)(e:bs.length<=1099511627776)(B:ar)(i:Nat)(h:qcV bs i B):∃(b:Int) (B':ar),(0<=b/\b<=255)/\Turned bs i B B'/\ap XV 165 [.ptr i 0] B=some (aa b,B'):=by obtain⟨pos,st,m,k⟩:=h;obtain⟨b,pos',a,g,d,j⟩:=qGd bs e B i pos st k m;exact⟨b,_,g,⟨pos',a,d,rfl⟩,j⟩
theorem WA(x n:Int)(h:n≠0):dm .rem .i64 x n=some (.int .i64 (x.tmod n)):=by simp[dm,h]
theorem mV(bs:aX)(j:bs.length<=1099511627776)(B:ar)(i:Nat)(h:qcV bs i B)(n:Int)(o:0<n)(d:n<=256):∃(r:Int) (B':ar),(0<=r/\r<n)/\Turned bs i B B'/\ap XV 159 [.ptr i 0,aa n] B=some (aa r,B'):=by
 obtain⟨b,B',k,e,hc⟩:=YB bs j B i h;have g:=e.len;have p:b.tmod n=b%n:=Int.tmod_eq_emod_of_nonneg k.1;have m:=WA b n (by omega);have a:List.take B.length B'=B':=dE (by omega);refine⟨b%n,B',⟨Int.emod_nonneg _ (by omega),Int.emod_lt_of_pos _ o⟩,e,?_⟩;rw[aN 159 uN rfl];have c1:¬n<=0:=by omega
 simp[uN,c1,d,hc,m,p,a]
theorem GO(bs:aX)(k:bs.length<=1099511627776)(B:ar)(i:Nat)(h:qcV bs i B)(l:aX)(p:0<l.length)(o:l.length<=256):∃(j:Nat) (n:j<l.length) (B':ar),Turned bs i B B'/\ap XV 160 [.ptr i 0,.d (.sl .sub (l.map (.int .i64)))] B=some (.d (.int .i64 l[j]),B'):=by
 obtain⟨r,B',m,e,hc⟩:=mV bs k B i h l.length (by omega) (by omega);have g:=e.len;have a:List.take B.length B'=B':=dE (by omega);refine⟨r.toNat,by omega,B',e,?_⟩;rw[aN 160 BS rfl];have b:r.toNat<l.length:=by omega
 simp[BS,hc,m,b,a,cut]
def wg(x:Int):Int:=IntKind.i64.wrap ((BitVec.ofInt 64 x&&&BitVec.ofInt 64 1073741823).toNat:Int)
theorem qAe(x:Int):dm .and .i64 x 1073741823=some (.int .i64 (wg x)):=rfl
def Hx(bs:aX)(s:Int)(i:Nat):Int⊕Unit:= .inl (wg (IntKind.i64.wrap (IntKind.i64.wrap (IntKind.i64.wrap (s*131)+IntKind.i64.wrap ((bs[i]?).getD 0))+7)))
theorem Ip{β:Type}(f:β->Nat->β):∀(k:Nat) (a:β) (i:Nat),∃b,runN (fun a i=>(.inl (f a i):β⊕Unit)) k a i= .inl b
 |0,a,i=>⟨a,rfl⟩
 |k+1,a,i=>by simp only[runN];exact Ip f k _ _
theorem qKt(bs:aX)(k:bs.length<=1099511627776)(B:ar):∃st:Int,ap XV 156 [.d (.sl .sub (bs.map (.int .u8)))] B=some (.ptr B.length 0,B++[some (ce bs 0 st)]):=by
 have h:=cd (X:=XV) (T:=XV.lin 156) (L:=B.length) (live:=[0,3,4]) (b:=um) (n:=min bs.length 4000) (γ:=Unit) (st:=fun(s:Int) i=>⟨[(0,.d (.sl .sub (bs.map (.int .u8)))),(3,aa s),(4,aa i)],B⟩) (step:=Hx bs)
  (F:=fun s=>(.exit 0,⟨[(0,.d (.sl .sub (bs.map (.int .u8)))),(3,aa s),(4,aa (min bs.length 4000:Nat)),(15,ax false)],B⟩)) (R:=fun _=>(.ret,⟨[],B⟩))
  (fun s=>⟨by simp,by
   by_cases c:bs.length<=4000
   ·rw[wW c];simp[um]
   ·have c1:(4000:Int)<bs.length:=by omega
    rw[Nat.min_eq_right (by omega)];simp[um,c1]⟩)
  (fun s i hi=>by
   have g:=bE (n:=i) (by omega);have e:i<bs.length:=by omega
   have j:(i:Int)<4000:=by omega
   refine⟨_,by simp[um,e,j,g,cut,qAe];rfl,by simp[aJ,aG,e]⟩)
  (min bs.length 4000) (IntKind.i64.wrap (27064+bs.length)) 0 ⟨[(0,.d (.sl .sub (bs.map (.int .u8)))),(3,aa (IntKind.i64.wrap (27064+bs.length))),(4,aa 0)],B⟩ (by omega) (by simp[aJ,aG])
 obtain⟨st,a⟩:=Ip (fun(s:Int) (i:Nat)=>wg (IntKind.i64.wrap (IntKind.i64.wrap (IntKind.i64.wrap (s*131)+IntKind.i64.wrap ((bs[i]?).getD 0))+7))) (min bs.length 4000) (IntKind.i64.wrap (27064+bs.length)) 0;rw[show Hx bs=fun s i=>(.inl (wg (IntKind.i64.wrap (IntKind.i64.wrap (IntKind.i64.wrap (s*131)+IntKind.i64.wrap ((bs[i]?).getD 0))+7))):Int⊕Unit)from rfl,a]at h;refine⟨st,?_⟩;rw[aN 156 Ah rfl];simp[Ah];simp only[XM]at h;rw[h];simp[MK,ce,aW,ba,bh,bd,splice]
mutual
def T.fold{σ:Type}(e:T->σ->σ):T->σ->σ
 | .node f v ks,s=>T.folds e ks (e (.node f v ks) s)
def T.folds{σ:Type}(e:T->σ->σ):ah->σ->σ
 | [],s=>s
 |t::r,s=>T.folds e r (T.fold e t s)
end
theorem take_at{α:Type}(B r:List α):(B++r).take B.length=B:=by simp
theorem gi{L:Nat}{live:ae}{s:XS}{a:aE}{e:ar}(h:keep s.r live=a)(g:aG L a=true)(b:B.length=L)(d:s.B=B++e):aJ L live s=some ⟨a,B⟩:=by unfold aJ;rw[h,d,aw ⟨g,by simp;omega⟩,<-b,take_at]
variable{σ:Type}
def nW(e:T->σ->σ)(l:ah)(s:σ)(i:Nat):σ⊕Unit:= .inl (T.fold e (aj l i) s)
theorem DN(e:T->σ->σ)(l:ah):∀(k i:Nat) (s:σ),i+k=l.length->runN (nW e l) k s i= .inl (T.folds e (l.drop i) s)
 |0,i,s,h=>by have b:l.drop i=[]:=ki (by omega);simp[runN,b,T.folds]
 |k+1,i,s,h=>by
  have a:i<l.length:=by omega
  rw[dl a,bg a];simp only[runN,nW,T.folds];exact DN e l k (i+1) _ (by omega)
theorem PD(st:σ->ar)(e:T->σ->σ)(k:Nat)(caps:aA)(m:Nat)(G:∀s,(st s).length=m)(j:∀n,m<=n->AV.safe.safes n caps=true)(t:caps.map AV.clr=caps)(I:¬0∈XV.lin k)
 (f v:Int) (ks:ah) (O:ks.length<=1099511627776)
 (K:∀(x:T) (s:σ) (r:ar),ap XV k (.d (x.enc .sub)::caps) (st s++r)=some (.d (.tup []),st (e x s)++r))
 (p:∀x,x∈ks->∀(s:σ) (r:ar),ap XV 25 [.d (x.enc .sub),.fn k caps] (st s++r)=some (.d (.tup []),st (T.fold e x s)++r)) (s:σ) (r:ar):
 ap XV 25 [.d ((T.node f v ks).enc .sub),.fn k caps] (st s++r)=some (.d (.tup []),st (T.fold e (.node f v ks) s)++r):=by
 rw[aN 25 qH rfl];have g:=K (.node f v ks) s (r++[some [aa f,aa v,.d (ai .sub ks)]]);have len:∀s,(st s++r).length=m+r.length:=fun s=>by simp[G]
 have a:=cd (X:=XV) (T:=XV.lin 25) (L:=m+r.length+1) (live:=[1,10,11,12]) (b:=oe) (n:=ks.length) (γ:=Unit) (st:=fun(s:σ) i=>⟨[(1,.fn k caps),(10,.d (ai .sub ks)),(11,aa ks.length),(12,aa i)],(st s++r)++[some [aa f,aa v,.d (ai .sub ks)]]⟩) (step:=nW e ks)
  (F:=fun s=>(.exit 0,⟨[(1,.fn k caps),(10,.d (ai .sub ks)),(11,aa ks.length),(12,aa ks.length),(13,ax false)],(st s++r)++[some [aa f,aa v,.d (ai .sub ks)]]⟩)) (R:=fun _=>(.ret,⟨[],[]⟩))
  (fun s=>⟨by simp,by simp[oe]⟩)
  (fun s i hi=>by
   have M:=bE (n:=i) (by omega);have y:=p _ (bV hi) s (r++[some [aa f,aa v,.d (ai .sub ks)],some [aa (aj ks i).f,aa (aj ks i).v,.d (ai .sub (aj ks i).kids)]]);have C:=len s;have h:=len (T.fold e (aj ks i) s);simp only[<-cr]at y;generalize P:st s++r=B at y C;generalize o:st (T.fold e (aj ks i) s)++r=B' at y h;unfold nW;refine⟨⟨[(1,.fn k caps),(10,.d (ai .sub ks)),(11,aa ks.length),(12,aa (i+1:Nat))],B'++[some [aa f,aa v,.d (ai .sub ks)],some [aa (aj ks i).f,aa (aj ks i).v,.d (ai .sub (aj ks i).kids)]]⟩,?_,?_⟩
   ·simp[oe,hi,M,cut,bg hi,t,y,splice]
   ·refine gi (e:=[some [aa (aj ks i).f,aa (aj ks i).v,.d (ai .sub (aj ks i).kids)]]) (by simp) (by simp[aG,j _ (show m<=m+r.length+1 by omega)]) (by simp[h,o]) (by simp[<-o]))
  ks.length (e (.node f v ks) s) 0 ⟨[(1,.fn k caps),(10,.d (ai .sub ks)),(11,aa ks.length),(12,aa 0)],(st (e (.node f v ks) s)++r)++[some [aa f,aa v,.d (ai .sub ks)]]⟩ (by omega) (gi (e:=[]) (by simp) (by simp[aG,j _ (show m<=m+r.length+1 by omega)]) (by simp[G];omega) (by simp))
 rw[DN e ks _ _ _ (by omega)]at a;simp only[gD]at a;have z:=len s;have q:=len (e (.node f v ks) s);have D:(st (T.fold e (.node f v ks) s)++r).length=m+r.length:=len _;have u:T.folds e ks (e (.node f v ks) s)=T.fold e (.node f v ks) s:=by simp[T.fold]
 rw[u]at a;simp only[<-cr]at g;generalize H:st s++r=B0 at g z;generalize N:st (e (.node f v ks) s)++r=B1 at g q a;generalize J:st (T.fold e (.node f v ks) s)++r=B2 at D a;have w:B1.length=B0.length:=by omega
 rw[<-q]at a;simp only[ai,Ia]at g a;simp[qH,g,t,I,w.symm];rw[a];simp[show B1.length=B2.length by omega]
theorem Ez(st:σ->ar)(e:T->σ->σ)(k:Nat)(caps:aA)(m:Nat)(o:∀s,(st s).length=m)(a:∀n,m<=n->AV.safe.safes n caps=true)(b:caps.map AV.clr=caps)(h:¬0∈XV.lin k)
 (p:∀(x:T) (s:σ) (r:ar),ap XV k (.d (x.enc .sub)::caps) (st s++r)=some (.d (.tup []),st (e x s)++r)) (t:T) (g:t.inner<=1099511627776) (s:σ) (r:ar):
 ap XV 25 [.d (t.enc .sub),.fn k caps] (st s++r)=some (.d (.tup []),st (T.fold e t s)++r):=by
 match t,g with
 | .node f v ks,g=>simp only[T.inner]at g;exact PD st e k caps m o a b h f v ks (by omega) p (fun x j s r=>Ez st e k caps m o a b h p x (by have:=T.qaF j;omega) s r) s r
termination_by t
decreasing_by
 simp_wf
 have:=gM j;omega
theorem wrap_add(a b:Int):IntKind.i64.wrap (IntKind.i64.wrap a+b)=IntKind.i64.wrap (a+b):=by
 show(if(true&&decide (((if(true&&decide (a%18446744073709551616>=9223372036854775808))=true then a%18446744073709551616-18446744073709551616 else a%18446744073709551616)+b)%18446744073709551616>=9223372036854775808))=true then((if(true&&decide (a%18446744073709551616>=9223372036854775808))=true then a%18446744073709551616-18446744073709551616 else a%18446744073709551616)+b)%18446744073709551616-18446744073709551616 else((if(true&&decide (a%18446744073709551616>=9223372036854775808))=true then a%18446744073709551616-18446744073709551616 else a%18446744073709551616)+b)%18446744073709551616)=(if(true&&decide ((a+b)%18446744073709551616>=9223372036854775808))=true then(a+b)%18446744073709551616-18446744073709551616 else(a+b)%18446744073709551616);simp only[fh,bu];have:((if a%18446744073709551616>=9223372036854775808 then a%18446744073709551616-18446744073709551616 else a%18446744073709551616)+b)%18446744073709551616=(a+b)%18446744073709551616:=by split<;>omega
 rw[this]
theorem Xu(a b:Int):IntKind.i64.wrap (a+IntKind.i64.wrap b)=IntKind.i64.wrap (a+b):=by rw[Int.add_comm,wrap_add,Int.add_comm]
mutual
def T.sum(w:T->Int):T->Int
 | .node f v ks=>w (.node f v ks)+T.sums w ks
def T.sums(w:T->Int):ah->Int
 | []=>0
 |t::r=>T.sum w t+T.sums w r
end
def pa(w:T->Int)(x:T)(n:Int):Int:=IntKind.i64.wrap (n+w x)
mutual
theorem LV(w:T->Int):∀(t:T) (n:Int),T.fold (pa w) t (IntKind.i64.wrap n)=IntKind.i64.wrap (n+T.sum w t)
 | .node f v ks,n=>by simp only[T.fold,T.sum,pa];rw[wrap_add,LC w ks,C2]
theorem LC(w:T->Int):∀(l:ah) (n:Int),T.folds (pa w) l (IntKind.i64.wrap n)=IntKind.i64.wrap (n+T.sums w l)
 | [],n=>by simp[T.folds,T.sums]
 |t::r,n=>by simp only[T.folds,T.sums];rw[LV w t,LC w r,C2]
end
def Fy(c:T->Int)(l:ah)(n:Int)(i:Nat):Int⊕Unit:= .inl (IntKind.i64.wrap (n+c (aj l i)))
theorem LY(w:T->Int)(l:ah):∀(k i:Nat) (n:Int),i+k=l.length->runN (Fy (fun t=>IntKind.i64.wrap (T.sum w t)) l) k (IntKind.i64.wrap n) i= .inl (IntKind.i64.wrap (n+T.sums w (l.drop i)))
 |0,i,n,h=>by have b:l.drop i=[]:=ki (by omega);simp[runN,b,T.sums]
 |k+1,i,n,h=>by
  have a:i<l.length:=by omega
  rw[dl a,bg a];simp only[runN,Fy,T.sums];rw[Xu,wrap_add,LY w l k (i+1) _ (by omega),C2]
theorem Wt(t:T)(e:t.inner<=1099511627776):ap XV 23 [.d (t.enc .sub)] []=some (aa (IntKind.i64.wrap (T.sum (fun _=>1) t)),[]):=by
 rw[aN 23 vk rfl];have key:∀(n:Int),ap XV 25 [.d (t.enc .sub),.fn 24 [.ptr 1 0]] ([some [aa t.f,aa t.v,.d (ai .sub t.kids)],some [aa n]]++[])=some (.d (.tup []),[some [aa t.f,aa t.v,.d (ai .sub t.kids)],some [aa (T.fold (pa fun _=>1) t n)]]++[]):=fun n=>
  Ez (fun n:Int=>[some [aa t.f,aa t.v,.d (ai .sub t.kids)],some [aa n]]) (pa fun _=>1) 24 [.ptr 1 0] 2 (fun _=>rfl) (fun n g=>by simp;omega) rfl (by simp) (fun x s r=>by rw[aN 24 BO rfl];simp[BO,splice,pa]) t e n []
 have a:=key 0;have b:=LV (fun _=>1) t 0;rw[show IntKind.i64.wrap 0=0 from rfl,Int.zero_add]at b;rw[b]at a;simp only[dB,ai]at a;simp[vk,splice,a]
theorem qqB(f v:Int)(ks:ah)(j:ks.length<=1099511627776)(a:∀s,s∈ks->ap XV 22 [.d (s.enc .sub)] []=some (aa (IntKind.i64.wrap (T.sum (fun _=>1) s)),[])):
 ap XV 22 [.d ((T.node f v ks).enc .sub)] []=some (aa (IntKind.i64.wrap (T.sum (fun _=>1) (.node f v ks))),[]):=by
 rw[aN 22 v22 rfl];have h:=cd (X:=XV) (T:=[]) (L:=1) (live:=[1,3,4]) (b:=y8) (n:=ks.length) (γ:=Unit) (st:=fun(n:Int) i=>⟨[(1,.ptr 0 0),(3,aa n),(4,aa i)],[some [aa f,aa v,.d (ai .sub ks)]]⟩) (step:=Fy (fun t=>IntKind.i64.wrap (T.sum (fun _=>1) t)) ks)
  (F:=fun n=>(.exit 0,⟨[(1,.ptr 0 0),(3,aa n),(4,aa ks.length),(9,ax false)],[some [aa f,aa v,.d (ai .sub ks)]]⟩)) (R:=fun r=>(.ret,⟨[],[]⟩))
  (fun _=>⟨by simp,by simp[y8]⟩)
  (fun n i hi=>by have e:=bE (n:=i) (by omega);have hc:=a _ (bV hi);exact⟨_,by simp[y8,hi,e,cut,bg hi,hc];rfl,by simp[aJ,aG]⟩)
  ks.length (IntKind.i64.wrap 1) 0 ⟨[(1,.ptr 0 0),(3,aa 1),(4,aa 0)],[some [aa f,aa v,.d (ai .sub ks)]]⟩ (by omega) (by simp[aJ,aG,show IntKind.i64.wrap 1=1 from rfl])
 rw[LY _ _ _ _ _ (by omega)]at h;simp only[gD,ai]at h;have g:T.sum (fun _=>1) (T.node f v ks)=1+T.sums (fun _=>1) ks:=by simp[T.sum]
 simp[v22,g];rw[h];simp[KI]
theorem NC(t:T)(a:t.inner<=1099511627776):ap XV 22 [.d (t.enc .sub)] []=some (aa (IntKind.i64.wrap (T.sum (fun _=>1) t)),[]):=by
 match t,a with
 | .node f v ks,a=>simp only[T.inner]at a;exact qqB f v ks (by omega) (fun s b=>NC s (by have:=T.qaF b;omega))
termination_by t
decreasing_by
 simp_wf
 have:=gM b;omega
theorem jl(t:T):ap XV 75 [.d (t.enc .sub)] []=some (ax (t.f== -1),[]):=by rw[aN 75 Bf rfl];simp[Bf]
abbrev is(l:aX):DV:= .sl .sub (l.map (.int .i64))
def dM(l:aX)(i:Nat):Int:=(l[i]?).getD 0
theorem mz{l:aX}(h:i<l.length):l[i]=dM l i:=by simp[dM,h]
@[simp high] theorem qXS(l:aX):(l.map (DV.int .i64)).map DV.clr=l.map (DV.int .i64):=by simp[et,lH]
def ml(c:Int):Bool:=decide (97<=c)&&decide (c<=122)
def rE(c:Int):Bool:=decide (48<=c)&&decide (c<=57)
theorem LG(c:Int):ap XV 61 [.d (.int .u8 c)] []=some (ax (ml c),[]):=by rw[aN 61 BM rfl];cases h1:decide (97<=c)<;>simp[BM,h1,ml]
theorem Qu(c:Int):ap XV 62 [.d (.int .u8 c)] []=some (ax (rE c),[]):=by rw[aN 62 w9 rfl];cases h1:decide (48<=c)<;>simp[w9,h1,rE]
def fq(x:Int)(i:Nat):Prop:=(97<=x/\x<=122)\/(0<i/\48<=x/\x<=57)
instance (x:Int) (i:Nat):Decidable (fq x i):=by unfold fq;exact inferInstance
theorem JD(s:ByteArray)(j:s.size<=1099511627776)(i:Nat)(g:i<s.size)(x:Int)(a:ng s i=some x):
 aO XV [] rG ⟨[(0,.d (.str s)),(3,aa i)],[]⟩=some (if fq x i then(.normal,⟨[(0,.d (.str s)),(3,aa (i+1:Nat))],[]⟩)else(.ret,⟨[(2,ax false)],[]⟩)):=by
 have h:=bE (n:=i) (by omega);simp[rG,a,g];cases h1:decide (97<=x)
 case true=>
  simp[a];cases h2:decide (x<=122)
  case true=>
   simp[h];have:fq x i:=by simp at h1 h2;exact .inl ⟨h1,h2⟩
   simp[this]
  case false=>
   simp;cases h3:decide (0<i)<;>simp[a]
   case true=>
    have b:(48<=x):=by simp at h1;omega
    simp[b,a];have e:¬(x<=57):=by simp at h1;omega
    have:¬fq x i:=by simp at h1 h2;unfold fq;omega
    simp[e,this]
   case false=>
    have:¬fq x i:=by simp at h1 h2 h3;unfold fq;omega
    simp[this]
 case false=>
  simp;cases h3:decide (0<i)
  case true=>
   simp[a];cases b:decide (48<=x)
   case true=>
    simp[a];cases e:decide (x<=57)
    case true=>
     have:fq x i:=by simp at h1 h3 b e;unfold fq;omega
     simp[h,this]
    case false=>
     have:¬fq x i:=by simp at h1 h3 b e;unfold fq;omega
     simp[this]
   case false=>
    have:¬fq x i:=by simp at h1 h3 b;unfold fq;omega
    simp[this]
  case false=>
   have:¬fq x i:=by simp at h1 h3;unfold fq;omega
   simp[this]
def lE(s:ByteArray)(i:Nat):Bool:=decide (fq (fW s i) i)
def jd(s:ByteArray)(f:ByteArray->Nat->Bool)(i k:Nat):Bool:=(List.range' i k).all (f s)
theorem NK(s:ByteArray)(f:ByteArray->Nat->Bool)(i:Nat):jd s f i 0=true:=rfl
theorem Hu(s:ByteArray)(f:ByteArray->Nat->Bool)(i k:Nat):jd s f i (k+1)=(f s i&&jd s f (i+1) k):=by simp[jd,DC]
theorem qH8(s:ByteArray)(f:ByteArray->Nat->Bool)(i k:Nat):jd s f i k=true↔∀j,i<=j->j<i+k->f s j=true:=by simp only[jd,bB,List.mem_range'_1];exact⟨fun h j a b=>h j ⟨a,b⟩,fun h j a=>h j a.1 a.2⟩
theorem Ms(s:ByteArray)(e:s.size<=1099511627776):∀(k i:Nat),i+k=s.size->
 cj XV [] 0 [0,3] rG ⟨[(0,.d (.str s)),(3,aa i)],[]⟩=
  some (if jd s lE i k then(.exit 0,⟨[(0,.d (.str s)),(3,aa s.size),(7,ax false)],[]⟩)else(.ret,⟨[(2,ax false)],[]⟩))
 |0,i,g=>by
  have:i=s.size:=by omega
  subst this;rw[mZ];simp[aJ,aG,rG,NK]
 |k+1,i,g=>by
  have a:i<s.size:=by omega
  have j:=Ms s e k (i+1) (by omega);rw[mZ,Hu]
  by_cases h:fq (fW s i) i
  ·have b:lE s i=true:=by simp[lE,h]
   rw[b,fh,<-j];simp[aJ,aG,JD s e i a _ (uK a),h]
  ·have b:lE s i=false:=by simp[lE,h]
   simp[aJ,aG,JD s e i a _ (uK a),h,b]
def kU(s:ByteArray):Bool:=jd s lE 0 s.size&&dA s.size 1 8
theorem Su(s:ByteArray)(a:s.size<=1099511627776):ap XV 59 [.d (.str s)] []=some (ax (kU s),[]):=by
 rw[aN 59 wj rfl];have h:=Ms s a s.size 0 (by omega);simp[wj];simp at h;rw[h];cases h1:jd s lE 0 s.size
 ·simp[kU,h1]
 ·simp[kU,h1,nS]
def kW(s:ByteArray)(i:Nat):Bool:=ml (fW s i)||rE (fW s i)
theorem Hy(s:ByteArray)(g:s.size<=1099511627776)(i:Nat)(a:i<s.size):
 aO XV [] sX ⟨[(0,.d (.str s)),(5,aa s.size),(6,aa i)],[]⟩=some (if kW s i then(.normal,⟨[(0,.d (.str s)),(5,aa s.size),(6,aa (i+1:Nat))],[]⟩)else(.ret,⟨[(2,ax false)],[]⟩)):=by
 have b:=bE (n:=i) (by omega);have e:=uK a;simp[sX,e,a,LG];cases h1:ml (fW s i)
 ·simp[e,Qu]
  cases h2:rE (fW s i)<;>simp[b,kW,h1,h2]
 ·simp[b,kW,h1]
theorem M_(s:ByteArray)(b:s.size<=1099511627776):∀(k i:Nat),i+k=s.size->
 cj XV [] 0 [0,5,6] sX ⟨[(0,.d (.str s)),(5,aa s.size),(6,aa i)],[]⟩=
  some (if jd s kW i k then(.exit 0,⟨[(0,.d (.str s)),(5,aa s.size),(6,aa s.size),(7,ax false)],[]⟩)else(.ret,⟨[(2,ax false)],[]⟩))
 |0,i,g=>by
  have:i=s.size:=by omega
  subst this;rw[mZ];simp[aJ,aG,sX,NK]
 |k+1,i,g=>by
  have a:i<s.size:=by omega
  have e:=M_ s b k (i+1) (by omega);rw[mZ,Hu];cases h:kW s i
  ·simp[aJ,aG,Hy s b i a,h]
  ·rw[fh,<-e]
   simp[aJ,aG,Hy s b i a,h]
def sM(s:ByteArray):Bool:=jd s kW 0 s.size&&(dA s.size 1 8&&ml (fW s 0))
theorem qpE(s:ByteArray)(b:s.size<=1099511627776):ap XV 60 [.d (.str s)] []=some (ax (sM s),[]):=by
 rw[aN 60 uU rfl];have h:=M_ s b s.size 0 (by omega);simp[uU];simp at h;rw[h];cases h1:jd s kW 0 s.size
 ·simp[sM,h1]
 ·simp[sM,h1,rW]
  cases h2:dA s.size 1 8
  ·simp
  ·have a:0<s.size:=by simp[dA]at h2;omega
   simp[uK a,LG]
theorem qKj(s:ByteArray)(i:Nat):lE s i=true↔(97<=fW s i/\fW s i<=122)\/(0<i/\48<=fW s i/\fW s i<=57):=by unfold lE;rw[bu];rfl
theorem qFM(s:ByteArray)(i:Nat):kW s i=true↔(97<=fW s i/\fW s i<=122)\/(48<=fW s i/\fW s i<=57):=by simp[kW,ml,rE]
theorem Y5(x:Int):ml x=true↔97<=x/\x<=122:=by simp[ml]
theorem U7(s:ByteArray):sM s=kU s:=by
 rw[r_];simp only[kU,sM,aQ,qH8,qKj,qFM,Y5];constructor
 ·rintro⟨d,b,h⟩
  refine⟨fun j e a=> ?_,b⟩;have g:=d j e a;rcases kY j with rfl|k
  ·exact .inl h
  ·omega
 ·rintro⟨d,b⟩
  have n:0<s.size:=by simp[dA]at b;omega
  have m:=d 0 (bf _) (by omega);refine⟨fun j e a=> ?_,b,?_⟩
  ·have g:=d j e a
   omega
  ·omega
def a8(q:Nat->Bool):Nat->Nat->a_
 |0,_=>none
 |k+1,i=>if q i then some i else a8 q k (i+1)
def cu(q:Nat->Bool)(_:Unit)(i:Nat):Unit⊕Nat:=if q i then .inr i else .inl ()
theorem eH(q:Nat->Bool):∀(k i:Nat),runN (cu q) k () i=match a8 q k i with|some j=> .inr j|none=> .inl ()
 |0,i=>rfl
 |k+1,i=>by
  simp only[runN,cu,a8];cases h:q i
  ·simp[eH q k (i+1)]
  ·simp
def dw:a_->Int
 |some j=>j
 |none=> -1
theorem eQ(q:Nat->Bool):∀(k i j:Nat),a8 q k i=some j->i<=j/\j<i+k/\q j=true
 |0,i,j,h=>by simp[a8]at h
 |k+1,i,j,h=>by
  simp only[a8]at h;split at h
  ·simp at h;subst h;exact⟨bf _,by omega,by assumption⟩
  ·obtain⟨d,b,a⟩:=eQ q k (i+1) j h;exact⟨by omega,by omega,a⟩
def g_(l:aF)(name:ByteArray):Int:=dw (a8 (fun i=>gg (aZ l i).name name) l.length 0)
theorem WL(l:aF)(name:ByteArray)(m:l.length<=1099511627776):ap XV 13 [.d (sg l),.d (.str name)] []=some (aa (g_ l name),[]):=by
 rw[aN 13 uV rfl];have h:=cd (X:=XV) (T:=[]) (L:=0) (live:=[0,1,5]) (b:=tQ) (n:=l.length) (st:=fun(_:Unit) i=>⟨[(0,.d (sg l)),(1,.d (.str name)),(5,aa i)],[]⟩) (step:=cu fun i=>gg (aZ l i).name name)
  (F:=fun _=>(.exit 0,⟨[(0,.d (sg l)),(1,.d (.str name)),(5,aa l.length),(9,ax false)],[]⟩)) (R:=fun(j:Nat)=>(.ret,⟨[(4,aa j)],[]⟩))
  (fun a=>⟨by simp,by simp[tQ]⟩)
  (fun a i hi=>by
   have k:=bE (n:=i) (by omega);unfold cu
   by_cases e:gg (aZ l i).name name=true
   ·rw[aw e];exact⟨by simp,by simp[tQ,hi,cut,cB hi,e]⟩
   ·rw[au e]
    have g:gg (aZ l i).name name=false:=by simpa using e
    exact⟨_,by simp[tQ,hi,k,cut,cB hi,g];rfl,by simp[aJ,aG]⟩)
  l.length () 0 ⟨[(0,.d (sg l)),(1,.d (.str name)),(5,aa 0)],[]⟩ (by omega) (by simp[aJ,aG])
 rw[eH]at h;simp[uV];rw[h];unfold g_;cases e:a8 (fun i=>gg (aZ l i).name name) l.length 0<;>simp[dw]
theorem qpA(l:aF)(e:Nat)(caps:aA)(B:ar)(P:SymL->Bool)(t:l.length<=1099511627776)(p:AV.safe.safes B.length caps=true)(g:caps.map AV.clr=caps)(o:¬0∈XV.lin e)
 (q:∀s,s∈l->ap XV e (.d s.enc::caps) B=some (ax (P s),B)):
 ap XV 19 [.d (sg l),.fn e caps] B=some (aa (dw (a8 (fun i=>P (aZ l i)) l.length 0)),B):=by
 rw[aN 19 Bq rfl];have h:=cd (X:=XV) (T:=XV.lin 19) (L:=B.length) (live:=[0,1,7,8]) (b:=tz) (n:=l.length) (st:=fun(_:Unit) i=>⟨[(0,.d (sg l)),(1,.fn e caps),(7,aa l.length),(8,aa i)],B⟩) (step:=cu fun i=>P (aZ l i))
  (F:=fun _=>(.exit 0,⟨[(0,.d (sg l)),(1,.fn e caps),(7,aa l.length),(8,aa l.length),(9,ax false)],B⟩)) (R:=fun(j:Nat)=>(.ret,⟨[(4,aa j)],B⟩))
  (fun a=>⟨by simp,by simp[tz]⟩)
  (fun a i hi=>by
   have r:=bE (n:=i) (by omega);have hc:=q _ (LZ hi);unfold cu
   by_cases k:P (aZ l i)=true
   ·rw[aw k];rw[k]at hc
    exact⟨by simp,by simp[tz,hi,cut,cB hi,hc,g,o]⟩
   ·rw[au k]
    have m:P (aZ l i)=false:=by simpa using k
    rw[m]at hc;exact⟨_,by simp[tz,hi,r,cut,cB hi,hc,g,o];rfl,by simp[aJ,aG,p]⟩)
  l.length () 0 ⟨[(0,.d (sg l)),(1,.fn e caps),(7,aa l.length),(8,aa 0)],B⟩ (by omega) (by simp[aJ,aG,p])
 rw[eH]at h;simp only[Xb]at h;simp[Bq];rw[h];cases k:a8 (fun i=>P (aZ l i)) l.length 0<;>simp[dw]
theorem Wu(s:SymL)(name:ByteArray):ap XV 18 [.d s.enc,.ptr 0 0] [some [.d (.str name)]]=some (ax (gg s.name name),[some [.d (.str name)]]):=by rw[aN 18 wi rfl];simp[wi]
theorem UA(l:aF)(name:ByteArray)(a:l.length<=1099511627776):ap XV 14 [.d (sg l),.d (.str name)] []=some (aa (g_ l name),[]):=by rw[aN 14 BX rfl];have hc:=qpA l 18 [.ptr 0 0] [some [.d (.str name)]] (fun s=>gg s.name name) a (by simp) (by simp) (by simp) (fun s _=>Wu s name);simp[BX,hc,g_]
def hU(l:aF)(s:SymL)(i:Nat):Bool:= !kU s.name|| !(decide (g_ l s.name=i))|| !(dA s.arity 0 3)||(s.ac&& !decide (s.arity=2))
def vX(s:SymL):Bool:=gg s.name ⟨#[116,116]⟩&&decide (s.arity=0)
def nZ(l:aF):Bool:=(a8 (fun i=>hU l (aZ l i) i) l.length 0).isNone&&(dA l.length 1 8&&vX (aZ l 0))
theorem tx(l:aF)(s:SymL)(i:Nat):hU l s i=false↔kU s.name=true/\g_ l s.name=i/\dA s.arity 0 3=true/\(s.ac=true->s.arity=2):=by simp[hU,and_assoc]
theorem UM(l:aF)(s:l.length<=1099511627776)(i:Nat)(hi:i<l.length)(r:(aZ l i).name.size<=1099511627776):
 FI 0 [0,5,6,7] (fun(_:Unit) i=>⟨[(0,.d (sg l)),(5,.d (sg l)),(6,aa l.length),(7,aa i)],[]⟩) (fun(_:Nat)=>(.ret,⟨[(2,ax false)],[some [.d (.str (aZ l i).name),aa (aZ l i).arity,ax (aZ l i).ac]]⟩)) i
  (aO XV (XV.lin 77) jZ ⟨[(0,.d (sg l)),(5,.d (sg l)),(6,aa l.length),(7,aa i)],[]⟩) (cu (fun i=>hU l (aZ l i) i) () i):=by
 have q:=bE (n:=i) (by omega);have a:=qpE (aZ l i).name r;rw[U7]at a;have h:=UA l (aZ l i).name s;have e:=rW (aZ l i).arity 0 3;unfold cu
 by_cases m:hU l (aZ l i) i=true
 ·rw[aw m]
  refine⟨by simp,?_⟩;cases c1:kU (aZ l i).name with
  |false=>rw[c1]at a;simp[jZ,hi,cut,cB hi,a,splice]
  |true=>
   rw[c1]at a
   by_cases j:g_ l (aZ l i).name=i
   ·have b:(g_ l (aZ l i).name !=i)=false:=by simp[j]
    cases g:dA (aZ l i).arity 0 3 with
    |false=>rw[g]at e;simp[jZ,hi,cut,cB hi,a,h,b,e,splice]
    |true=>
     rw[g]at e;have k:(aZ l i).ac=true/\¬(aZ l i).arity=2:=by
      have:¬hU l (aZ l i) i=false:=by simp[m]
      rw[tx]at this;simp only[c1,j,g,j6]at this;exact Classical.not_imp.1 this
     have p:((aZ l i).arity !=2)=true:=by simp[k.2]
     simp[jZ,hi,cut,cB hi,a,h,b,e,splice,k.1,p]
   ·have b:(g_ l (aZ l i).name !=i)=true:=by simp[j]
    simp[jZ,hi,cut,cB hi,a,h,b,splice]
 ·have o:hU l (aZ l i) i=false:=by simpa using m
  rw[au m];obtain⟨c1,j,g,k⟩:=(tx l _ i).1 o;have b:(g_ l (aZ l i).name !=i)=false:=by simp[j]
  rw[c1]at a;rw[g]at e
  cases c5:(aZ l i).ac with
  |false=>exact⟨_,by simp[jZ,hi,q,cut,cB hi,a,h,b,e,splice,c5];rfl,by simp[aJ,aG]⟩
  |true=>
   have p:((aZ l i).arity !=2)=false:=by simp[k c5]
   exact⟨_,by simp[jZ,hi,q,cut,cB hi,a,h,b,e,splice,c5,p];rfl,by simp[aJ,aG]⟩
theorem qrI(l:aF)(p:l.length<=1099511627776)(q:∀i,i<l.length->(aZ l i).name.size<=1099511627776):ap XV 77 [.d (sg l)] []=some (ax (nZ l),[]):=by
 rw[aN 77 ye rfl];have h:=cd (X:=XV) (T:=XV.lin 77) (L:=0) (live:=[0,5,6,7]) (b:=jZ) (n:=l.length) (γ:=Nat) (st:=fun(_:Unit) i=>⟨[(0,.d (sg l)),(5,.d (sg l)),(6,aa l.length),(7,aa i)],[]⟩) (step:=cu fun i=>hU l (aZ l i) i)
  (F:=fun _=>(.exit 0,⟨[(0,.d (sg l)),(5,.d (sg l)),(6,aa l.length),(7,aa l.length),(8,ax false)],[]⟩)) (R:=fun j=>(.ret,⟨[(2,ax false)],[some [.d (.str (aZ l j).name),aa (aZ l j).arity,ax (aZ l j).ac]]⟩))
  (fun a=>⟨by simp,by simp[jZ]⟩)
  (fun a i hi=>by
   have k:=UM l p i hi (q i hi);unfold cu at k⊢
   split at k
   ·rename_i o;rw[aw o];exact k
   ·rename_i o;rw[au o];exact k)
  l.length () 0 ⟨[(0,.d (sg l)),(5,.d (sg l)),(6,aa l.length),(7,aa 0)],[]⟩ (by omega) (by simp[aJ,aG])
 rw[eH]at h;simp only[qWL]at h;simp[ye];rw[h];unfold nZ;cases hq:a8 (fun i=>hU l (aZ l i) i) l.length 0 with
 |some j=>simp
 |none=>
  have g:=rW l.length 1 8;cases c1:dA l.length 1 8 with
  |false=>rw[c1]at g;simp[g]
  |true=>
   rw[c1]at g;have e:0<l.length:=by simp[dA]at c1;omega
   unfold vX;cases c2:gg (aZ l 0).name ⟨#[116,116]⟩with
   |false=>simp[g,e,cB e,cut,c2]
   |true=>
    by_cases m:(aZ l 0).arity=0
    ·simp[g,e,cB e,cut,c2,m]
    ·have r:((aZ l 0).arity==0)=false:=by simp[m]
     simp[g,e,cB e,cut,c2,m,r]
theorem SA(l:aF)(N:l.length<=1099511627776)(O:∀i,i<l.length->(aZ l i).name.size<=1099511627776):ap XV 82 [.d (sg l)] []=some (ax (nZ l),[]):=by
 rw[aN 82 BE rfl];have h:=cd (X:=XV) (T:=XV.lin 82) (L:=0) (live:=[0,3]) (b:=lB) (n:=l.length) (γ:=Nat) (st:=fun(_:Unit) i=>⟨[(0,.d (sg l)),(3,aa i)],[]⟩) (step:=cu fun i=>hU l (aZ l i) i)
  (F:=fun _=>(.exit 0,⟨[(0,.d (sg l)),(3,aa l.length),(7,ax false)],[]⟩)) (R:=fun j=>(.ret,⟨[(2,ax false)],[]⟩))
  (fun a=>⟨by simp,by simp[lB]⟩)
  (fun a i hi=>by
   have I:=bE (n:=i) (by omega);have m:=Su (aZ l i).name (O i hi);have w:=WL l (aZ l i).name N;have g:=nS (aZ l i).arity 0 3;unfold cu
   by_cases z:hU l (aZ l i) i=true
   ·rw[aw z]
    refine⟨by simp,?_⟩;cases c1:kU (aZ l i).name with
    |false=>rw[c1]at m;simp[lB,hi,cut,cB hi,m]
    |true=>
     rw[c1]at m
     by_cases t:g_ l (aZ l i).name=i
     ·have r:(g_ l (aZ l i).name !=i)=false:=by simp[t]
      cases p:dA (aZ l i).arity 0 3 with
      |false=>rw[p]at g;simp[lB,hi,cut,cB hi,m,w,r,g]
      |true=>
       rw[p]at g;have u:(aZ l i).ac=true/\¬(aZ l i).arity=2:=by
        have:¬hU l (aZ l i) i=false:=by simp[z]
        rw[tx]at this;simp only[c1,t,p,j6]at this;exact Classical.not_imp.1 this
       have G:((aZ l i).arity !=2)=true:=by simp[u.2]
       simp[lB,hi,cut,cB hi,m,w,r,g,u.1,G]
     ·have r:(g_ l (aZ l i).name !=i)=true:=by simp[t]
      simp[lB,hi,cut,cB hi,m,w,r]
   ·have H:hU l (aZ l i) i=false:=by simpa using z
    rw[au z];obtain⟨c1,t,p,u⟩:=(tx l _ i).1 H;have r:(g_ l (aZ l i).name !=i)=false:=by simp[t]
    rw[c1]at m;rw[p]at g
    cases c5:(aZ l i).ac with
    |false=>exact⟨_,by simp[lB,hi,I,cut,cB hi,m,w,r,g,c5];rfl,by simp[aJ,aG]⟩
    |true=>
     have G:((aZ l i).arity !=2)=false:=by simp[u c5]
     exact⟨_,by simp[lB,hi,I,cut,cB hi,m,w,r,g,c5,G];rfl,by simp[aJ,aG]⟩)
  l.length () 0 ⟨[(0,.d (sg l)),(3,aa 0)],[]⟩ (by omega) (by simp[aJ,aG])
 rw[eH]at h;simp only[Y8]at h;simp[BE];rw[h];unfold nZ;cases hq:a8 (fun i=>hU l (aZ l i) i) l.length 0 with
 |some j=>simp
 |none=>
  have g:=nS l.length 1 8;cases c1:dA l.length 1 8 with
  |false=>rw[c1]at g;simp[g]
  |true=>
   rw[c1]at g;have J:0<l.length:=by simp[dA]at c1;omega
   have o:∀(q:Nat->Bool) (k i j:Nat),a8 q k i=none->i<=j->j<i+k->q j=false:=by
    intro q k
    induction k with
    |zero=>intro i j _ y M;omega
    |succ k K=>
     intro i j C y M;simp only[a8]at C;split at C
     ·simp at C
     ·rcases Nat.eq_or_lt_of_le y with rfl|y
      ·simpa using ‹¬q i=true›
      ·exact K (i+1) j C y (by omega)
   have D:=o _ _ _ 0 hq (bf _) (by omega);obtain⟨_,_,_,u⟩:=(tx l (aZ l 0) 0).1 D;have key:eB [2,0,1] [.str (aZ l 0).name,.int .i64 (aZ l 0).arity,.bool (aZ l 0).ac] [.str ⟨#[116,116]⟩,.int .i64 0,.bool false]=some (vX (aZ l 0)):=by
    unfold vX;cases t:gg (aZ l 0).name ⟨#[116,116]⟩<;>by_cases p:(aZ l 0).arity=0<;>cases c5:(aZ l 0).ac<;>simp[eB,t,p]
    have:=u c5;omega
   have x:∀s s':SymL,EK false [2,0,1] (some (.d s.enc)) (some (.d s'.enc))=(eB [2,0,1] [.str s.name,.int .i64 s.arity,.bool s.ac] [.str s'.name,.int .i64 s'.arity,.bool s'.ac]).map fun e=> ax e:=fun s s'=>by show(eB [2,0,1] s.cells s'.cells).map _=_;simp[SymL.cells]
   simp[g,J,cB J,cut,x,key,splice]
theorem DI(q:Nat->Bool):∀(k i j:Nat),a8 q k i=none->i<=j->j<i+k->q j=false
 |0,i,j,_,e,b=>by omega
 |k+1,i,j,a,e,b=>by
  simp only[a8]at a;split at a
  ·simp at a
  ·rename_i d
   by_cases g:j=i
   ·subst g;simpa using d
   ·exact DI q k (i+1) j a (by omega) (by omega)
theorem qmZ(l:aX)(n:Int):decide (0<=dw (a8 (fun i=>n==dM l i) l.length 0))=l.contains n:=by
 cases hq:a8 (fun i=>n==dM l i) l.length 0 with
 |none=>
  have h:=fun j=>DI _ _ _ j hq
  have hc:l.contains n=false:=by rw[Bool.eq_false_iff];intro d;rw[wU]at d;obtain⟨j,e⟩:=dH.1 d;have a:j<l.length:=(aU.1 e).1;have:=h j (db _) (by omega);simp[dM,e]at this
  rw[hc];simp[dw]
 |some j=>
  obtain⟨k,g,b⟩:=eQ _ _ _ _ hq;have a:j<l.length:=by omega
  have hc:l.contains n=true:=by rw[wU];simp only[fa]at b;rw[b,<-mz a];exact jt a
  rw[hc];simp[dw]
theorem HY(q:Nat->Bool):∀(k i j:Nat),a8 q k i=some j->∀a,i<=a->a<j->q a=false
 |0,i,j,h,a,_,_=>by simp[a8]at h
 |k+1,i,j,h,a,g,b=>by
  simp only[a8]at h;split at h
  ·simp at h;omega
  ·rename_i d
   by_cases e:a=i
   ·subst e;simpa using d
   ·exact HY q k (i+1) j h a (by omega) b
theorem J4(l:aX)(q:Int->Bool):l.findIdx q=match a8 (fun i=>q (dM l i)) l.length 0 with|some j=>j|none=>l.length:=by
 cases hq:a8 (fun i=>q (dM l i)) l.length 0 with
 |none=>
  have h:=fun j=>DI _ _ _ j hq
  simp only;apply QZ.2;intro x g;obtain⟨j,d⟩:=dH.1 g;have a:j<l.length:=(aU.1 d).1;have:=h j (db _) (by omega);simpa[dM,d]using this
 |some j=>
  obtain⟨m,k,e⟩:=eQ _ _ _ _ hq;simp only;have a:j<l.length:=by omega
  rw[List.findIdx_eq a];refine⟨by rw[mz a];exact e,fun i hi=> ?_⟩;have b:i<l.length:=by omega
  rw[mz b];exact HY _ _ _ _ hq i (db _) hi
section
variable (X:XEnv)
theorem Zx(o:X.nat 56=none)(hc:X.env.code 56=some mG)(p:X.lin 56=[])(l:aX)(n:Int)(B:ar)(q:l.length<=140737488355328)(k:X.env.base 56=none:=by first|rfl|assumption):
 ap X 56 [.d (is l),aa n] B=some (aa (dw (a8 (fun i=>n==dM l i) l.length 0)),B):=by
 rw[qp X _ _ _ mG o hc rfl];have h:=cd (X:=X) (T:=[]) (L:=B.length) (live:=[0,1,7,8]) (b:=sy) (n:=l.length) (st:=fun(_:Unit) i=>⟨[(0,.d (is l)),(1,aa n),(7,aa l.length),(8,aa i)],B⟩) (step:=cu fun i=>n==dM l i)
  (F:=fun _=>(.exit 0,⟨[(0,.d (is l)),(1,aa n),(7,aa l.length),(8,aa l.length),(9,ax false)],B⟩)) (R:=fun(j:Nat)=>(.ret,⟨[(4,aa j)],B⟩))
  (fun a=>⟨by simp,by simp[sy]⟩)
  (fun a i hi=>by
   have m:=bE (n:=i) (by omega);unfold cu
   by_cases e:(n==dM l i)=true
   ·rw[aw e]
    exact⟨by simp,by simp[sy,hi,cut,mz hi,e]⟩
   ·rw[au e]
    have g:(n==dM l i)=false:=by simpa using e
    exact⟨_,by simp[sy,hi,m,cut,mz hi,g];rfl,by simp[aJ,aG]⟩)
  l.length () 0 ⟨[(0,.d (is l)),(1,aa n),(7,aa l.length),(8,aa 0)],B⟩ (by omega) (by simp[aJ,aG])
 rw[eH]at h;simp[mG,p];rw[h];cases e:a8 (fun i=>n==dM l i) l.length 0<;>simp[dw]
theorem Sd(t:X.nat 47=none)(hc:X.env.code 47=some nR)(u:X.lin 47=[])(l:aX)(e:Nat)(caps:aA)(B:ar)(P:Int->Bool)(x:l.length<=140737488355328)(p:AV.safe.safes B.length caps=true)(g:caps.map AV.clr=caps)(o:X.lin e=[])
 (w:∀s,s∈l->ap X e (aa s::caps) B=some (ax (P s),B)) (q:X.env.base 47=none:=by first|rfl|assumption):
 ap X 47 [.d (is l),.fn e caps] B=some (aa (dw (a8 (fun i=>P (dM l i)) l.length 0)),B):=by
 rw[qp X _ _ _ nR t hc rfl];have h:=cd (X:=X) (T:=[]) (L:=B.length) (live:=[0,1,7,8]) (b:=rQ) (n:=l.length) (st:=fun(_:Unit) i=>⟨[(0,.d (is l)),(1,.fn e caps),(7,aa l.length),(8,aa i)],B⟩) (step:=cu fun i=>P (dM l i))
  (F:=fun _=>(.exit 0,⟨[(0,.d (is l)),(1,.fn e caps),(7,aa l.length),(8,aa l.length),(9,ax false)],B⟩)) (R:=fun(j:Nat)=>(.ret,⟨[(4,aa j)],B⟩))
  (fun a=>⟨by simp,by simp[rQ]⟩)
  (fun a i hi=>by
   have r:=bE (n:=i) (by omega);have hc:=w (dM l i) (by rw[<-mz hi];exact jt hi);unfold cu
   by_cases k:P (dM l i)=true
   ·rw[aw k];rw[k]at hc
    exact⟨by simp,by simp[rQ,hi,cut,mz hi,hc,g,o]⟩
   ·rw[au k]
    have m:P (dM l i)=false:=by simpa using k
    rw[m]at hc;exact⟨_,by simp[rQ,hi,r,cut,mz hi,hc,g,o];rfl,by simp[aJ,aG,p]⟩)
  l.length () 0 ⟨[(0,.d (is l)),(1,.fn e caps),(7,aa l.length),(8,aa 0)],B⟩ (by omega) (by simp[aJ,aG,p])
 rw[eH]at h;simp[nR,u];rw[h];cases k:a8 (fun i=>P (dM l i)) l.length 0<;>simp[dw]
theorem qsj(m:X.nat 55=none)(hc:X.env.code 55=some nP)(k:X.lin 55=[])(a:X.nat 56=none)(e:X.env.code 56=some mG)(b:X.lin 56=[])(l:aX)(n:Int)(o:l.length<=140737488355328)(g:X.env.base 55=none:=by first|rfl|assumption)(j:X.env.base 56=none:=by first|rfl|assumption):
 ap X 55 [.d (is l),aa n] []=some (ax (l.contains n),[]):=by
 rw[qp X _ _ _ nP m hc rfl];have h:=Zx X a e b l n [] o;have p:=qmZ l n;simp[nP,k,h];simpa using p
theorem Uh(j:X.nat 54=none)(hc0:X.env.code 54=some pV)(b:X.lin 54=[])(q:X.nat 55=none)(hc:X.env.code 55=some nP)(p:X.lin 55=[])(a:X.nat 56=none)(g:X.env.code 56=some mG)(e:X.lin 56=[])(l:aX)(n:Int)(r:l.length<=140737488355328)(k:X.env.base 54=none:=by first|rfl|assumption)(m:X.env.base 55=none:=by first|rfl|assumption)(o:X.env.base 56=none:=by first|rfl|assumption):
 ap X 54 [.d (is l),aa n] []=some (ax (l.contains n),[]):=by
 rw[qp X _ _ _ pV j hc0 rfl];have h:=qsj X q hc p a g e l n r;simp[pV,b,h]
theorem WJ(d:X.nat 108=none)(hc:X.env.code 108=some nq)(b:X.lin 108=[])(x n:Int)(a:X.env.base 108=none:=by first|rfl|assumption):ap X 108 [aa x,.ptr 0 0] [some [aa n]]=some (ax (decide (x>n)),[some [aa n]]):=by rw[qp X _ _ _ nq d hc rfl];simp[nq,b]
theorem Yh(k:X.nat 47=none)(hc:X.env.code 47=some nR)(j:X.lin 47=[])(e:X.nat 108=none)(g:X.env.code 108=some nq)(a:X.lin 108=[])(l:aX)(n:Int)(m:l.length<=140737488355328)(h:X.env.base 47=none:=by first|rfl|assumption)(b:X.env.base 108=none:=by first|rfl|assumption):
 ap X 47 [.d (is l),.fn 108 [.ptr 0 0]] [some [aa n]]=some (aa (dw (a8 (fun i=>decide (dM l i>n)) l.length 0)),[some [aa n]]):=
 Sd X k hc j l 108 [.ptr 0 0] [some [aa n]] (fun x=>decide (x>n)) m (by simp[Ny,gJ,Ir]) rfl a (fun s _=>WJ X e g a s n)
end
def lS(ks:ah)(i:Nat):Nat:=(ks.length-i)+T.inners (ks.drop i)
theorem Wm(ks:ah):lS ks 0=ks.length+T.inners ks:=by simp[lS]
theorem qtD{ks:ah}(h:i<ks.length):lS ks i=(aj ks i).inner+1+lS ks (i+1):=by unfold lS;rw[dl h,bg h];simp only[T.inners];omega
mutual
theorem H5{σ:Type}{I:Nat->σ->Prop}{e:T->σ->σ}(a:∀n s x,I (n+1) s->I n (e x s)):∀(t:T) (n:Nat) (s:σ),I (t.inner+1+n) s->I n (T.fold e t s)
 | .node f v ks,n,s,h=>by simp only[T.inner]at h;simp only[T.fold];exact MH a ks n _ (a _ _ _ (by rw[show ks.length+T.inners ks+n+1=ks.length+T.inners ks+1+n by omega];exact h))
theorem MH{σ:Type}{I:Nat->σ->Prop}{e:T->σ->σ}(a:∀n s x,I (n+1) s->I n (e x s)):∀(l:ah) (n:Nat) (s:σ),I (l.length+T.inners l+n) s->I n (T.folds e l s)
 | [],n,s,h=>by simpa[T.folds,T.inners]using h
 |t::r,n,s,h=>by simp only[T.folds];simp only[de,T.inners]at h;exact MH a r n _ (H5 a t _ s (by rw[show t.inner+1+(r.length+T.inners r+n)=r.length+1+(t.inner+T.inners r)+n by omega];exact h))
end
theorem qK0(I:Nat->σ->Prop)(st:σ->ar)(e:T->σ->σ)(k:Nat)(caps:aA)(m:Nat)(P:∀s,(st s).length=m)(q:∀n,m<=n->AV.safe.safes n caps=true)(y:caps.map AV.clr=caps)(S:¬0∈XV.lin k)
 (N:∀n s x,I (n+1) s->I n (e x s)) (f v:Int) (ks:ah) (hl:ks.length<=1099511627776)
 (W:∀(x:T) (s:σ) (r:ar) (n:Nat),I (n+1) s->ap XV k (.d (x.enc .sub)::caps) (st s++r)=some (.d (.tup []),st (e x s)++r))
 (u:∀x,x∈ks->∀(s:σ) (r:ar) (n:Nat),I (x.inner+1+n) s->ap XV 25 [.d (x.enc .sub),.fn k caps] (st s++r)=some (.d (.tup []),st (T.fold e x s)++r)) (s:σ) (r:ar) (h:Nat) (O:I (ks.length+T.inners ks+1+h) s):
 ap XV 25 [.d ((T.node f v ks).enc .sub),.fn k caps] (st s++r)=some (.d (.tup []),st (T.fold e (.node f v ks) s)++r):=by
 rw[aN 25 qH rfl];have M:I (ks.length+T.inners ks+h) (e (.node f v ks) s):=N _ _ _ (by rw[show ks.length+T.inners ks+h+1=ks.length+T.inners ks+1+h by omega];exact O);have g:=W (.node f v ks) s (r++[some [aa f,aa v,.d (ai .sub ks)]]) (ks.length+T.inners ks+h) (by rw[show ks.length+T.inners ks+h+1=ks.length+T.inners ks+1+h by omega];exact O);have len:∀s,(st s++r).length=m+r.length:=fun s=>by simp[P]
 have a:=sn (X:=XV) (T:=XV.lin 25) (L:=m+r.length+1) (live:=[1,10,11,12]) (b:=oe) (n:=ks.length) (γ:=Unit) (st:=fun(s:σ) i=>⟨[(1,.fn k caps),(10,.d (ai .sub ks)),(11,aa ks.length),(12,aa i)],(st s++r)++[some [aa f,aa v,.d (ai .sub ks)]]⟩) (step:=nW e ks)
  (F:=fun s=>(.exit 0,⟨[(1,.fn k caps),(10,.d (ai .sub ks)),(11,aa ks.length),(12,aa ks.length),(13,ax false)],(st s++r)++[some [aa f,aa v,.d (ai .sub ks)]]⟩)) (R:=fun _=>(.ret,⟨[],[]⟩))
  (fun s i=>I (lS ks i+h) s)
  (fun s _=>⟨by simp,by simp[oe]⟩)
  (fun s i hi hIn=>by
   have G:=qtD hi;rw[show lS ks i+h=(aj ks i).inner+1+(lS ks (i+1)+h)by omega]at hIn;have o:=H5 N (aj ks i) _ s hIn;refine⟨?_,fun a' p=>by unfold nW at p;simp only[qh]at p;subst p;exact o⟩;have Y:=bE (n:=i) (by omega);have D:=u _ (bV hi) s (r++[some [aa f,aa v,.d (ai .sub ks)],some [aa (aj ks i).f,aa (aj ks i).v,.d (ai .sub (aj ks i).kids)]]) _ hIn;have J:=len s;have j:=len (T.fold e (aj ks i) s);simp only[<-cr]at D;generalize hB:st s++r=B at D J;generalize t:st (T.fold e (aj ks i) s)++r=B' at D j;unfold nW;refine⟨⟨[(1,.fn k caps),(10,.d (ai .sub ks)),(11,aa ks.length),(12,aa (i+1:Nat))],B'++[some [aa f,aa v,.d (ai .sub ks)],some [aa (aj ks i).f,aa (aj ks i).v,.d (ai .sub (aj ks i).kids)]]⟩,?_,?_⟩
   ·simp[oe,hi,Y,cut,bg hi,y,D,splice]
   ·refine gi (e:=[some [aa (aj ks i).f,aa (aj ks i).v,.d (ai .sub (aj ks i).kids)]]) (by simp) (by simp[aG,q _ (show m<=m+r.length+1 by omega)]) (by simp[j,t]) (by simp[<-t]))
  ks.length (e (.node f v ks) s) 0 ⟨[(1,.fn k caps),(10,.d (ai .sub ks)),(11,aa ks.length),(12,aa 0)],(st (e (.node f v ks) s)++r)++[some [aa f,aa v,.d (ai .sub ks)]]⟩ (by omega) (by rw[Wm];exact M) (gi (e:=[]) (by simp) (by simp[aG,q _ (show m<=m+r.length+1 by omega)]) (by simp[P];omega) (by simp))
 rw[DN e ks _ _ _ (by omega)]at a;simp only[gD]at a;have H:=len s;have w:=len (e (.node f v ks) s);have K:(st (T.fold e (.node f v ks) s)++r).length=m+r.length:=len _;have z:T.folds e ks (e (.node f v ks) s)=T.fold e (.node f v ks) s:=by simp[T.fold]
 rw[z]at a;simp only[<-cr]at g;generalize Q:st s++r=B0 at g H;generalize Z:st (e (.node f v ks) s)++r=B1 at g w a;generalize V:st (T.fold e (.node f v ks) s)++r=B2 at K a;have C:B1.length=B0.length:=by omega
 rw[<-w]at a;simp only[ai,Ia]at g a;simp[qH,g,y,S,C.symm];rw[a];simp[show B1.length=B2.length by omega]
theorem Jn(I:Nat->σ->Prop)(st:σ->ar)(e:T->σ->σ)(k:Nat)(caps:aA)(m:Nat)(q:∀s,(st s).length=m)(a:∀n,m<=n->AV.safe.safes n caps=true)(b:caps.map AV.clr=caps)(j:¬0∈XV.lin k)
 (h:∀n s x,I (n+1) s->I n (e x s)) (u:∀(x:T) (s:σ) (r:ar) (n:Nat),I (n+1) s->ap XV k (.d (x.enc .sub)::caps) (st s++r)=some (.d (.tup []),st (e x s)++r)) (t:T) (g:t.inner<=1099511627776) (s:σ) (r:ar) (n:Nat) (o:I (t.inner+1+n) s):
 ap XV 25 [.d (t.enc .sub),.fn k caps] (st s++r)=some (.d (.tup []),st (T.fold e t s)++r):=by
 match t,g with
 | .node f v ks,g=>simp only[T.inner]at g o;exact qK0 I st e k caps m q a b j h f v ks (by omega) u (fun x p s r n w=>Jn I st e k caps m q a b j h u x (by have:=T.qaF p;omega) s r n w) s r n o
termination_by t
decreasing_by
 simp_wf
 have:=gM p;omega
theorem qIv:XV.nat 106=some kq:=rfl
theorem qpD(g:Tag)(l:aX)(n:Int)(B:ar)(a:l.length<=1099511627777):ap XV 106 [.d (.sl g (l.map (.int .i64))),aa n] B=some (.d (.sl U ((c_ l n).map (.int .i64))),B):=by
 rw[vJ XV 106 _ _ _ qIv];have h:(l.length+1)*8<=140737488355328:=by omega
 simp[aV,kq,Gd,h,U]
theorem quz(l:aX)(n:Int):(c_ l n).length<=l.length+1:=by
 unfold c_;split
 ·omega
 ·simp[gO];have:=rP (p:=fun x=>decide (x>n)) (xs:=l);omega
def eV(x:T)(l:aX):aX:=if x.f= -1 then c_ l x.v else l
def IV(n:Nat)(l:aX):Prop:=l.length+n<=1099511627778
theorem q1K(n:Nat)(l:aX)(x:T)(h:IV (n+1) l):IV n (eV x l):=by
 unfold IV eV at*
 have:=quz l x.v;split<;>omega
def kI(t:T):aX:=T.fold eV t []
theorem qpB(t:T)(o:t.inner<=1099511627776):ap XV 104 [.d (t.enc .sub)] []=some (.d (.sl U ((kI t).map (.int .i64))),[]):=by
 rw[aN 104 wR rfl];have key:=Jn IV (fun l:aX=>[some [aa t.f,aa t.v,.d (ai .sub t.kids)],some [.d (.sl U (l.map (.int .i64)))]]) eV 105 [.ptr 1 0] 2 (fun _=>rfl) (fun n h=>by simp;omega) rfl (by simp) q1K (fun x l r n h=>by
  rw[aN 105 sk rfl];obtain⟨g,j,p⟩:=x;have a:=jl (.node g j p);simp only[T.qaO]at a;have b:l.length<=1099511627777:=by unfold IV at h;omega
  unfold eV;simp only[T.qaO,T.qbT]
  by_cases e:g= -1
  ·subst e
   simp only[BEq.rfl]at a;have k:=qpD .sub l j [] b;simp[sk,a,splice,k]
  ·have m:(g== -1)=false:=by simp[e]
   rw[m]at a;simp[sk,a,e]) t o [] [] 0 (by simp[IV];omega)
 simp only[dB,ai,cM]at key;simp[wR,splice,key,kI]
@[simp high] theorem qSi(l:aX):(l.map (DV.int .u8)).map DV.clr=l.map (DV.int .u8):=by simp[et,lH]
theorem qXW(bs:aX):ap XV 133 [.d (.sl .sub (bs.map (.int .u8)))] []=some (ax (decide (1048576<bs.length)),[]):=by
 rw[aN 133 A4 rfl];have h:decide ((1048576:Int)<bs.length)=decide (1048576<bs.length):=by congr 1;apply propext;omega
 simp[A4,h]
def mk:Nat->Nat->aX
 |0,_=>[]
 |n+1,k=>(k:Int)::mk n (k+1)
theorem Ic(B:ar)(n:Nat)(v:DV):AV.frzC B n (.d v)=some v:=by cases n<;>simp only[AV.frzC]
mutual
def T.nb:T->Nat
 | .node _ _ []=>0
 | .node _ _ (t::r)=>T.nbs (t::r)+1
def T.nbs:ah->Nat
 | []=>0
 |t::r=>t.nb+T.nbs r
end
def q1C(ks:ah):Nat:=if ks=[]then 0 else T.nbs ks+1
def q1B(b:Nat)(ks:ah):AV:=if ks=[]then .d (ai .sub [])else .tsl true (b+T.nbs ks) 3 ks.length
def Le(b:Nat):ah->aA
 | []=>[]
 | .node f v ks::r=> aa f:: aa v::q1B b ks::Le (b+q1C ks) r
mutual
def T.bx(b:Nat):T->ar
 | .node _ _ []=>[]
 | .node _ _ (t::r)=>T.bxs b (t::r)++[some (Le b (t::r))]
def T.bxs(b:Nat):ah->ar
 | []=>[]
 |t::r=>t.bx b++T.bxs (b+t.nb) r
end
def bw(l:ah):Nat:=l.length+T.inners l
theorem GM(t:T):bw t.kids=t.inner:=by cases t;simp[bw,T.inner]
theorem E1:∀(a c:ah),T.inners (a++c)=T.inners a+T.inners c
 | [],c=>by simp[T.inners]
 |t::r,c=>by simp[T.inners,E1 r c];omega
theorem dZ(t:T)(l:ah):bw (t::l)=(t.inner+1)+bw l:=by unfold bw;simp[T.inners];omega
theorem qs(ks:ah)(i:Nat)(hi:i<ks.length):ks.take (i+1)=ks.take i++[aj ks i]:=by rw[<-bg hi,List.take_append_getElem hi]
theorem RF(ks:ah)(i:Nat):bw (ks.take i)<=bw ks:=by
 have h:bw (ks.take i++ks.drop i)=bw (ks.take i)+bw (ks.drop i):=by unfold bw;rw[E1];simp;omega
 rw[d7]at h;omega
def cL(f v:Int)(ks:ah):ar:=[some [aa f,aa v,.d (ai .sub ks)]]
theorem R8(a b:T)(g:a.inner<=1099511627776)(e:b.inner<=1099511627776):ap XV 79 [.d (a.enc .sub),.d (b.enc .sub)] []=some (ax (decide (T.cmp a b<0)),[]):=by rw[aN 79 vI rfl];have h:=BL a b g e;simp[vI,h]
theorem XC(f v:Int)(ks:ah)(j v':Int)(a:ah)(I:ks.length<=1099511627776)(H:a.length<=1099511627776)
 (m:∀s s',s∈ks->s'∈a->ap XV 3 [.d (s.enc .sub),.d (s'.enc .sub)] []=some (ax (T.cmp s s'==0),[]))
 (p:∀s s',s∈ks->s'∈a->ap XV 84 [.d (s.enc .sub),.d (s'.enc .sub)] []=some (ax (decide (T.cmp s s'<0)),[])):
 ap XV 84 [.d ((T.node f v ks).enc .sub),.d ((T.node j v' a).enc .sub)] []=some (ax (decide (T.cmp (.node f v ks) (.node j v' a)<0)),[]):=by
 rw[aN 84 ov rfl];rw[wH]
 by_cases c1:f=j
 case neg=>
  have z:(f !=j)=true:=by simp[c1]
  have e:decide (fJ f j v v' ks.length a.length (T.cmps ks a)<0)=decide (f<j):=by
   unfold fJ;by_cases k:f<j
   ·simp[k]
   ·have o:f>j:=by omega
    simp[k,o]
  rw[e];simp[ov,z]
 subst c1
 by_cases y:v=v'
 case neg=>
  have D:(v !=v')=true:=by simp[y]
  have e:decide (fJ f f v v' ks.length a.length (T.cmps ks a)<0)=decide (v<v'):=by
   unfold fJ;by_cases k:v<v'
   ·simp[k]
   ·have o:v>v':=by omega
    simp[k,o]
  rw[e];simp[ov,D]
 subst y
 by_cases t:ks.length=a.length
 case neg=>
  have G:((ks.length:Int) !=a.length)=true:=by simp;omega
  have e:decide (fJ f f v v ks.length a.length (T.cmps ks a)<0)=decide (ks.length<a.length):=by
   unfold fJ;by_cases k:ks.length<a.length
   ·simp[k]
   ·have o:a.length<ks.length:=by omega
    simp[k,o]
  rw[e];simp[ov,G]
 have x:fJ f f v v ks.length a.length (T.cmps ks a)=T.cmps ks a:=by simp[fJ,t]
 rw[x];have h:=cd (X:=XV) (T:=[]) (L:=2) (live:=[2,3,5]) (b:=tX) (n:=ks.length) (γ:=Int) (st:=fun(_:Unit) i=>⟨[(2,.ptr 0 0),(3,.ptr 1 0),(5,aa i)],cE f v ks f v a⟩) (step:=kw ks a)
  (F:=fun _=>(.exit 0,⟨[(2,.ptr 0 0),(3,.ptr 1 0),(5,aa ks.length),(44,ax false)],cE f v ks f v a⟩)) (R:=fun r=>(.ret,⟨[(4,ax (decide (r<0)))],cE f v ks f v a⟩))
  (fun _=>⟨by simp,by simp[tX,cE]⟩)
  (fun _ i hi=>by
   have C:=bE (n:=i) (by omega);have g:i<a.length:=by omega
   have u:=m _ _ (bV hi) (bV g);have hc:=p _ _ (bV hi) (bV g);unfold kw cE
   by_cases q:T.cmp (aj ks i) (aj a i)=0
   ·rw[q]at u⊢
    simp only[fw,om,if_false];refine⟨_,by simp[tX,IJ,hi,g,C,cut,bg hi,bg g,u];rfl,?_⟩;simp[aJ,aG]
   ·simp only[fw,q,jT,if_true]
    have w:(T.cmp (aj ks i) (aj a i)==0)=false:=by simp[q]
    rw[w]at u;refine⟨by simp,?_⟩;simp[tX,IJ,Xh,hi,g,cut,bg hi,bg g,u,hc])
  ks.length () 0 ⟨[(2,.ptr 0 0),(3,.ptr 1 0),(5,aa 0)],cE f v ks f v a⟩ (by omega) (by simp[aJ,aG,cE])
 rw[sI ks a t _ _ (by omega)]at h;simp only[gD,cE,ai]at h;simp[ov,t];rw[t]at h;rw[h]
 by_cases q:T.cmps ks a=0<;>simp[q]
theorem D6(a b:T)(k:a.inner<=1099511627776)(j:b.inner<=1099511627776):ap XV 84 [.d (a.enc .sub),.d (b.enc .sub)] []=some (ax (decide (T.cmp a b<0)),[]):=by
 match a,b,k,j with
 | .node f v ks,.node m v' h,k,j=>simp only[T.inner]at k j;exact XC f v ks m v' h (by omega) (by omega) (fun s s' g e=>nI s s' (by have:=T.qaF g;omega) (by have:=T.qaF e;omega)) (fun s s' g e=>D6 s s' (by have:=T.qaF g;omega) (by have:=T.qaF e;omega))
termination_by a
decreasing_by
 simp_wf
 have:=gM g;omega
def fp(l:aF)(f v:Int)(n:Nat):Bool:=
 if dS l f=true then
  if v=0 then(if(aZ l f.toNat).ac=true then decide ((n:Int)<2)else !decide ((n:Int)=(aZ l f.toNat).arity))
  else true
 else true
def dL(l:aF)(f:Int)(ks:ah)(i:Nat):Bool:=if(aZ l f.toNat).ac=true then(if(aj ks i).f=f then true else if i=0 then false else decide (T.cmp (aj ks i) (aj ks (i-1))<0))else false
mutual
def T.form(l:aF):T->Bool
 | .node f v ks=>
  if f= -1 then dA v 0 99&&decide (ks.length=0)
  else if fp l f v ks.length=true then false
  else(a8 (fun i=> !((T.forms l ks)[i]?).getD false||dL l f ks i) ks.length 0).isNone
def T.forms(l:aF):ah->List Bool
 | []=>[]
 |t::r=>T.form l t::T.forms l r
end
theorem T.qsV(l:aF):∀ks:ah,T.forms l ks=ks.map (T.form l)
 | []=>by simp[T.forms]
 |t::r=>by simp[T.forms,T.qsV l r]
theorem T.qkU(l:aF)(ks:ah)(i:Nat)(hi:i<ks.length):((T.forms l ks)[i]?).getD false=T.form l (aj ks i):=by rw[T.qsV];simp[CY hi]
theorem UU(l:aF)(j:l.length<=1099511627776)(f v:Int)(ks:ah):aO XV (XV.lin 78) (.region true 0 [0,3,62] BY) ⟨[(0,.d (sg l)),(3,.ptr 0 0),(8,ax false)],cL f v ks⟩=some (.normal,⟨[(0,.d (sg l)),(3,.ptr 0 0),(62,ax (fp l f v ks.length))],cL f v ks⟩):=by
 have a:=FF l j f;unfold fp cL;cases c1:dS l f with
 |false=>rw[c1]at a;simp[sN,a]
 |true=>
  rw[c1]at a;obtain⟨g1,g2⟩:=kO c1
  by_cases b:v=0
  ·cases c3:(aZ l f.toNat).ac with
   |true=>simp[sN,a,b,g1,g2,cB g2,cut,c3]
   |false=>
    by_cases e:(ks.length:Int)=(aZ l f.toNat).arity
    ·simp[sN,a,b,g1,g2,cB g2,cut,c3,e]
    ·have g:((ks.length:Int) !=(aZ l f.toNat).arity)=true:=by simp[e]
     simp[sN,a,b,g1,g2,cB g2,cut,c3,e,g]
  ·have h:(v !=0)=true:=by simp[b]
   simp[sN,a,b,h]
theorem Xg(l:aF)(k:l.length<=1099511627776)(f v:Int)(ks:ah):aO XV (XV.lin 83) (.region true 0 [0,3,64] Au) ⟨[(0,.d (sg l)),(3,.ptr 0 0),(8,ax false)],cL f v ks⟩=some (.normal,⟨[(0,.d (sg l)),(3,.ptr 0 0),(64,ax (fp l f v ks.length))],cL f v ks⟩):=by
 have a:=nS f 0 (l.length-1);have b:IntKind.i64.wrap ((l.length:Int)-1)=l.length-1:=wrap_i64 (by omega) (by omega);unfold fp cL;cases c1:dS l f with
 |false=>unfold dS at c1;rw[c1]at a;simp[rH,a,b]
 |true=>
  obtain⟨g1,g2⟩:=kO c1;unfold dS at c1;rw[c1]at a
  by_cases e:v=0
  ·cases c3:(aZ l f.toNat).ac with
   |true=>simp[rH,a,b,e,g1,g2,cB g2,cut,c3]
   |false=>
    by_cases g:(ks.length:Int)=(aZ l f.toNat).arity
    ·simp[rH,a,b,e,g1,g2,cB g2,cut,c3,g]
    ·have h:((ks.length:Int) !=(aZ l f.toNat).arity)=true:=by simp[g]
     simp[rH,a,b,e,g1,g2,cB g2,cut,c3,g,h]
  ·have j:(v !=0)=true:=by simp[e]
   simp[rH,a,b,e,j]
theorem P0(l:aF)(r:l.length<=1099511627776)(f v:Int)(ks:ah)(o:dS l f=true)(i:Nat)(hi:i<ks.length)(q:ks.length<=1099511627776)
 (g:∀s s',s∈ks->s'∈ks->ap XV 79 [.d (s.enc .sub),.d (s'.enc .sub)] []=some (ax (decide (T.cmp s s'<0)),[]))
 (a:ap XV 78 [.d (sg l),.d ((aj ks i).enc .sub)] []=some (ax (T.form l (aj ks i)),[])):
 aO XV (XV.lin 78) (.region true 0 [0,3,64,65,66,103] yL) ⟨[(0,.d (sg l)),(3,.ptr 0 0),(5,aa i),(6,.ptr 1 0),(64,.d (ai .sub ks)),(65,aa ks.length),(66,aa i)],cL f v ks++[some [aa (aj ks i).f,aa (aj ks i).v,.d (ai .sub (aj ks i).kids)]]⟩=
  some (.normal,⟨[(0,.d (sg l)),(3,.ptr 0 0),(64,.d (ai .sub ks)),(65,aa ks.length),(66,aa i),(103,ax (!T.form l (aj ks i)||dL l f ks i))],cL f v ks++[some [aa (aj ks i).f,aa (aj ks i).v,.d (ai .sub (aj ks i).kids)]]⟩):=by
 obtain⟨g1,g2⟩:=kO o;unfold cL dL;cases c1:T.form l (aj ks i)with
 |false=>rw[c1]at a;simp[sj,a]
 |true=>
  rw[c1]at a;cases c2:(aZ l f.toNat).ac with
  |false=>simp[sj,a,g1,g2,cB g2,c2,cut]
  |true=>
   by_cases e:(aj ks i).f=f
   ·have h:((aj ks i).f==f)=true:=by simp[e]
    simp[sj,a,g1,g2,cB g2,c2,h,cut];simp[e]
   ·have h:((aj ks i).f==f)=false:=by simp[e]
    by_cases m:i=0
    ·subst m;simp[sj,a,g1,g2,cB g2,c2,e,h,cut]
    ·obtain⟨j,rfl⟩:∃j,i=j+1:=⟨i-1,by omega⟩
     have k:j<ks.length:=by omega
     have n:=g _ _ (bV hi) (bV k);have p:IntKind.i64.wrap (j:Int)=j:=Bu (by omega);have b:(0:Int)<((j+1:Nat):Int):=by omega
     simp only[nn,pZ]at b;simp[sj,a,g1,g2,cB g2,c2,e,h,p,b,k,bg k,cut,n]
theorem Ow(l:aF)(z:l.length<=1099511627776)(f v:Int)(ks:ah)(C:ks.length<=1099511627776)
 (t:∀s s',s∈ks->s'∈ks->ap XV 79 [.d (s.enc .sub),.d (s'.enc .sub)] []=some (ax (decide (T.cmp s s'<0)),[]))
 (r:∀s,s∈ks->ap XV 78 [.d (sg l),.d (s.enc .sub)] []=some (ax (T.form l s),[])):
 ap XV 78 [.d (sg l),.d ((T.node f v ks).enc .sub)] []=some (ax (T.form l (.node f v ks)),[]):=by
 rw[aN 78 mh rfl];have o:=jl (.node f v ks);have m:=rW v 0 99;simp only[T.qaO]at o
 by_cases c1:f= -1
 ·have g:T.form l (.node f v ks)=(dA v 0 99&&decide (ks.length=0)):=by simp[T.form,c1]
  rw[g];subst c1;simp only[BEq.rfl]at o;cases c2:dA v 0 99 with
  |false=>rw[c2]at m;simp[mh,o,m]
  |true=>
   rw[c2]at m
   by_cases w:ks.length=0
   ·simp[mh,o,m,w]
   ·have H:((ks.length:Int)==0)=false:=by simp;exact fun h=>w (by simp[h])
    simp[mh,o,m,H];exact fun h=>w (by simp[h])
 have D:(f== -1)=false:=by simp[c1]
 rw[D]at o;have p:=UU l z f v ks;simp only[cL,ai,Cf]at p;cases c2:fp l f v ks.length with
 |true=>
  have g:T.form l (.node f v ks)=false:=by simp[T.form,c1,c2]
  rw[g];rw[c2]at p;simp[mh,o];rw[p];simp
 |false=>
  have x:dS l f=true:=by
   unfold fp at c2
   by_cases h:dS l f=true
   ·exact h
   ·rw[au h]at c2;simp at c2
  have g:T.form l (.node f v ks)=(a8 (fun i=> !T.form l (aj ks i)||dL l f ks i) ks.length 0).isNone:=by
   have e:a8 (fun i=> !((T.forms l ks)[i]?).getD false||dL l f ks i) ks.length 0=a8 (fun i=> !T.form l (aj ks i)||dL l f ks i) ks.length 0:=by
    have key:∀(k i:Nat),i+k=ks.length->a8 (fun i=> !((T.forms l ks)[i]?).getD false||dL l f ks i) k i=a8 (fun i=> !T.form l (aj ks i)||dL l f ks i) k i:=by
     intro k
     induction k with
     |zero=>intro i _;rfl
     |succ k I=>intro i h;simp only[a8];simp only[T.qkU l ks i (by omega),I (i+1) (by omega)]
    exact key _ _ (by omega)
   rw[<-e];simp[T.form,c1,c2]
  rw[g];rw[c2]at p;have h:=cd (X:=XV) (T:=XV.lin 78) (L:=1) (live:=[0,3,64,65,66]) (b:=sC) (n:=ks.length) (γ:=Nat) (st:=fun(_:Unit) i=>⟨[(0,.d (sg l)),(3,.ptr 0 0),(64,.d (ai .sub ks)),(65,aa ks.length),(66,aa i)],cL f v ks⟩) (step:=cu fun i=> !T.form l (aj ks i)||dL l f ks i)
   (F:=fun _=>(.exit 0,⟨[(0,.d (sg l)),(3,.ptr 0 0),(64,.d (ai .sub ks)),(65,aa ks.length),(66,aa ks.length),(67,ax false)],cL f v ks⟩)) (R:=fun j=>(.ret,⟨[(4,ax false)],cL f v ks++[some [aa (aj ks j).f,aa (aj ks j).v,.d (ai .sub (aj ks j).kids)]]⟩))
   (fun a=>⟨by simp,by simp[sC]⟩)
   (fun a i hi=>by
    have G:=bE (n:=i) (by omega);have q:=P0 l z f v ks x i hi C t (r _ (bV hi));unfold cu;simp only[cL,ai,dk,dG,Cf]at q
    by_cases u:(!T.form l (aj ks i)||dL l f ks i)=true
    ·rw[aw u]
     rw[u]at q;refine⟨by simp,?_⟩;simp[sC,hi,cut,bg hi,cL,splice];rw[q];simp
    ·rw[au u]
     have y:(!T.form l (aj ks i)||dL l f ks i)=false:=by simpa using u
     rw[y]at q;refine⟨⟨[(0,.d (sg l)),(3,.ptr 0 0),(64,.d (ai .sub ks)),(65,aa ks.length),(66,aa (i+1:Nat))],cL f v ks++[some [aa (aj ks i).f,aa (aj ks i).v,.d (ai .sub (aj ks i).kids)]]⟩,?_,by simp[aJ,aG,cL]⟩;simp[sC,hi,cut,bg hi,cL,splice];rw[q];simp[G])
   ks.length () 0 ⟨[(0,.d (sg l)),(3,.ptr 0 0),(64,.d (ai .sub ks)),(65,aa ks.length),(66,aa 0)],cL f v ks⟩ (by omega) (by simp[aJ,aG,cL])
  rw[eH]at h;simp only[cL,ai,dk,dG,Cf]at h;simp[mh,o];rw[p];simp;rw[h];cases u:a8 (fun i=> !T.form l (aj ks i)||dL l f ks i) ks.length 0<;>simp[KX]
theorem JZ(l:aF)(f v:Int)(ks:ah)(c1:f≠-1)(a:fp l f v ks.length=false):T.form l (.node f v ks)=(a8 (fun i=> !T.form l (aj ks i)||dL l f ks i) ks.length 0).isNone:=by
 have e:a8 (fun i=> !((T.forms l ks)[i]?).getD false||dL l f ks i) ks.length 0=a8 (fun i=> !T.form l (aj ks i)||dL l f ks i) ks.length 0:=by
  have key:∀(k i:Nat),i+k=ks.length->a8 (fun i=> !((T.forms l ks)[i]?).getD false||dL l f ks i) k i=a8 (fun i=> !T.form l (aj ks i)||dL l f ks i) k i:=by
   intro k
   induction k with
   |zero=>intro i _;rfl
   |succ k b=>intro i h;simp only[a8];simp only[T.qkU l ks i (by omega),b (i+1) (by omega)]
  exact key _ _ (by omega)
 rw[<-e];simp[T.form,c1,a]
theorem J5(l:aF)(b:l.length<=1099511627776)(t:T)(a:t.inner<=1099511627776):ap XV 78 [.d (sg l),.d (t.enc .sub)] []=some (ax (T.form l t),[]):=by
 match t,a with
 | .node f v ks,a=>simp only[T.inner]at a;exact Ow l b f v ks (by omega) (fun s s' h h'=>R8 s s' (by have:=T.qaF h;omega) (by have:=T.qaF h';omega)) (fun s h=>J5 l b s (by have:=T.qaF h;omega))
termination_by t
decreasing_by
 simp_wf
 have:=gM h;omega
theorem q0h(l:aF)(w:l.length<=1099511627776)(f v:Int)(ks:ah)(t:dS l f=true)(i:Nat)(hi:i<ks.length)(u:ks.length<=1099511627776)
 (p:∀s s',s∈ks->s'∈ks->ap XV 84 [.d (s.enc .sub),.d (s'.enc .sub)] []=some (ax (decide (T.cmp s s'<0)),[]))
 (a:ap XV 83 [.d (sg l),.d ((aj ks i).enc .sub)] []=some (ax (T.form l (aj ks i)),[])):
 aO XV (XV.lin 83) (.region true 0 [0,3,5,116] yh) ⟨[(0,.d (sg l)),(3,.ptr 0 0),(5,aa i),(69,ax true)],cL f v ks⟩=
  some (.normal,⟨[(0,.d (sg l)),(3,.ptr 0 0),(5,aa i),(116,ax (!T.form l (aj ks i)||dL l f ks i))],cL f v ks⟩):=by
 obtain⟨g1,g2⟩:=kO t;unfold cL dL;cases c2:(aZ l f.toNat).ac with
 |false=>
  cases c1:T.form l (aj ks i)with
  |false=>rw[c1]at a;simp[ms,a,g1,g2,cB g2,c2,cut,hi,bg hi]
  |true=>rw[c1]at a;simp[ms,a,g1,g2,cB g2,c2,cut,hi,bg hi]
 |true=>
  by_cases g:(aj ks i).f=f
  ·have m:((aj ks i).f==f)=true:=by simp[g]
   simp[ms,g1,g2,cB g2,c2,m,cut,hi,bg hi];simp[g]
  ·have m:((aj ks i).f==f)=false:=by simp[g]
   by_cases r:i=0
   ·subst r
    cases c1:T.form l (aj ks 0)with
    |false=>rw[c1]at a;simp[ms,a,g1,g2,cB g2,c2,g,m,cut,hi,bg hi]
    |true=>rw[c1]at a;simp[ms,a,g1,g2,cB g2,c2,g,m,cut,hi,bg hi]
   ·obtain⟨j,rfl⟩:∃j,i=j+1:=⟨i-1,by omega⟩
    have h:j<ks.length:=by omega
    have n:=p _ _ (bV hi) (bV h);have q:IntKind.i64.wrap (j:Int)=j:=Bu (by omega);have b:(0:Int)<((j+1:Nat):Int):=by omega
    have e:(((j+1:Nat):Int)).toNat=j+1:=by omega
    simp only[nn,pZ]at b e;have k:(0:Int)<=(j:Int)+1:=by omega
    by_cases o:T.cmp (aj ks (j+1)) (aj ks j)<0
    ·simp only[o,decide_true]at n
     simp[ms,g1,g2,cB g2,c2,g,m,q,b,e,k,h,hi,bg h,bg hi,cut,n,o]
    ·simp only[o,decide_false]at n
     cases c1:T.form l (aj ks (j+1))with
     |false=>rw[c1]at a;simp[ms,a,g1,g2,cB g2,c2,g,m,q,b,e,k,h,hi,bg h,bg hi,cut,n,o]
     |true=>rw[c1]at a;simp[ms,a,g1,g2,cB g2,c2,g,m,q,b,e,k,h,hi,bg h,bg hi,cut,n,o]
theorem qzZ(l:aF)(w:l.length<=1099511627776)(f v:Int)(ks:ah)(z:ks.length<=1099511627776)
 (p:∀s s',s∈ks->s'∈ks->ap XV 84 [.d (s.enc .sub),.d (s'.enc .sub)] []=some (ax (decide (T.cmp s s'<0)),[]))
 (m:∀s,s∈ks->ap XV 83 [.d (sg l),.d (s.enc .sub)] []=some (ax (T.form l s),[])):
 ap XV 83 [.d (sg l),.d ((T.node f v ks).enc .sub)] []=some (ax (T.form l (.node f v ks)),[]):=by
 rw[aN 83 mb rfl];have g:=nS v 0 99
 by_cases c1:f= -1
 ·have e:T.form l (.node f v ks)=(dA v 0 99&&decide (ks.length=0)):=by simp[T.form,c1]
  rw[e];subst c1;cases c2:dA v 0 99 with
  |false=>rw[c2]at g;simp[mb,g]
  |true=>
   rw[c2]at g
   by_cases r:ks.length=0
   ·simp[mb,g,r]
   ·have C:((ks.length:Int)==0)=false:=by simp;exact fun h=>r (by simp[h])
    simp[mb,g,C];exact fun h=>r (by simp[h])
 have x:(f== -1)=false:=by simp[c1]
 have k:=Xg l w f v ks;simp only[cL,ai,DX]at k;cases c2:fp l f v ks.length with
 |true=>
  have e:T.form l (.node f v ks)=false:=by simp[T.form,c1,c2]
  rw[e];rw[c2]at k;simp[mb,x];rw[k];simp
 |false=>
  have u:dS l f=true:=by
   unfold fp at c2
   by_cases h:dS l f=true
   ·exact h
   ·rw[au h]at c2;simp at c2
  rw[JZ l f v ks c1 c2];rw[c2]at k;have h:=cd (X:=XV) (T:=XV.lin 83) (L:=1) (live:=[0,3,5]) (b:=rV) (n:=ks.length) (γ:=Nat) (st:=fun(_:Unit) i=>⟨[(0,.d (sg l)),(3,.ptr 0 0),(5,aa i)],cL f v ks⟩) (step:=cu fun i=> !T.form l (aj ks i)||dL l f ks i)
   (F:=fun _=>(.exit 0,⟨[(0,.d (sg l)),(3,.ptr 0 0),(5,aa ks.length),(69,ax false)],cL f v ks⟩)) (R:=fun j=>(.ret,⟨[(4,ax false)],cL f v ks⟩))
   (fun a=>⟨by simp,by simp[rV,cL]⟩)
   (fun a i hi=>by
    have y:=bE (n:=i) (by omega);have o:=q0h l w f v ks u i hi z p (m _ (bV hi));unfold cu;simp only[cL,ai,DX]at o
    by_cases q:(!T.form l (aj ks i)||dL l f ks i)=true
    ·rw[aw q]
     rw[q]at o;refine⟨by simp,?_⟩;simp[rV,hi,cL];rw[o];simp
    ·rw[au q]
     have t:(!T.form l (aj ks i)||dL l f ks i)=false:=by simpa using q
     rw[t]at o;refine⟨⟨[(0,.d (sg l)),(3,.ptr 0 0),(5,aa (i+1:Nat))],cL f v ks⟩,?_,by simp[aJ,aG,cL]⟩;simp[rV,hi,cL];rw[o];simp[y])
   ks.length () 0 ⟨[(0,.d (sg l)),(3,.ptr 0 0),(5,aa 0)],cL f v ks⟩ (by omega) (by simp[aJ,aG,cL])
  rw[eH]at h;simp only[cL,ai,DX]at h;simp[mb,x];rw[k];simp;rw[h];cases q:a8 (fun i=> !T.form l (aj ks i)||dL l f ks i) ks.length 0<;>simp[Ii]
theorem JH(l:aF)(b:l.length<=1099511627776)(t:T)(a:t.inner<=1099511627776):ap XV 83 [.d (sg l),.d (t.enc .sub)] []=some (ax (T.form l t),[]):=by
 match t,a with
 | .node f v ks,a=>simp only[T.inner]at a;exact qzZ l b f v ks (by omega) (fun s s' h h'=>D6 s s' (by have:=T.qaF h;omega) (by have:=T.qaF h';omega)) (fun s h=>JH l b s (by have:=T.qaF h;omega))
termination_by t
decreasing_by
 simp_wf
 have:=gM h;omega
mutual
theorem K1:∀t:T,T.sum (fun _=>1) t=t.inner+1
 | .node f v ks=>by simp only[T.sum,T.inner];rw[Kl ks];push_cast;omega
theorem Kl:∀l:ah,T.sums (fun _=>1) l=T.inners l+l.length
 | []=>by simp[T.sums,T.inners]
 |t::r=>by simp only[T.sums,T.inners,de];rw[K1 t,Kl r];push_cast;omega
end
theorem HD(t:T)(a:t.inner<=1099511627776):IntKind.i64.wrap (T.sum (fun _=>1) t)=(t.inner+1:Nat):=by rw[K1];exact Bu (n:=t.inner+1) (by omega)
def fb(l:aF)(t:T):Bool:=nZ l&&(decide (t.inner+1<=60)&&T.form l t)
theorem KL(l:aF)(h:l.length<=1099511627776)(k:∀i,i<l.length->(aZ l i).name.size<=1099511627776)(t:T)(g:t.inner<=1099511627776):ap XV 70 [.d (sg l),.d (t.enc .sub)] []=some (ax (fb l t),[]):=by
 rw[aN 70 pt rfl];have b:=qrI l h k;have e:=Wt t g;rw[HD t g]at e;have m:=J5 l h t g;unfold fb;cases c1:nZ l with
 |false=>rw[c1]at b;simp[pt,b]
 |true=>
  rw[c1]at b
  by_cases j:t.inner+1<=60
  ·have a:(((t.inner+1:Nat):Int))<=60:=by omega
   simp only[nn,pZ]at a;simp[pt,b,e,m,j,a]
  ·have a:¬(((t.inner+1:Nat):Int))<=60:=by omega
   simp only[nn,pZ]at a;simp[pt,b,e,j,a]
theorem Mu(l:aF)(h:l.length<=1099511627776)(k:∀i,i<l.length->(aZ l i).name.size<=1099511627776)(t:T)(g:t.inner<=1099511627776):ap XV 80 [.d (sg l),.d (t.enc .sub)] []=some (ax (fb l t),[]):=by
 rw[aN 80 p7 rfl];have b:=SA l h k;have e:=NC t g;rw[HD t g]at e;have m:=JH l h t g;unfold fb;cases c1:nZ l with
 |false=>rw[c1]at b;simp[p7,b]
 |true=>
  rw[c1]at b
  by_cases j:t.inner+1<=60
  ·have a:(((t.inner+1:Nat):Int))<=60:=by omega
   simp only[nn,pZ]at a;simp[p7,b,e,m,j,a]
  ·have a:¬(((t.inner+1:Nat):Int))<=60:=by omega
   simp only[nn,pZ]at a;simp[p7,b,e,j,a]
end Go.Proofs.YtpcoohnjllclnaaGreat.VS
