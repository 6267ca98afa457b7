/- Contracts of the program's functions on the evaluator without names, and plain lemmas: part 1. -/
import Derived.Test.YtpcoohnjllclnaaGreatLin
set_option linter.unusedSimpArgs false
set_option linter.unusedVariables false
namespace Go.Proofs.YtpcoohnjllclnaaGreat.VS
inductive T where
 |node (f v:Int) (kids:List T)
 deriving Inhabited
def T.f:T->Int| .node f _ _=>f
def T.v:T->Int| .node _ v _=>v
def T.kids:T->List T| .node _ _ k=>k
mutual
def T.enc(g:Tag):T->DV
 | .node f v ks=> .agg [.int .i64 f,.int .i64 v,.sl g (T.encs g ks)]
def T.encs(g:Tag):List T->List DV
 | []=>[]
 |t::r=>t.enc g::T.encs g r
end
theorem T.qer(g:Tag):∀l:List T,T.encs g l=l.map (T.enc g)
 | []=>by unfold T.encs;rfl
 |t::r=>by unfold T.encs;simp[T.qer g r]
abbrev aj(g:Tag)(l:List T):DV:= .sl g (l.map (T.enc g))
theorem T.qbJ(g:Tag)(t:T):t.enc g= .agg [.int .i64 t.f,.int .i64 t.v,aj g t.kids]:=by
 cases t;simp[T.enc,T.qer,aj,T.f,T.v,T.kids]
@[simp] theorem agg_enc(g:Tag)(f v:Int)(ks:List T):DV.agg [.int .i64 f,.int .i64 v,aj g ks]=(T.node f v ks).enc g:=by
 simp[T.enc,T.qer,aj]
@[simp] theorem T.eta(t:T):T.node t.f t.v t.kids=t:=by cases t;rfl
@[simp] theorem T.qaP(f v:Int)(k:List T):(T.node f v k).f=f:=rfl
@[simp] theorem T.qb7(f v:Int)(k:List T):(T.node f v k).v=v:=rfl
@[simp] theorem T.qaC(f v:Int)(k:List T):(T.node f v k).kids=k:=rfl
@[simp] theorem T.qgb(g:Tag)(t:T):(t.enc g).cells=[.int .i64 t.f,.int .i64 t.v,aj g t.kids]:=by rw[T.qbJ];rfl
@[simp] theorem T.qjf(g:Tag)(t:T):(AV.d (t.enc g)).cells=[aa t.f,aa t.v,.d (aj g t.kids)]:=by rw[T.qbJ];rfl
@[simp] theorem T.qje(g:Tag)(t:T):(t.enc g).isCell=false:=by rw[T.qbJ];rfl
mutual
theorem T.qfr(g:Tag):∀t:T,(t.enc g).clr=t.enc .sub
 | .node f v ks=>by simp only[T.enc,DV.clr,DV.clrs,T.qfq g ks]
theorem T.qfq(g:Tag):∀l:List T,DV.clrs (T.encs g l)=T.encs .sub l
 | []=>by simp only[T.encs,DV.clrs]
 |t::r=>by simp only[T.encs,DV.clrs,T.qfr g t,T.qfq g r]
end
attribute [simp] T.qfr
@[simp high] theorem j1(g:Tag)(l:List T):(l.map (T.enc g)).map DV.clr=l.map (T.enc .sub):=by
 rw[<-T.qer,<-T.qer,<-DV.qax,T.qfq]
def ae(l:List T)(i:Nat):T:=(l[i]?).getD (.node 0 0 [])
theorem bc{l:List T}{i:Nat}(h:i<l.length):l[i]=ae l i:=by simp[ae,h]
theorem bS{l:List T}{i:Nat}(h:i<l.length):ae l i∈l:=by rw[<-bc h];exact il h
theorem Bp{l:List T}{i:Nat}(h:i<l.length):l[i]?=some (ae l i):=by simp[ae,h]
@[simp] theorem qPX(g:Tag){l:List T}{i:Nat}(h:i<l.length):(l.map (T.enc g))[i]?=some ((ae l i).enc g):=by simp[Bp h]
mutual
def T.inner:T->Nat
 | .node _ _ ks=>ks.length+T.inners ks
def T.inners:List T->Nat
 | []=>0
 |t::r=>t.inner+T.inners r
end
theorem T.qdX(t:T):t.inner=t.kids.length+T.inners t.kids:=by cases t;simp[T.inner]
mutual
def T.ok:T->Prop
 | .node _ _ ks=>ks.length<=maxLen/\T.oks ks
def T.oks:List T->Prop
 | []=>True
 |t::r=>t.ok/\T.oks r
end
theorem VV(g:Tag)(l:List T):∀x:DV,x∈l.map (T.enc g)->IB true 3 x:=by
 intro x hx;simp only[bP]at hx;obtain⟨t,_,rfl⟩:=hx;exact⟨by simp,by simp[aX,bg],fun _=>⟨_,T.qbJ g t⟩,by simp⟩
section
set_option profiler true
set_option profiler.threshold 2000
theorem T.qaI:∀{l:List T} {t:T},t∈l->t.inner<=T.inners l
 | [],t,h=>by simp at h
 |s::r,t,h=>by
  simp only[T.inners];rcases br.1 h with rfl|h
  ·omega
  ·have:=T.qaI h;omega
mutual
def T.cmp:T->T->Int
 | .node f v ks,.node b v' a=>
  if f<b then-1 else if f>b then 1 else if v<v' then-1 else if v>v' then 1 else
  if ks.length<a.length then-1 else if ks.length>a.length then 1 else T.cmps ks a
def T.cmps:List T->List T->Int
 |a::as,b::bs=>if T.cmp a b≠0 then T.cmp a b else T.cmps as bs
 |_,_=>0
end
def jN(l m:List T)(_:Unit)(i:Nat):Unit⊕Int:=if T.cmp (ae l i) (ae m i)≠0 then .inr (T.cmp (ae l i) (ae m i))else .inl ()
theorem qu(l m:List T)(c:l.length=m.length):∀(k i:Nat),i+k=l.length->runN (jN l m) k () i=if T.cmps (l.drop i) (m.drop i)=0 then .inl ()else .inr (T.cmps (l.drop i) (m.drop i))
 |0,i,h=>by
  have h1:l.drop i=[]:=kw (by omega);simp[runN,h1,T.cmps]
 |k+1,i,h=>by
  have b:i<l.length:=by omega
  have a:i<m.length:=by omega
  rw[cW b,cW a,bc b,bc a];simp only[runN,jN,T.cmps]
  by_cases hc:T.cmp (ae l i) (ae m i)=0
  ·simp only[hc,eD,mA,if_false]
   exact qu l m c k (i+1) (by omega)
  ·simp[hc]
def iu(a b c d e f:Int)(i:Nat):Int×Int:=if i=0 then(a,b)else if i=1 then(c,d)else(e,f)
def iB(a b c d e f:Int)(_:Unit)(i:Nat):Unit⊕(Int×(Int×Int)):=if(iu a b c d e f i).1<(iu a b c d e f i).2 then .inr (-1,iu a b c d e f i)else if(iu a b c d e f i).1>(iu a b c d e f i).2 then .inr (1,iu a b c d e f i)else .inl ()
def cf(f v:Int)(ks:List T)(b v':Int)(a:List T):ah:=[some [aa f,aa v,.d (aj .sub ks)],some [aa b,aa v',.d (aj .sub a)]]
def gM(a b c d e f:Int):List DV:=[.agg [.int .i64 a,.int .i64 b],.agg [.int .i64 c,.int .i64 d],.agg [.int .i64 e,.int .i64 f]]
theorem GI(a b c d e f:Int)(i:Nat)(hi:i<3):(gM a b c d e f)[i]?=some (.agg [.int .i64 (iu a b c d e f i).1,.int .i64 (iu a b c d e f i).2]):=by
 match i,hi with
 |0,_=>rfl
 |1,_=>rfl
 |2,_=>rfl
theorem U_(a b c d e f:Int)(B:ah)(l:B.length=2):
 bV XV [] 2 [2,3,26,27,28] gB ⟨[(2,.ptr 0 0),(3,.ptr 1 0),(26,.d (.sl .sub (gM a b c d e f))),(27,aa 3),(28,aa 0)],B⟩=
  some (match runN (iB a b c d e f) 3 () 0 with
   | .inl _=>(.exit 0,⟨[(2,.ptr 0 0),(3,.ptr 1 0),(26,.d (.sl .sub (gM a b c d e f))),(27,aa 3),(28,aa 3),(29,ar false)],B⟩)
   | .inr r=>(.ret,⟨[(4,aa r.1)],B++[some [aa r.2.1,aa r.2.2]]⟩)):=by
 obtain⟨h,g,rfl⟩:∃h g,B=[h,g]:=by
  match B,l with
  | [h,g],_=>exact⟨h,g,rfl⟩
 have key:=cg (X:=XV) (T:=[]) (L:=2) (live:=[2,3,26,27,28]) (b:=gB) (n:=3) (γ:=Int×(Int×Int)) (st:=fun(_:Unit) i=>⟨[(2,.ptr 0 0),(3,.ptr 1 0),(26,.d (.sl .sub (gM a b c d e f))),(27,aa 3),(28,aa i)],[h,g]⟩) (step:=iB a b c d e f)
  (F:=fun _=>(.exit 0,⟨[(2,.ptr 0 0),(3,.ptr 1 0),(26,.d (.sl .sub (gM a b c d e f))),(27,aa 3),(28,aa 3),(29,ar false)],[h,g]⟩)) (R:=fun r=>(.ret,⟨[(4,aa r.1)],[h,g]++[some [aa r.2.1,aa r.2.2]]⟩))
  (fun _=>⟨by simp,by simp[gB]⟩)
  (fun _ i hi=>by
   have hw:=bH (n:=i) (by omega);have j:(i:Int)<3:=by omega
   have hb:=GI a b c d e f i hi;unfold iB;generalize iu a b c d e f i=q at hb;obtain⟨x,y⟩:=q;simp only at hb⊢
   by_cases h1:x<y
   ·rw[ap h1]
    refine⟨by simp,?_⟩;simp[gB,j,hb,cut,h1,aX,splice,aG,bm,a_]
   ·rw[ak h1]
    by_cases k:x>y
    ·rw[ap k]
     refine⟨by simp,?_⟩;simp[gB,j,hb,cut,h1,k,aX,splice,aG,bm,a_]
    ·rw[ak k]
     refine⟨_,by simp[gB,j,hb,cut,h1,k,hw,aX,splice,aG,bm,a_];rfl,?_⟩;simp[aE,aD])
  3 () 0 ⟨[(2,.ptr 0 0),(3,.ptr 1 0),(26,.d (.sl .sub (gM a b c d e f))),(27,aa 3),(28,aa 0)],[h,g]⟩ (by omega) (by simp[aE,aD])
 rw[key];cases runN (iB a b c d e f) 3 () 0<;>rfl
theorem Zl(f v:Int)(ks:List T)(e v':Int)(a:List T)(l:ks.length<=1099511627776)(hlen:ks.length=a.length)
 (j:∀s s',s∈ks->s'∈a->al XV 6 [.d (s.enc .sub),.d (s'.enc .sub)] []=some (aa (T.cmp s s'),[])):
 bV XV [] 2 [2,3,47,48] iz ⟨[(2,.ptr 0 0),(3,.ptr 1 0),(47,aa ks.length),(48,aa 0)],cf f v ks e v' a⟩=
  some (if T.cmps ks a=0 then(.exit 3,⟨[(2,.ptr 0 0),(3,.ptr 1 0),(47,aa ks.length),(48,aa ks.length),(49,ar false)],cf f v ks e v' a⟩)else(.ret,⟨[(4,aa (T.cmps ks a))],cf f v ks e v' a⟩)):=by
 have h:=cg (X:=XV) (T:=[]) (L:=2) (live:=[2,3,47,48]) (b:=iz) (n:=ks.length) (γ:=Int) (st:=fun(_:Unit) i=>⟨[(2,.ptr 0 0),(3,.ptr 1 0),(47,aa ks.length),(48,aa i)],cf f v ks e v' a⟩) (step:=jN ks a)
  (F:=fun _=>(.exit 3,⟨[(2,.ptr 0 0),(3,.ptr 1 0),(47,aa ks.length),(48,aa ks.length),(49,ar false)],cf f v ks e v' a⟩)) (R:=fun r=>(.ret,⟨[(4,aa r)],cf f v ks e v' a⟩))
  (fun _=>⟨by simp,by simp[iz]⟩)
  (fun _ i hi=>by
   have hw:=bH (n:=i) (by omega);have c:i<a.length:=by omega
   have hc:=j _ _ (bS hi) (bS c);unfold jN cf
   by_cases g:T.cmp (ae ks i) (ae a i)=0
   ·rw[g]at hc⊢
    simp only[eD,mA,if_false];refine⟨_,by simp[iz,uk,hi,c,hw,cut,bc hi,bc c,hc,aG];rfl,?_⟩;simp[aE,aD]
   ·simp only[eD,g,iN,if_true]
    have k:(T.cmp (ae ks i) (ae a i) !=0)=true:=by simp[g]
    refine⟨by simp,?_⟩;simp[iz,uk,hi,c,cut,bc hi,bc c,hc,aG,k])
  ks.length () 0 ⟨[(2,.ptr 0 0),(3,.ptr 1 0),(47,aa ks.length),(48,aa 0)],cf f v ks e v' a⟩ (by omega) (by simp[aE,aD,cf])
 rw[qu ks a hlen _ _ (by omega)]at h;simp only[fE]at h;rw[h]
 by_cases g:T.cmps ks a=0<;>simp[g]
def fa(a b c d e f:Int)(r:Int):Int:=if a<b then-1 else if a>b then 1 else if c<d then-1 else if c>d then 1 else if e<f then-1 else if e>f then 1 else r
theorem JW(a b c d e f:Int):(runN (iB a b c d e f) 3 () 0= .inl ()/\a=b/\c=d/\e=f)\/∃r,runN (iB a b c d e f) 3 () 0= .inr r/\∀z,fa a b c d e f z=r.1:=by
 simp only[runN,iB,iu,fa]
 by_cases c1:a<b
 ·right;refine⟨_,by simp[c1];rfl,fun z=> ?_⟩;simp[c1]
 by_cases c2:a>b
 ·right;refine⟨_,by simp[c1,c2];rfl,fun z=> ?_⟩;simp[c1,c2]
 by_cases c3:c<d
 ·right;refine⟨_,by simp[c1,c2,c3];rfl,fun z=> ?_⟩;simp[c1,c2,c3]
 by_cases c4:c>d
 ·right;refine⟨_,by simp[c1,c2,c3,c4];rfl,fun z=> ?_⟩;simp[c1,c2,c3,c4]
 by_cases g:e<f
 ·right;refine⟨_,by simp[c1,c2,c3,c4,g];rfl,fun z=> ?_⟩;simp[c1,c2,c3,c4,g]
 by_cases h:e>f
 ·right;refine⟨_,by simp[c1,c2,c3,c4,g,h];rfl,fun z=> ?_⟩;simp[c1,c2,c3,c4,g,h]
 left;exact⟨by simp[c1,c2,c3,c4,g,h],by omega,by omega,by omega⟩
theorem tU(f v:Int)(ks:List T)(b v':Int)(a:List T):T.cmp (.node f v ks) (.node b v' a)=fa f b v v' ks.length a.length (T.cmps ks a):=by
 simp only[T.cmp,fa,Int.ofNat_lt,gt_iff_lt]
theorem VI(f v:Int)(ks:List T)(b v':Int)(a:List T)(i:ks.length<=1099511627776)(n:a.length<=1099511627776)
 (c:∀s s',s∈ks->s'∈a->al XV 6 [.d (s.enc .sub),.d (s'.enc .sub)] []=some (aa (T.cmp s s'),[])):
 al XV 6 [.d ((T.node f v ks).enc .sub),.d ((T.node b v' a).enc .sub)] []=some (aa (T.cmp (.node f v ks) (.node b v' a)),[]):=by
 rw[aJ 6 v6 rfl];have h1:=U_ f b v v' ks.length a.length (cf f v ks b v' a) rfl;simp[v6,aX,bg,bm,a_,splice,aG,cF,List.replicate];simp only[gM,cf]at h1;rw[h1,tU];rcases JW f b v v' ks.length a.length with⟨e,m,l,e3⟩|⟨r,e,j⟩
 ·rw[e]
  have hlen:ks.length=a.length:=by omega
  have g:=Zl f v ks b v' a i hlen c;simp only[cf]at g;subst m;subst l
  simp[Ac,aG];rw[g];have k:fa f f v v ks.length a.length (T.cmps ks a)=T.cmps ks a:=by simp[fa,hlen]
  rw[k]
  by_cases h:T.cmps ks a=0
  ·simp[h,DG]
  ·simp[h]
 ·rw[e,j];simp
theorem vL(a b:T)(ha:a.inner<=1099511627776)(hb:b.inner<=1099511627776):al XV 6 [.d (a.enc .sub),.d (b.enc .sub)] []=some (aa (T.cmp a b),[]):=by
 match a,b,ha,hb with
 | .node f v ks,.node g v' e,ha,hb=>
  simp only[T.inner]at ha hb;exact VI f v ks g v' e (by omega) (by omega) (fun s s' hs c=>vL s s' (by have:=T.qaI hs;omega) (by have:=T.qaI c;omega))
termination_by a
decreasing_by
 simp_wf
 have:=gP hs;omega
end
theorem cmp_zero(f v:Int)(ks:List T)(b v':Int)(a:List T):T.cmp (.node f v ks) (.node b v' a)=0↔f=b/\v=v'/\ks.length=a.length/\T.cmps ks a=0:=by
 rw[tU];unfold fa
 constructor
 ·intro h
  iterate 6 (split at h;·omega)
  exact⟨by omega,by omega,by omega,h⟩
 ·rintro⟨rfl,rfl,h,c⟩
  simp[h,c]
theorem UY(f v:Int)(ks:List T)(c v':Int)(a:List T)(p:ks.length<=1099511627776)(o:a.length<=1099511627776)
 (j:∀s s',s∈ks->s'∈a->al XV 3 [.d (s.enc .sub),.d (s'.enc .sub)] []=some (ar (T.cmp s s'==0),[])):
 al XV 3 [.d ((T.node f v ks).enc .sub),.d ((T.node c v' a).enc .sub)] []=some (ar (T.cmp (.node f v ks) (.node c v' a)==0),[]):=by
 rw[aJ 3 v3 rfl];have hz:=cmp_zero f v ks c v' a;have ne:¬(f=c/\v=v'/\ks.length=a.length/\T.cmps ks a=0)->(T.cmp (.node f v ks) (.node c v' a)==0)=false:=fun h=>by
  rw[<-hz]at h;simpa using h
 by_cases c1:f=c
 case neg=>
  rw[ne (fun h=>c1 h.1)];have m:(f !=c)=true:=by simp[c1]
  simp[v3,m]
 by_cases c2:v=v'
 case neg=>
  rw[ne (fun h=>c2 h.2.1)];have l:(v !=v')=true:=by simp[c2]
  simp[v3,c1,l]
 by_cases c3:ks.length=a.length
 case neg=>
  rw[ne (fun h=>c3 h.2.2.1)];have b3:((ks.length:Int) !=a.length)=true:=by simp;omega
  simp[v3,c1,c2,b3]
 have h:=cg (X:=XV) (T:=[]) (L:=2) (live:=[2,3,5]) (b:=qn) (n:=ks.length) (γ:=Int) (st:=fun(_:Unit) i=>⟨[(2,.ptr 0 0),(3,.ptr 1 0),(5,aa i)],cf f v ks c v' a⟩) (step:=jN ks a)
  (F:=fun _=>(.exit 0,⟨[(2,.ptr 0 0),(3,.ptr 1 0),(5,aa ks.length),(31,ar false)],cf f v ks c v' a⟩)) (R:=fun r=>(.ret,⟨[(4,ar false)],cf f v ks c v' a⟩))
  (fun _=>⟨by simp,by simp[qn,cf]⟩)
  (fun _ i hi=>by
   have hw:=bH (n:=i) (by omega);have e:i<a.length:=by omega
   have hc:=j _ _ (bS hi) (bS e);unfold jN cf
   by_cases g:T.cmp (ae ks i) (ae a i)=0
   ·rw[g]at hc⊢
    simp only[eD,mA,if_false];refine⟨_,by simp[qn,Fz,hi,e,hw,cut,bc hi,bc e,hc];rfl,?_⟩;simp[aE,aD]
   ·simp only[eD,g,iN,if_true]
    have k:(T.cmp (ae ks i) (ae a i)==0)=false:=by simp[g]
    rw[k]at hc;refine⟨by simp,?_⟩;simp[qn,Fz,hi,e,cut,bc hi,bc e,hc])
  ks.length () 0 ⟨[(2,.ptr 0 0),(3,.ptr 1 0),(5,aa 0)],cf f v ks c v' a⟩ (by omega) (by simp[aE,aD,cf])
 rw[qu ks a c3 _ _ (by omega)]at h;simp only[fE,cf]at h;simp[v3,c1,c2,c3];subst c1;subst c2
 rw[c3]at h;rw[h]
 by_cases g:T.cmps ks a=0
 ·have:T.cmp (.node f v ks) (.node f v a)=0:=hz.2 ⟨rfl,rfl,c3,g⟩
  simp[g,Ey,this]
 ·have:¬T.cmp (.node f v ks) (.node f v a)=0:=fun h=>g (hz.1 h).2.2.2
  simp[g,Ey,this]
theorem EC(a b:T)(ha:a.inner<=1099511627776)(hb:b.inner<=1099511627776):al XV 3 [.d (a.enc .sub),.d (b.enc .sub)] []=some (ar (T.cmp a b==0),[]):=by
 match a,b,ha,hb with
 | .node f v ks,.node g v' e,ha,hb=>
  simp only[T.inner]at ha hb;exact UY f v ks g v' e (by omega) (by omega) (fun s s' hs c=>EC s s' (by have:=T.qaI hs;omega) (by have:=T.qaI c;omega))
termination_by a
decreasing_by
 simp_wf
 have:=gP hs;omega
theorem same_eq(a b:T)(ha:a.inner<=1099511627776)(hb:b.inner<=1099511627776):al XV 4 [.d (a.enc .sub),.d (b.enc .sub)] []=some (ar (T.cmp a b==0),[]):=by
 rw[aJ 4 v4 rfl];have h:=vL a b ha hb;simp[v4,h]
theorem oI(k i:Nat):runN (fun(_:Unit) (_:Nat)=>(Sum.inl ():Unit⊕Unit)) k () i= .inl ():=by
 induction k generalizing i with
 |zero=>rfl
 |succ k a=>simp[runN,a]
@[simp] theorem qST(cs:List DV):isAgg (.agg cs)=true:=rfl
@[simp] theorem qSS(k:IntKind)(n:Int):isAgg (.int k n)=false:=rfl
@[simp] theorem qWz(s:SymL):s.enc.cn=s.enc:=by simp[SymL.enc,SymL.cells]
@[simp] theorem qSR(s:SymL):isAgg s.enc=true:=rfl
@[simp] theorem qT7(s:SymL):s.enc.clr=s.enc:=by simp[SymL.enc,SymL.cells]
@[simp] theorem qOE(s:SymL):s.enc.cells=[.str s.name,.int .i64 s.arity,.bool s.ac]:=rfl
@[simp] theorem qOf(s:SymL):(AV.d s.enc).cells=[.d (.str s.name),aa s.arity,ar s.ac]:=rfl
@[simp] theorem qNv(s:SymL):s.enc.isCell=false:=rfl
@[simp] theorem qUa(n:ByteArray)(a:Int)(b:Bool):DV.agg [.str n,.int .i64 a,.bool b]=SymL.enc ⟨n,a,b⟩:=rfl
@[simp high] theorem Ja(l:List SymL):(l.map SymL.enc).map DV.clr=l.map SymL.enc:=by simp[eN,kD]
def aR(l:List SymL)(i:Nat):SymL:=(l[i]?).getD ⟨⟨#[]⟩,0,false⟩
theorem ca{l:List SymL}{i:Nat}(h:i<l.length):l[i]=aR l i:=by simp[aR,h]
theorem LK{l:List SymL}{i:Nat}(h:i<l.length):aR l i∈l:=by rw[<-ca h];exact il h
abbrev sg(l:List SymL):DV:= .sl .sub (l.map SymL.enc)
@[simp] theorem qTm(a b:ByteArray):eR .eql (.str a) (.str b)=some (.bool (fC a b)):=rfl
@[simp] theorem qTl(a b:ByteArray):eR .neq (.str a) (.str b)=some (.bool !(fC a b)):=rfl
def cV(x lo hi:Int):Bool:=decide (lo<=x)&&decide (x<=hi)
theorem nL(x lo hi:Int):al XV 30 [aa x,aa lo,aa hi] []=some (ar (cV x lo hi),[]):=by
 rw[aJ 30 pK rfl];unfold cV
 by_cases h:lo<=x
 ·have a:x>=lo:=h
  simp[pK,h]
 ·have a:¬x>=lo:=h
  simp[pK,h]
theorem mx(x lo hi:Int):al XV 31 [aa x,aa lo,aa hi] []=some (ar (cV x lo hi),[]):=by
 rw[aJ 31 qZ rfl];unfold cV
 by_cases h:lo<=x
 ·simp[qZ,h]
 ·simp[qZ,h]
def dL(l:List SymL)(f:Int):Bool:=cV f 0 (l.length-1)
theorem kG{l:List SymL}{f:Int}(h:dL l f=true):0<=f/\f.toNat<l.length:=by
 simp[dL,cV]at h;omega
theorem Eo(l:List SymL)(a:l.length<=1099511627776)(f:Int):al XV 29 [.d (sg l),aa f] []=some (ar (dL l f),[]):=by
 rw[aJ 29 ve rfl];have hw:IntKind.i64.wrap ((l.length:Int)-1)=l.length-1:=wrap_i64 (by omega) (by omega);have h:=nL f 0 (l.length-1);simp[ve,hw,h,dL]
def bA(l:List SymL)(f:Int):Bool:=dL l f&&(aR l f.toNat).ac
theorem pF(l:List SymL)(b:l.length<=1099511627776)(f:Int):al XV 34 [.d (sg l),aa f] []=some (ar (bA l f),[]):=by
 rw[aJ 34 qY rfl];have h:=Eo l b f;unfold bA;cases hs:dL l f with
 |false=>
  rw[hs]at h;simp[qY,h]
 |true=>
  rw[hs]at h;obtain⟨h1,a⟩:=kG hs;simp[qY,h,h1,a,ca a,cut]
theorem Ut(l:List SymL)(b:l.length<=1099511627776)(f:Int):al XV 33 [.d (sg l),aa f] []=some (ar (bA l f),[]):=by
 rw[aJ 33 qK rfl];have hw:IntKind.i64.wrap ((l.length:Int)-1)=l.length-1:=wrap_i64 (by omega) (by omega);have h:=mx f 0 (l.length-1);unfold bA dL;cases hs:cV f 0 (l.length-1)with
 |false=>
  rw[hs]at h;simp[qK,h,hw]
 |true=>
  rw[hs]at h;obtain⟨h1,a⟩:=kG (l:=l) (f:=f) hs;simp[qK,h,hw,h1,a,ca a,cut]
def lA(c:Int):Bool:=decide (97<=c)&&decide (c<=122)
def sd(c:Int):Bool:=decide (48<=c)&&decide (c<=57)
theorem GE(c:Int):al XV 61 [.d (.int .u8 c)] []=some (ar (lA c),[]):=by
 rw[aJ 61 tS rfl];cases h1:decide (97<=c)<;>simp[tS,h1,lA]
theorem Rl(c:Int):al XV 62 [.d (.int .u8 c)] []=some (ar (sd c),[]):=by
 rw[aJ 62 tL rfl];cases h1:decide (48<=c)<;>simp[tL,h1,sd]
def eM(x:Int)(i:Nat):Prop:=(97<=x/\x<=122)\/(0<i/\48<=x/\x<=57)
instance (x:Int) (i:Nat):Decidable (eM x i):=by unfold eM;exact inferInstance
theorem Fw(s:ByteArray)(hs:s.size<=1099511627776)(i:Nat)(c:i<s.size)(x:Int)(hb:mL s i=some x):
 aH XV [] pU ⟨[(0,.d (.str s)),(3,aa i)],[]⟩=some (if eM x i then(.normal,⟨[(0,.d (.str s)),(3,aa (i+1:Nat))],[]⟩)else(.ret,⟨[(2,ar false)],[]⟩)):=by
 have hw:=bH (n:=i) (by omega);simp[pU,hb,c];cases h1:decide (97<=x)
 case true=>
  simp[hb];cases h2:decide (x<=122)
  case true=>
   simp[hw];have:eM x i:=by simp at h1 h2;exact .inl ⟨h1,h2⟩
   simp[this]
  case false=>
   simp;cases h3:decide (0<i)<;>simp[hb]
   case true=>
    have a:(48<=x):=by simp at h1;omega
    simp[a,hb];have b:¬(x<=57):=by simp at h1;omega
    have:¬eM x i:=by simp at h1 h2;unfold eM;omega
    simp[b,this]
   case false=>
    have:¬eM x i:=by simp at h1 h2 h3;unfold eM;omega
    simp[this]
 case false=>
  simp;cases h3:decide (0<i)
  case true=>
   simp[hb];cases a:decide (48<=x)
   case true=>
    simp[hb];cases b:decide (x<=57)
    case true=>
     have:eM x i:=by simp at h1 h3 a b;unfold eM;omega
     simp[hw,this]
    case false=>
     have:¬eM x i:=by simp at h1 h3 a b;unfold eM;omega
     simp[this]
   case false=>
    have:¬eM x i:=by simp at h1 h3 a;unfold eM;omega
    simp[this]
  case false=>
   have:¬eM x i:=by simp at h1 h3;unfold eM;omega
   simp[this]
def ke(s:ByteArray)(i:Nat):Bool:=decide (eM (eZ s i) i)
def ie(s:ByteArray)(f:ByteArray->Nat->Bool)(i k:Nat):Bool:=(List.range' i k).all (f s)
theorem Ir(s:ByteArray)(f:ByteArray->Nat->Bool)(i:Nat):ie s f i 0=true:=rfl
theorem E0(s:ByteArray)(f:ByteArray->Nat->Bool)(i k:Nat):ie s f i (k+1)=(f s i&&ie s f (i+1) k):=by simp[ie,AC]
theorem qFc(s:ByteArray)(f:ByteArray->Nat->Bool)(i k:Nat):ie s f i k=true↔∀j,i<=j->j<i+k->f s j=true:=by
 simp only[ie,bu,List.mem_range'_1];exact⟨fun h j h1 a=>h j ⟨h1,a⟩,fun h j h1=>h j h1.1 h1.2⟩
theorem Kf(s:ByteArray)(hs:s.size<=1099511627776):∀(k i:Nat),i+k=s.size->
 bV XV [] 0 [0,3] pU ⟨[(0,.d (.str s)),(3,aa i)],[]⟩=
  some (if ie s ke i k then(.exit 0,⟨[(0,.d (.str s)),(3,aa s.size),(7,ar false)],[]⟩)else(.ret,⟨[(2,ar false)],[]⟩))
 |0,i,e=>by
  have:i=s.size:=by omega
  subst this;rw[lX];simp[aE,aD,pU,Ir]
 |k+1,i,e=>by
  have a:i<s.size:=by omega
  have c:=Kf s hs k (i+1) (by omega);rw[lX,E0]
  by_cases h:eM (eZ s i) i
  ·have b:ke s i=true:=by simp[ke,h]
   rw[b,eP,<-c];simp[aE,aD,Fw s hs i a _ (ye a),h]
  ·have b:ke s i=false:=by simp[ke,h]
   simp[aE,aD,Fw s hs i a _ (ye a),h,b]
def kt(s:ByteArray):Bool:=ie s ke 0 s.size&&cV s.size 1 8
theorem Qd(s:ByteArray)(hs:s.size<=1099511627776):al XV 59 [.d (.str s)] []=some (ar (kt s),[]):=by
 rw[aJ 59 xu rfl];have h:=Kf s hs s.size 0 (by omega);simp[xu];simp at h;rw[h];cases h1:ie s ke 0 s.size
 ·simp[kt,h1]
 ·simp[kt,h1,mx]
def kh(s:ByteArray)(i:Nat):Bool:=lA (eZ s i)||sd (eZ s i)
theorem Jb(s:ByteArray)(hs:s.size<=1099511627776)(i:Nat)(a:i<s.size):
 aH XV [] rY ⟨[(0,.d (.str s)),(5,aa s.size),(6,aa i)],[]⟩=some (if kh s i then(.normal,⟨[(0,.d (.str s)),(5,aa s.size),(6,aa (i+1:Nat))],[]⟩)else(.ret,⟨[(2,ar false)],[]⟩)):=by
 have hw:=bH (n:=i) (by omega);have hb:=ye a;simp[rY,hb,a,GE];cases h1:lA (eZ s i)
 ·simp[hb,Rl]
  cases h2:sd (eZ s i)<;>simp[hw,kh,h1,h2]
 ·simp[hw,kh,h1]
theorem Im(s:ByteArray)(hs:s.size<=1099511627776):∀(k i:Nat),i+k=s.size->
 bV XV [] 0 [0,5,6] rY ⟨[(0,.d (.str s)),(5,aa s.size),(6,aa i)],[]⟩=
  some (if ie s kh i k then(.exit 0,⟨[(0,.d (.str s)),(5,aa s.size),(6,aa s.size),(7,ar false)],[]⟩)else(.ret,⟨[(2,ar false)],[]⟩))
 |0,i,b=>by
  have:i=s.size:=by omega
  subst this;rw[lX];simp[aE,aD,rY,Ir]
 |k+1,i,b=>by
  have a:i<s.size:=by omega
  have c:=Im s hs k (i+1) (by omega);rw[lX,E0];cases h:kh s i
  ·simp[aE,aD,Jb s hs i a,h]
  ·rw[eP,<-c]
   simp[aE,aD,Jb s hs i a,h]
def rB(s:ByteArray):Bool:=ie s kh 0 s.size&&(cV s.size 1 8&&lA (eZ s 0))
theorem Vj(s:ByteArray)(hs:s.size<=1099511627776):al XV 60 [.d (.str s)] []=some (ar (rB s),[]):=by
 rw[aJ 60 te rfl];have h:=Im s hs s.size 0 (by omega);simp[te];simp at h;rw[h];cases h1:ie s kh 0 s.size
 ·simp[rB,h1]
 ·simp[rB,h1,nL]
  cases h2:cV s.size 1 8
  ·simp
  ·have a:0<s.size:=by simp[cV]at h2;omega
   simp[ye a,GE]
theorem qHO(s:ByteArray)(i:Nat):ke s i=true↔(97<=eZ s i/\eZ s i<=122)\/(0<i/\48<=eZ s i/\eZ s i<=57):=by
 unfold ke;rw[ba];rfl
theorem qCY(s:ByteArray)(i:Nat):kh s i=true↔(97<=eZ s i/\eZ s i<=122)\/(48<=eZ s i/\eZ s i<=57):=by
 simp[kh,lA,sd]
theorem Mk(x:Int):lA x=true↔97<=x/\x<=122:=by simp[lA]
theorem Tj(s:ByteArray):rB s=kt s:=by
 rw[wj];simp only[kt,rB,aF,qFc,qHO,qCY,Mk];constructor
 ·rintro⟨h1,b,d⟩
  refine⟨fun j hj a=> ?_,b⟩;have c:=h1 j hj a;rcases kf j with rfl|h
  ·exact .inl d
  ·omega
 ·rintro⟨h1,b⟩
  have e:0<s.size:=by simp[cV]at b;omega
  have g:=h1 0 (aU _) (by omega);refine⟨fun j hj a=> ?_,b,?_⟩
  ·have c:=h1 j hj a
   omega
  ·omega
def aO(q:Nat->Bool):Nat->Nat->Option Nat
 |0,_=>none
 |k+1,i=>if q i then some i else aO q k (i+1)
def b_(q:Nat->Bool)(_:Unit)(i:Nat):Unit⊕Nat:=if q i then .inr i else .inl ()
theorem ee(q:Nat->Bool):∀(k i:Nat),runN (b_ q) k () i=match aO q k i with|some j=> .inr j|none=> .inl ()
 |0,i=>rfl
 |k+1,i=>by
  simp only[runN,b_,aO];cases h:q i
  ·simp[ee q k (i+1)]
  ·simp
def cZ:Option Nat->Int
 |some j=>j
 |none=> -1
theorem eT(q:Nat->Bool):∀(k i j:Nat),aO q k i=some j->i<=j/\j<i+k/\q j=true
 |0,i,j,h=>by simp[aO]at h
 |k+1,i,j,h=>by
  simp only[aO]at h;split at h
  ·simp at h;subst h;exact⟨aU _,by omega,by assumption⟩
  ·obtain⟨h1,b,a⟩:=eT q k (i+1) j h;exact⟨by omega,by omega,a⟩
def f_(l:List SymL)(name:ByteArray):Int:=cZ (aO (fun i=>fC (aR l i).name name) l.length 0)
theorem qqa(l:List SymL)(name:ByteArray)(g:l.length<=1099511627776):al XV 13 [.d (sg l),.d (.str name)] []=some (aa (f_ l name),[]):=by
 rw[aJ 13 wt rfl];have h:=cg (X:=XV) (T:=[]) (L:=0) (live:=[0,1,5]) (b:=sw) (n:=l.length) (st:=fun(_:Unit) i=>⟨[(0,.d (sg l)),(1,.d (.str name)),(5,aa i)],[]⟩) (step:=b_ fun i=>fC (aR l i).name name)
  (F:=fun _=>(.exit 0,⟨[(0,.d (sg l)),(1,.d (.str name)),(5,aa l.length),(9,ar false)],[]⟩)) (R:=fun(j:Nat)=>(.ret,⟨[(4,aa j)],[]⟩))
  (fun a=>⟨by simp,by simp[sw]⟩)
  (fun a i hi=>by
   have hw:=bH (n:=i) (by omega);unfold b_
   by_cases c:fC (aR l i).name name=true
   ·rw[ap c];exact⟨by simp,by simp[sw,hi,cut,ca hi,c]⟩
   ·rw[ak c]
    have e:fC (aR l i).name name=false:=by simpa using c
    exact⟨_,by simp[sw,hi,hw,cut,ca hi,e];rfl,by simp[aE,aD]⟩)
  l.length () 0 ⟨[(0,.d (sg l)),(1,.d (.str name)),(5,aa 0)],[]⟩ (by omega) (by simp[aE,aD])
 rw[ee]at h;simp[wt];rw[h];unfold f_;cases c:aO (fun i=>fC (aR l i).name name) l.length 0<;>simp[cZ]
theorem qo9(l:List SymL)(c:Nat)(caps:List AV)(B:ah)(P:SymL->Bool)(p:l.length<=1099511627776)(hs:AV.safe.safes B.length caps=true)(g:caps.map AV.clr=caps)(m:¬0∈XV.lin c)
 (o:∀s,s∈l->al XV c (.d s.enc::caps) B=some (ar (P s),B)):
 al XV 19 [.d (sg l),.fn c caps] B=some (aa (cZ (aO (fun i=>P (aR l i)) l.length 0)),B):=by
 rw[aJ 19 tP rfl];have h:=cg (X:=XV) (T:=XV.lin 19) (L:=B.length) (live:=[0,1,7,8]) (b:=pY) (n:=l.length) (st:=fun(_:Unit) i=>⟨[(0,.d (sg l)),(1,.fn c caps),(7,aa l.length),(8,aa i)],B⟩) (step:=b_ fun i=>P (aR l i))
  (F:=fun _=>(.exit 0,⟨[(0,.d (sg l)),(1,.fn c caps),(7,aa l.length),(8,aa l.length),(9,ar false)],B⟩)) (R:=fun(j:Nat)=>(.ret,⟨[(4,aa j)],B⟩))
  (fun a=>⟨by simp,by simp[pY]⟩)
  (fun a i hi=>by
   have hw:=bH (n:=i) (by omega);have hc:=o _ (LK hi);unfold b_
   by_cases e:P (aR l i)=true
   ·rw[ap e];rw[e]at hc
    exact⟨by simp,by simp[pY,hi,cut,ca hi,hc,g,m]⟩
   ·rw[ak e]
    have k:P (aR l i)=false:=by simpa using e
    rw[k]at hc;exact⟨_,by simp[pY,hi,hw,cut,ca hi,hc,g,m];rfl,by simp[aE,aD,hs]⟩)
  l.length () 0 ⟨[(0,.d (sg l)),(1,.fn c caps),(7,aa l.length),(8,aa 0)],B⟩ (by omega) (by simp[aE,aD,hs])
 rw[ee]at h;simp only[Vh]at h;simp[tP];rw[h];cases e:aO (fun i=>P (aR l i)) l.length 0<;>simp[cZ]
theorem UT(s:SymL)(name:ByteArray):al XV 18 [.d s.enc,.ptr 0 0] [some [.d (.str name)]]=some (ar (fC s.name name),[some [.d (.str name)]]):=by
 rw[aJ 18 ub rfl];simp[ub]
theorem RF(l:List SymL)(name:ByteArray)(a:l.length<=1099511627776):al XV 14 [.d (sg l),.d (.str name)] []=some (aa (f_ l name),[]):=by
 rw[aJ 14 vB rfl];have hc:=qo9 l 18 [.ptr 0 0] [some [.d (.str name)]] (fun s=>fC s.name name) a (by simp) (by simp) (by simp) (fun s _=>UT s name);simp[vB,hc,f_]
def gh(l:List SymL)(s:SymL)(i:Nat):Bool:= !kt s.name|| !(decide (f_ l s.name=i))|| !(cV s.arity 0 3)||(s.ac&& !decide (s.arity=2))
def uE(s:SymL):Bool:=fC s.name ⟨#[116,116]⟩&&decide (s.arity=0)
def mK(l:List SymL):Bool:=(aO (fun i=>gh l (aR l i) i) l.length 0).isNone&&(cV l.length 1 8&&uE (aR l 0))
theorem pC(l:List SymL)(s:SymL)(i:Nat):gh l s i=false↔kt s.name=true/\f_ l s.name=i/\cV s.arity 0 3=true/\(s.ac=true->s.arity=2):=by
 simp[gh,and_assoc]
theorem XT(l:List SymL)(h:l.length<=1099511627776)(i:Nat)(hi:i<l.length)(hn:(aR l i).name.size<=1099511627776):
 Al 0 [0,5,6,7] (fun(_:Unit) i=>⟨[(0,.d (sg l)),(5,.d (sg l)),(6,aa l.length),(7,aa i)],[]⟩) (fun(_:Nat)=>(.ret,⟨[(2,ar false)],[some [.d (.str (aR l i).name),aa (aR l i).arity,ar (aR l i).ac]]⟩)) i
  (aH XV (XV.lin 77) jp ⟨[(0,.d (sg l)),(5,.d (sg l)),(6,aa l.length),(7,aa i)],[]⟩) (b_ (fun i=>gh l (aR l i) i) () i):=by
 have hw:=bH (n:=i) (by omega);have a:=Vj (aR l i).name hn;rw[Tj]at a;have e:=RF l (aR l i).name h;have c:=nL (aR l i).arity 0 3;unfold b_
 by_cases hb:gh l (aR l i) i=true
 ·rw[ap hb]
  refine⟨by simp,?_⟩;cases c1:kt (aR l i).name with
  |false=>rw[c1]at a;simp[jp,hi,cut,ca hi,a,splice]
  |true=>
   rw[c1]at a
   by_cases c2:f_ l (aR l i).name=i
   ·have b:(f_ l (aR l i).name !=i)=false:=by simp[c2]
    cases c3:cV (aR l i).arity 0 3 with
    |false=>rw[c3]at c;simp[jp,hi,cut,ca hi,a,e,b,c,splice]
    |true=>
     rw[c3]at c;have c4:(aR l i).ac=true/\¬(aR l i).arity=2:=by
      have:¬gh l (aR l i) i=false:=by simp[hb]
      rw[pC]at this;simp only[c1,c2,c3,jP]at this;exact Classical.not_imp.1 this
     have b4:((aR l i).arity !=2)=true:=by simp[c4.2]
     simp[jp,hi,cut,ca hi,a,e,b,c,splice,c4.1,b4]
   ·have b:(f_ l (aR l i).name !=i)=true:=by simp[c2]
    simp[jp,hi,cut,ca hi,a,e,b,splice]
 ·have g:gh l (aR l i) i=false:=by simpa using hb
  rw[ak hb];obtain⟨c1,c2,c3,c4⟩:=(pC l _ i).1 g;have b:(f_ l (aR l i).name !=i)=false:=by simp[c2]
  rw[c1]at a;rw[c3]at c
  cases c5:(aR l i).ac with
  |false=>exact⟨_,by simp[jp,hi,hw,cut,ca hi,a,e,b,c,splice,c5];rfl,by simp[aE,aD]⟩
  |true=>
   have b4:((aR l i).arity !=2)=false:=by simp[c4 c5]
   exact⟨_,by simp[jp,hi,hw,cut,ca hi,a,e,b,c,splice,c5,b4];rfl,by simp[aE,aD]⟩
theorem TM(l:List SymL)(g:l.length<=1099511627776)(hn:∀i,i<l.length->(aR l i).name.size<=1099511627776):al XV 77 [.d (sg l)] []=some (ar (mK l),[]):=by
 rw[aJ 77 wI rfl];have h:=cg (X:=XV) (T:=XV.lin 77) (L:=0) (live:=[0,5,6,7]) (b:=jp) (n:=l.length) (γ:=Nat) (st:=fun(_:Unit) i=>⟨[(0,.d (sg l)),(5,.d (sg l)),(6,aa l.length),(7,aa i)],[]⟩) (step:=b_ fun i=>gh l (aR l i) i)
  (F:=fun _=>(.exit 0,⟨[(0,.d (sg l)),(5,.d (sg l)),(6,aa l.length),(7,aa l.length),(8,ar false)],[]⟩)) (R:=fun j=>(.ret,⟨[(2,ar false)],[some [.d (.str (aR l j).name),aa (aR l j).arity,ar (aR l j).ac]]⟩))
  (fun a=>⟨by simp,by simp[jp]⟩)
  (fun a i hi=>by
   have hb:=XT l g i hi (hn i hi);unfold b_ at hb⊢
   split at hb
   ·rename_i h1;rw[ap h1];exact hb
   ·rename_i h1;rw[ak h1];exact hb)
  l.length () 0 ⟨[(0,.d (sg l)),(5,.d (sg l)),(6,aa l.length),(7,aa 0)],[]⟩ (by omega) (by simp[aE,aD])
 rw[ee]at h;simp only[Na]at h;simp[wI];rw[h];unfold mK;cases hq:aO (fun i=>gh l (aR l i) i) l.length 0 with
 |some j=>simp
 |none=>
  have c:=nL l.length 1 8;cases c1:cV l.length 1 8 with
  |false=>rw[c1]at c;simp[c]
  |true=>
   rw[c1]at c;have e:0<l.length:=by simp[cV]at c1;omega
   unfold uE;cases c2:fC (aR l 0).name ⟨#[116,116]⟩with
   |false=>simp[c,e,ca e,cut,c2]
   |true=>
    by_cases c3:(aR l 0).arity=0
    ·simp[c,e,ca e,cut,c2,c3]
    ·have b3:((aR l 0).arity==0)=false:=by simp[c3]
     simp[c,e,ca e,cut,c2,c3,b3]
theorem Zg(l:List SymL)(C:l.length<=1099511627776)(hn:∀i,i<l.length->(aR l i).name.size<=1099511627776):al XV 82 [.d (sg l)] []=some (ar (mK l),[]):=by
 rw[aJ 82 wu rfl];have h:=cg (X:=XV) (T:=XV.lin 82) (L:=0) (live:=[0,3]) (b:=kx) (n:=l.length) (γ:=Nat) (st:=fun(_:Unit) i=>⟨[(0,.d (sg l)),(3,aa i)],[]⟩) (step:=b_ fun i=>gh l (aR l i) i)
  (F:=fun _=>(.exit 0,⟨[(0,.d (sg l)),(3,aa l.length),(7,ar false)],[]⟩)) (R:=fun j=>(.ret,⟨[(2,ar false)],[]⟩))
  (fun a=>⟨by simp,by simp[kx]⟩)
  (fun a i hi=>by
   have hw:=bH (n:=i) (by omega);have g:=Qd (aR l i).name (hn i hi);have p:=qqa l (aR l i).name C;have c:=mx (aR l i).arity 0 3;unfold b_
   by_cases hb:gh l (aR l i) i=true
   ·rw[ap hb]
    refine⟨by simp,?_⟩;cases c1:kt (aR l i).name with
    |false=>rw[c1]at g;simp[kx,hi,cut,ca hi,g]
    |true=>
     rw[c1]at g
     by_cases c2:f_ l (aR l i).name=i
     ·have o:(f_ l (aR l i).name !=i)=false:=by simp[c2]
      cases c3:cV (aR l i).arity 0 3 with
      |false=>rw[c3]at c;simp[kx,hi,cut,ca hi,g,p,o,c]
      |true=>
       rw[c3]at c;have c4:(aR l i).ac=true/\¬(aR l i).arity=2:=by
        have:¬gh l (aR l i) i=false:=by simp[hb]
        rw[pC]at this;simp only[c1,c2,c3,jP]at this;exact Classical.not_imp.1 this
       have b4:((aR l i).arity !=2)=true:=by simp[c4.2]
       simp[kx,hi,cut,ca hi,g,p,o,c,c4.1,b4]
     ·have o:(f_ l (aR l i).name !=i)=true:=by simp[c2]
      simp[kx,hi,cut,ca hi,g,p,o]
   ·have w:gh l (aR l i) i=false:=by simpa using hb
    rw[ak hb];obtain⟨c1,c2,c3,c4⟩:=(pC l _ i).1 w;have o:(f_ l (aR l i).name !=i)=false:=by simp[c2]
    rw[c1]at g;rw[c3]at c
    cases c5:(aR l i).ac with
    |false=>exact⟨_,by simp[kx,hi,hw,cut,ca hi,g,p,o,c,c5];rfl,by simp[aE,aD]⟩
    |true=>
     have b4:((aR l i).arity !=2)=false:=by simp[c4 c5]
     exact⟨_,by simp[kx,hi,hw,cut,ca hi,g,p,o,c,c5,b4];rfl,by simp[aE,aD]⟩)
  l.length () 0 ⟨[(0,.d (sg l)),(3,aa 0)],[]⟩ (by omega) (by simp[aE,aD])
 rw[ee]at h;simp only[TB]at h;simp[wu];rw[h];unfold mK;cases hq:aO (fun i=>gh l (aR l i) i) l.length 0 with
 |some j=>simp
 |none=>
  have c:=mx l.length 1 8;cases c1:cV l.length 1 8 with
  |false=>rw[c1]at c;simp[c]
  |true=>
   rw[c1]at c;have x:0<l.length:=by simp[cV]at c1;omega
   have m:∀(q:Nat->Bool) (k i j:Nat),aO q k i=none->i<=j->j<i+k->q j=false:=by
    intro q k
    induction k with
    |zero=>intro i j _ h1 z;omega
    |succ k y=>
     intro i j t h1 z;simp only[aO]at t;split at t
     ·simp at t
     ·rcases D8 h1 with rfl|h1
      ·simpa using ‹¬q i=true›
      ·exact y (i+1) j t h1 (by omega)
   have u:=m _ _ _ 0 hq (aU _) (by omega);obtain⟨_,_,_,c4⟩:=(pC l (aR l 0) 0).1 u;have key:dR [2,0,1] [.str (aR l 0).name,.int .i64 (aR l 0).arity,.bool (aR l 0).ac] [.str ⟨#[116,116]⟩,.int .i64 0,.bool false]=some (uE (aR l 0)):=by
    unfold uE;cases c2:fC (aR l 0).name ⟨#[116,116]⟩<;>by_cases c3:(aR l 0).arity=0<;>cases c5:(aR l 0).ac<;>simp[dR,c2,c3]
    have:=c4 c5;omega
   have r:∀s s':SymL,CH false [2,0,1] (some (.d s.enc)) (some (.d s'.enc))=(dR [2,0,1] [.str s.name,.int .i64 s.arity,.bool s.ac] [.str s'.name,.int .i64 s'.arity,.bool s'.ac]).map fun e=> ar e:=fun s s'=>by
    show(dR [2,0,1] s.cells s'.cells).map _=_;simp[SymL.cells]
   simp[c,x,ca x,cut,r,key,splice]
mutual
def T.fold{σ:Type}(e:T->σ->σ):T->σ->σ
 | .node f v ks,s=>T.folds e ks (e (.node f v ks) s)
def T.folds{σ:Type}(e:T->σ->σ):List T->σ->σ
 | [],s=>s
 |t::r,s=>T.folds e r (T.fold e t s)
end
theorem take_at{α:Type}(B r:List α):(B++r).take B.length=B:=by simp
theorem gg{L:Nat}{live:List Nat}{s:XS}{a:List (Nat×AV)}{B e:ah}(h:keep s.r live=a)(hs:aD L a=true)(b:B.length=L)(he:s.B=B++e):aE L live s=some ⟨a,B⟩:=by
 unfold aE;rw[h,he,ap ⟨hs,by simp;omega⟩,<-b,take_at]
def mP{σ:Type}(e:T->σ->σ)(l:List T)(s:σ)(i:Nat):σ⊕Unit:= .inl (T.fold e (ae l i) s)
theorem Dj{σ:Type}(e:T->σ->σ)(l:List T):∀(k i:Nat) (s:σ),i+k=l.length->runN (mP e l) k s i= .inl (T.folds e (l.drop i) s)
 |0,i,s,h=>by
  have h1:l.drop i=[]:=kw (by omega);simp[runN,h1,T.folds]
 |k+1,i,s,h=>by
  have a:i<l.length:=by omega
  rw[cW a,bc a];simp only[runN,mP,T.folds];exact Dj e l k (i+1) _ (by omega)
theorem Vo{σ:Type}(st:σ->ah)(e:T->σ->σ)(k:Nat)(caps:List AV)(m:Nat)(hm:∀s,(st s).length=m)(hcs:∀n,m<=n->AV.safe.safes n caps=true)(p:caps.map AV.clr=caps)(y:¬0∈XV.lin k)
 (f v:Int) (ks:List T) (I:ks.length<=1099511627776)
 (C:∀(x:T) (s:σ) (r:ah),al XV k (.d (x.enc .sub)::caps) (st s++r)=some (.d (.tup []),st (e x s)++r))
 (l:∀x,x∈ks->∀(s:σ) (r:ah),al XV 25 [.d (x.enc .sub),.fn k caps] (st s++r)=some (.d (.tup []),st (T.fold e x s)++r)) (s:σ) (r:ah):
 al XV 25 [.d ((T.node f v ks).enc .sub),.fn k caps] (st s++r)=some (.d (.tup []),st (T.fold e (.node f v ks) s)++r):=by
 rw[aJ 25 po rfl];have c:=C (.node f v ks) s (r++[some [aa f,aa v,.d (aj .sub ks)]]);have len:∀s,(st s++r).length=m+r.length:=fun s=>by simp[hm]
 have a:=cg (X:=XV) (T:=XV.lin 25) (L:=m+r.length+1) (live:=[1,10,11,12]) (b:=mO) (n:=ks.length) (γ:=Unit) (st:=fun(s:σ) i=>⟨[(1,.fn k caps),(10,.d (aj .sub ks)),(11,aa ks.length),(12,aa i)],(st s++r)++[some [aa f,aa v,.d (aj .sub ks)]]⟩) (step:=mP e ks)
  (F:=fun s=>(.exit 0,⟨[(1,.fn k caps),(10,.d (aj .sub ks)),(11,aa ks.length),(12,aa ks.length),(13,ar false)],(st s++r)++[some [aa f,aa v,.d (aj .sub ks)]]⟩)) (R:=fun _=>(.ret,⟨[],[]⟩))
  (fun s=>⟨by simp,by simp[mO]⟩)
  (fun s i hi=>by
   have hw:=bH (n:=i) (by omega);have q:=l _ (bS hi) s (r++[some [aa f,aa v,.d (aj .sub ks)],some [aa (ae ks i).f,aa (ae ks i).v,.d (aj .sub (ae ks i).kids)]]);have t:=len s;have g:=len (T.fold e (ae ks i) s);simp only[<-b7]at q;generalize H:st s++r=B at q t;generalize h:st (T.fold e (ae ks i) s)++r=B' at q g;unfold mP;refine⟨⟨[(1,.fn k caps),(10,.d (aj .sub ks)),(11,aa ks.length),(12,aa (i+1:Nat))],B'++[some [aa f,aa v,.d (aj .sub ks)],some [aa (ae ks i).f,aa (ae ks i).v,.d (aj .sub (ae ks i).kids)]]⟩,?_,?_⟩
   ·simp[mO,hi,hw,cut,bc hi,p,q,splice]
   ·refine gg (e:=[some [aa (ae ks i).f,aa (ae ks i).v,.d (aj .sub (ae ks i).kids)]]) (by simp) (by simp[aD,hcs _ (show m<=m+r.length+1 by omega)]) (by simp[g,h]) (by simp[<-h]))
  ks.length (e (.node f v ks) s) 0 ⟨[(1,.fn k caps),(10,.d (aj .sub ks)),(11,aa ks.length),(12,aa 0)],(st (e (.node f v ks) s)++r)++[some [aa f,aa v,.d (aj .sub ks)]]⟩ (by omega) (gg (e:=[]) (by simp) (by simp[aD,hcs _ (show m<=m+r.length+1 by omega)]) (by simp[hm];omega) (by simp))
 rw[Dj e ks _ _ _ (by omega)]at a;simp only[fE]at a;have u:=len s;have j:=len (e (.node f v ks) s);have w:(st (T.fold e (.node f v ks) s)++r).length=m+r.length:=len _;have o:T.folds e ks (e (.node f v ks) s)=T.fold e (.node f v ks) s:=by simp[T.fold]
 rw[o]at a;simp only[<-b7]at c;generalize G:st s++r=B0 at c u;generalize D:st (e (.node f v ks) s)++r=B1 at c j a;generalize z:st (T.fold e (.node f v ks) s)++r=B2 at w a;have hlen:B1.length=B0.length:=by omega
 rw[<-j]at a;simp only[aj,Lw]at c a;simp[po,c,p,y,hlen.symm];rw[a];simp[show B1.length=B2.length by omega]
theorem yz{σ:Type}(st:σ->ah)(e:T->σ->σ)(k:Nat)(caps:List AV)(m:Nat)(hm:∀s,(st s).length=m)(hcs:∀n,m<=n->AV.safe.safes n caps=true)(a:caps.map AV.clr=caps)(g:¬0∈XV.lin k)
 (c:∀(x:T) (s:σ) (r:ah),al XV k (.d (x.enc .sub)::caps) (st s++r)=some (.d (.tup []),st (e x s)++r)) (t:T) (b:t.inner<=1099511627776) (s:σ) (r:ah):
 al XV 25 [.d (t.enc .sub),.fn k caps] (st s++r)=some (.d (.tup []),st (T.fold e t s)++r):=by
 match t,b with
 | .node f v ks,b=>
  simp only[T.inner]at b;exact Vo st e k caps m hm hcs a g f v ks (by omega) c (fun x hx s r=>yz st e k caps m hm hcs a g c x (by have:=T.qaI hx;omega) s r) s r
termination_by t
decreasing_by
 simp_wf
 have:=gP hx;omega
theorem wrap_add(a b:Int):IntKind.i64.wrap (IntKind.i64.wrap a+b)=IntKind.i64.wrap (a+b):=by
 show(if(true&&decide (((if(true&&decide (a%18446744073709551616>=9223372036854775808))=true then a%18446744073709551616-18446744073709551616 else a%18446744073709551616)+b)%18446744073709551616>=9223372036854775808))=true then((if(true&&decide (a%18446744073709551616>=9223372036854775808))=true then a%18446744073709551616-18446744073709551616 else a%18446744073709551616)+b)%18446744073709551616-18446744073709551616 else((if(true&&decide (a%18446744073709551616>=9223372036854775808))=true then a%18446744073709551616-18446744073709551616 else a%18446744073709551616)+b)%18446744073709551616)=(if(true&&decide ((a+b)%18446744073709551616>=9223372036854775808))=true then(a+b)%18446744073709551616-18446744073709551616 else(a+b)%18446744073709551616);simp only[eP,ba];have:((if a%18446744073709551616>=9223372036854775808 then a%18446744073709551616-18446744073709551616 else a%18446744073709551616)+b)%18446744073709551616=(a+b)%18446744073709551616:=by
  split<;>omega
 rw[this]
theorem QA(a b:Int):IntKind.i64.wrap (a+IntKind.i64.wrap b)=IntKind.i64.wrap (a+b):=by
 rw[Int.add_comm,wrap_add,Int.add_comm]
mutual
def T.sum(w:T->Int):T->Int
 | .node f v ks=>w (.node f v ks)+T.sums w ks
def T.sums(w:T->Int):List T->Int
 | []=>0
 |t::r=>T.sum w t+T.sums w r
end
def pn(w:T->Int)(x:T)(n:Int):Int:=IntKind.i64.wrap (n+w x)
mutual
theorem JS(w:T->Int):∀(t:T) (n:Int),T.fold (pn w) t (IntKind.i64.wrap n)=IntKind.i64.wrap (n+T.sum w t)
 | .node f v ks,n=>by
  simp only[T.fold,T.sum,pn];rw[wrap_add,H7 w ks,qX]
theorem H7(w:T->Int):∀(l:List T) (n:Int),T.folds (pn w) l (IntKind.i64.wrap n)=IntKind.i64.wrap (n+T.sums w l)
 | [],n=>by simp[T.folds,T.sums]
 |t::r,n=>by
  simp only[T.folds,T.sums];rw[JS w t,H7 w r,qX]
end
def un(c:T->Int)(l:List T)(n:Int)(i:Nat):Int⊕Unit:= .inl (IntKind.i64.wrap (n+c (ae l i)))
theorem Co(w:T->Int)(l:List T):∀(k i:Nat) (n:Int),i+k=l.length->runN (un (fun t=>IntKind.i64.wrap (T.sum w t)) l) k (IntKind.i64.wrap n) i= .inl (IntKind.i64.wrap (n+T.sums w (l.drop i)))
 |0,i,n,h=>by
  have h1:l.drop i=[]:=kw (by omega);simp[runN,h1,T.sums]
 |k+1,i,n,h=>by
  have a:i<l.length:=by omega
  rw[cW a,bc a];simp only[runN,un,T.sums];rw[QA,wrap_add,Co w l k (i+1) _ (by omega),qX]
theorem VW(t:T)(c:t.inner<=1099511627776):al XV 23 [.d (t.enc .sub)] []=some (aa (IntKind.i64.wrap (T.sum (fun _=>1) t)),[]):=by
 rw[aJ 23 v23 rfl];have key:∀(n:Int),al XV 25 [.d (t.enc .sub),.fn 24 [.ptr 1 0]] ([some [aa t.f,aa t.v,.d (aj .sub t.kids)],some [aa n]]++[])=some (.d (.tup []),[some [aa t.f,aa t.v,.d (aj .sub t.kids)],some [aa (T.fold (pn fun _=>1) t n)]]++[]):=fun n=>
  yz (fun n:Int=>[some [aa t.f,aa t.v,.d (aj .sub t.kids)],some [aa n]]) (pn fun _=>1) 24 [.ptr 1 0] 2 (fun _=>rfl) (fun n hn=>by simp;omega) rfl (by simp) (fun x s r=>by
   rw[aJ 24 yA rfl];simp[yA,splice,pn]) t c n []
 have a:=key 0;have b:=JS (fun _=>1) t 0;rw[show IntKind.i64.wrap 0=0 from rfl,Int.zero_add]at b;rw[b]at a;simp only[dq,aj]at a;simp[v23,splice,a]
theorem VU(f v:Int)(ks:List T)(c:ks.length<=1099511627776)(a:∀s,s∈ks->al XV 22 [.d (s.enc .sub)] []=some (aa (IntKind.i64.wrap (T.sum (fun _=>1) s)),[])):
 al XV 22 [.d ((T.node f v ks).enc .sub)] []=some (aa (IntKind.i64.wrap (T.sum (fun _=>1) (.node f v ks))),[]):=by
 rw[aJ 22 v22 rfl];have h:=cg (X:=XV) (T:=[]) (L:=1) (live:=[1,3,4]) (b:=ya) (n:=ks.length) (γ:=Unit) (st:=fun(n:Int) i=>⟨[(1,.ptr 0 0),(3,aa n),(4,aa i)],[some [aa f,aa v,.d (aj .sub ks)]]⟩) (step:=un (fun t=>IntKind.i64.wrap (T.sum (fun _=>1) t)) ks)
  (F:=fun n=>(.exit 0,⟨[(1,.ptr 0 0),(3,aa n),(4,aa ks.length),(9,ar false)],[some [aa f,aa v,.d (aj .sub ks)]]⟩)) (R:=fun r=>(.ret,⟨[],[]⟩))
  (fun _=>⟨by simp,by simp[ya]⟩)
  (fun n i hi=>by
   have hw:=bH (n:=i) (by omega);have hc:=a _ (bS hi);exact⟨_,by simp[ya,hi,hw,cut,bc hi,hc];rfl,by simp[aE,aD]⟩)
  ks.length (IntKind.i64.wrap 1) 0 ⟨[(1,.ptr 0 0),(3,aa 1),(4,aa 0)],[some [aa f,aa v,.d (aj .sub ks)]]⟩ (by omega) (by simp[aE,aD,show IntKind.i64.wrap 1=1 from rfl])
 rw[Co _ _ _ _ _ (by omega)]at h;simp only[fE,aj]at h;have hs:T.sum (fun _=>1) (T.node f v ks)=1+T.sums (fun _=>1) ks:=by simp[T.sum]
 simp[v22,hs];rw[h];simp[E_]
theorem Gm(t:T)(a:t.inner<=1099511627776):al XV 22 [.d (t.enc .sub)] []=some (aa (IntKind.i64.wrap (T.sum (fun _=>1) t)),[]):=by
 match t,a with
 | .node f v ks,a=>
  simp only[T.inner]at a;exact VU f v ks (by omega) (fun s hs=>Gm s (by have:=T.qaI hs;omega))
termination_by t
decreasing_by
 simp_wf
 have:=gP hs;omega
mutual
theorem Fv(w:T->Int)(e:T->Int->Int)(he:∀x m,e x (IntKind.i64.wrap m)=IntKind.i64.wrap (m+w x)):∀(t:T) (n:Int),T.fold e t (IntKind.i64.wrap n)=IntKind.i64.wrap (n+T.sum w t)
 | .node f v ks,n=>by
  simp only[T.fold,T.sum];rw[he,KW w e he ks,qX]
theorem KW(w:T->Int)(e:T->Int->Int)(he:∀x m,e x (IntKind.i64.wrap m)=IntKind.i64.wrap (m+w x)):∀(l:List T) (n:Int),T.folds e l (IntKind.i64.wrap n)=IntKind.i64.wrap (n+T.sums w l)
 | [],n=>by simp[T.folds,T.sums]
 |t::r,n=>by
  simp only[T.folds,T.sums];rw[Fv w e he t,KW w e he r,qX]
end
theorem gH(t:T):al XV 75 [.d (t.enc .sub)] []=some (ar (t.f== -1),[]):=by
 rw[aJ 75 wF rfl];simp[wF]
def wC(n:Int)(x:T):Int:=if x.f= -1/\x.v=n then 1 else 0
def eC(n:Int)(x:T)(m:Int):Int:=if x.f= -1/\x.v=n then IntKind.i64.wrap (m+1)else m
theorem XE(n:Int)(x:T)(m:Int):eC n x (IntKind.i64.wrap m)=IntKind.i64.wrap (m+wC n x):=by
 unfold eC wC;split
 ·exact wrap_add m 1
 ·simp
theorem Xg(t:T)(i:t.inner<=1099511627776)(n:Int):al XV 73 [.d (t.enc .sub),aa n] []=some (aa (IntKind.i64.wrap (T.sum (wC n) t)),[]):=by
 rw[aJ 73 vN rfl];have key:∀(m:Int),al XV 25 [.d (t.enc .sub),.fn 74 [.ptr 1 0,.ptr 2 0]] ([some [aa t.f,aa t.v,.d (aj .sub t.kids)],some [aa n],some [aa m]]++[])=some (.d (.tup []),[some [aa t.f,aa t.v,.d (aj .sub t.kids)],some [aa n],some [aa (T.fold (eC n) t m)]]++[]):=fun m=>
  yz (fun m:Int=>[some [aa t.f,aa t.v,.d (aj .sub t.kids)],some [aa n],some [aa m]]) (eC n) 74 [.ptr 1 0,.ptr 2 0] 3 (fun _=>rfl) (fun n hn=>by simp;omega) rfl (by simp) (fun x m r=>by
   rw[aJ 74 oS rfl];obtain⟨e,g,l⟩:=x;have a:=gH (.node e g l);simp only[T.qaP]at a;unfold eC;simp only[T.qaP,T.qb7]
   by_cases h1:e= -1
   ·subst h1
    simp only[BEq.rfl]at a
    by_cases b:g=n
    ·subst b
     simp[oS,a,splice]
    ·have j:(g==n)=false:=by simp[b]
     simp[oS,a,b,j]
   ·have k:(e== -1)=false:=by simp[h1]
    rw[k]at a;simp[oS,a,h1]) t i m []
 have c:=key 0;have h:=Fv (wC n) (eC n) (XE n) t 0;rw[show IntKind.i64.wrap 0=0 from rfl,Int.zero_add]at h;rw[h]at c;simp only[dq,aj]at c;simp[vN,splice,c]
theorem JA(b:Bool):al XV 85 [ar b] []=some (aa (if b then 1 else 0),[]):=by
 rw[aJ 85 t8 rfl];cases b<;>simp[t8]
theorem qqe(n f v:Int)(ks:List T)(l:ks.length<=1099511627776)(a:∀s,s∈ks->al XV 81 [.d (s.enc .sub),aa n] []=some (aa (IntKind.i64.wrap (T.sum (wC n) s)),[])):
 al XV 81 [.d ((T.node f v ks).enc .sub),aa n] []=some (aa (IntKind.i64.wrap (T.sum (wC n) (.node f v ks))),[]):=by
 rw[aJ 81 ou rfl];have h:=fun m=>cg (X:=XV) (T:=[]) (L:=1) (live:=[1,2,5,6]) (b:=uy) (n:=ks.length) (γ:=Unit) (st:=fun(m:Int) i=>⟨[(1,aa n),(2,.ptr 0 0),(5,aa m),(6,aa i)],[some [aa f,aa v,.d (aj .sub ks)]]⟩) (step:=un (fun t=>IntKind.i64.wrap (T.sum (wC n) t)) ks)
  (F:=fun m=>(.exit 0,⟨[(1,aa n),(2,.ptr 0 0),(5,aa m),(6,aa ks.length),(21,ar false)],[some [aa f,aa v,.d (aj .sub ks)]]⟩)) (R:=fun r=>(.ret,⟨[],[]⟩))
  (fun _=>⟨by simp,by simp[uy]⟩)
  (fun m i hi=>by
   have hw:=bH (n:=i) (by omega);have hc:=a _ (bS hi);exact⟨_,by simp[uy,hi,hw,cut,bc hi,hc];rfl,by simp[aE,aD]⟩)
  ks.length (IntKind.i64.wrap m) 0 ⟨[(1,aa n),(2,.ptr 0 0),(5,aa (IntKind.i64.wrap m)),(6,aa 0)],[some [aa f,aa v,.d (aj .sub ks)]]⟩ (by omega) (by simp[aE,aD])
 have g:=fun m=>by
  have:=h m;rw[Co _ _ _ _ _ (by omega)]at this;simpa only[fE,aj]using this
 have hs:T.sum (wC n) (T.node f v ks)=wC n (.node f v ks)+T.sums (wC n) ks:=by simp[T.sum]
 have bt:=JA true;have c:=JA false;simp only[if_true,bI,if_false]at bt c;rw[hs];have h1:=g 1;have e:=g 0;rw[show IntKind.i64.wrap 1=1 from rfl]at h1;rw[show IntKind.i64.wrap 0=0 from rfl]at e
 by_cases c1:f= -1
 ·by_cases c2:v=n
  ·have hw:wC n (.node f v ks)=1:=by simp[wC,c1,c2]
   rw[hw];subst c1;subst c2
   simp[ou,bt];rw[h1];simp
  ·have hw:wC n (.node f v ks)=0:=by simp[wC,c1,c2]
   have j:(v==n)=false:=by simp[c2]
   rw[hw];subst c1;simp[ou,c,j];rw[e];simp
 ·have hw:wC n (.node f v ks)=0:=by simp[wC,c1]
  have k:(f== -1)=false:=by simp[c1]
  rw[hw];simp[ou,c,k];rw[e];simp
theorem HC(t:T)(a:t.inner<=1099511627776)(n:Int):al XV 81 [.d (t.enc .sub),aa n] []=some (aa (IntKind.i64.wrap (T.sum (wC n) t)),[]):=by
 match t,a with
 | .node f v ks,a=>
  simp only[T.inner]at a;exact qqe n f v ks (by omega) (fun s hs=>HC s (by have:=T.qaI hs;omega) n)
termination_by t
decreasing_by
 simp_wf
 have:=gP hs;omega
def cr(f v:Int)(ks:List T):ah:=[some [aa f,aa v,.d (aj .sub ks)]]
theorem OJ(a b:T)(ha:a.inner<=1099511627776)(hb:b.inner<=1099511627776):al XV 79 [.d (a.enc .sub),.d (b.enc .sub)] []=some (ar (decide (T.cmp a b<0)),[]):=by
 rw[aJ 79 uQ rfl];have h:=vL a b ha hb;simp[uQ,h]
theorem Qj(f v:Int)(ks:List T)(g v':Int)(a:List T)(w:ks.length<=1099511627776)(u:a.length<=1099511627776)
 (j:∀s s',s∈ks->s'∈a->al XV 3 [.d (s.enc .sub),.d (s'.enc .sub)] []=some (ar (T.cmp s s'==0),[]))
 (m:∀s s',s∈ks->s'∈a->al XV 84 [.d (s.enc .sub),.d (s'.enc .sub)] []=some (ar (decide (T.cmp s s'<0)),[])):
 al XV 84 [.d ((T.node f v ks).enc .sub),.d ((T.node g v' a).enc .sub)] []=some (ar (decide (T.cmp (.node f v ks) (.node g v' a)<0)),[]):=by
 rw[aJ 84 l5 rfl];rw[tU]
 by_cases c1:f=g
 case neg=>
  have t:(f !=g)=true:=by simp[c1]
  have e:decide (fa f g v v' ks.length a.length (T.cmps ks a)<0)=decide (f<g):=by
   unfold fa;by_cases h1:f<g
   ·simp[h1]
   ·have k:f>g:=by omega
    simp[h1,k]
  rw[e];simp[l5,t]
 subst c1
 by_cases c2:v=v'
 case neg=>
  have q:(v !=v')=true:=by simp[c2]
  have e:decide (fa f f v v' ks.length a.length (T.cmps ks a)<0)=decide (v<v'):=by
   unfold fa;by_cases h1:v<v'
   ·simp[h1]
   ·have k:v>v':=by omega
    simp[h1,k]
  rw[e];simp[l5,q]
 subst c2
 by_cases c3:ks.length=a.length
 case neg=>
  have b3:((ks.length:Int) !=a.length)=true:=by simp;omega
  have e:decide (fa f f v v ks.length a.length (T.cmps ks a)<0)=decide (ks.length<a.length):=by
   unfold fa;by_cases h1:ks.length<a.length
   ·simp[h1]
   ·have k:a.length<ks.length:=by omega
    simp[h1,k]
  rw[e];simp[l5,b3]
 have o:fa f f v v ks.length a.length (T.cmps ks a)=T.cmps ks a:=by simp[fa,c3]
 rw[o];have h:=cg (X:=XV) (T:=[]) (L:=2) (live:=[2,3,5]) (b:=qE) (n:=ks.length) (γ:=Int) (st:=fun(_:Unit) i=>⟨[(2,.ptr 0 0),(3,.ptr 1 0),(5,aa i)],cf f v ks f v a⟩) (step:=jN ks a)
  (F:=fun _=>(.exit 0,⟨[(2,.ptr 0 0),(3,.ptr 1 0),(5,aa ks.length),(44,ar false)],cf f v ks f v a⟩)) (R:=fun r=>(.ret,⟨[(4,ar (decide (r<0)))],cf f v ks f v a⟩))
  (fun _=>⟨by simp,by simp[qE,cf]⟩)
  (fun _ i hi=>by
   have hw:=bH (n:=i) (by omega);have c:i<a.length:=by omega
   have hs:=j _ _ (bS hi) (bS c);have hc:=m _ _ (bS hi) (bS c);unfold jN cf
   by_cases l:T.cmp (ae ks i) (ae a i)=0
   ·rw[l]at hs⊢
    simp only[eD,mA,if_false];refine⟨_,by simp[qE,Hu,hi,c,hw,cut,bc hi,bc c,hs];rfl,?_⟩;simp[aE,aD]
   ·simp only[eD,l,iN,if_true]
    have p:(T.cmp (ae ks i) (ae a i)==0)=false:=by simp[l]
    rw[p]at hs;refine⟨by simp,?_⟩;simp[qE,Hu,TA,hi,c,cut,bc hi,bc c,hs,hc])
  ks.length () 0 ⟨[(2,.ptr 0 0),(3,.ptr 1 0),(5,aa 0)],cf f v ks f v a⟩ (by omega) (by simp[aE,aD,cf])
 rw[qu ks a c3 _ _ (by omega)]at h;simp only[fE,cf,aj]at h;simp[l5,c3];rw[c3]at h;rw[h]
 by_cases l:T.cmps ks a=0<;>simp[l]
theorem AZ(a b:T)(ha:a.inner<=1099511627776)(hb:b.inner<=1099511627776):al XV 84 [.d (a.enc .sub),.d (b.enc .sub)] []=some (ar (decide (T.cmp a b<0)),[]):=by
 match a,b,ha,hb with
 | .node f v ks,.node g v' e,ha,hb=>
  simp only[T.inner]at ha hb;exact Qj f v ks g v' e (by omega) (by omega) (fun s s' hs c=>EC s s' (by have:=T.qaI hs;omega) (by have:=T.qaI c;omega)) (fun s s' hs c=>AZ s s' (by have:=T.qaI hs;omega) (by have:=T.qaI c;omega))
termination_by a
decreasing_by
 simp_wf
 have:=gP hs;omega
def fD(l:List SymL)(f v:Int)(n:Nat):Bool:=
 if dL l f=true then
  if v=0 then(if(aR l f.toNat).ac=true then decide ((n:Int)<2)else !decide ((n:Int)=(aR l f.toNat).arity))
  else true
 else true
def da(l:List SymL)(f:Int)(ks:List T)(i:Nat):Bool:=
 if(aR l f.toNat).ac=true then(if(ae ks i).f=f then true else if i=0 then false else decide (T.cmp (ae ks i) (ae ks (i-1))<0))else false
mutual
def T.form(l:List SymL):T->Bool
 | .node f v ks=>
  if f= -1 then cV v 0 99&&decide (ks.length=0)
  else if fD l f v ks.length=true then false
  else(aO (fun i=> !((T.forms l ks)[i]?).getD false||da l f ks i) ks.length 0).isNone
def T.forms(l:List SymL):List T->List Bool
 | []=>[]
 |t::r=>T.form l t::T.forms l r
end
theorem T.qsn(l:List SymL):∀ks:List T,T.forms l ks=ks.map (T.form l)
 | []=>by simp[T.forms]
 |t::r=>by simp[T.forms,T.qsn l r]
theorem T.qko(l:List SymL)(ks:List T)(i:Nat)(hi:i<ks.length):((T.forms l ks)[i]?).getD false=T.form l (ae ks i):=by
 rw[T.qsn];simp[Bp hi]
theorem Xk(l:List SymL)(hs:l.length<=1099511627776)(f v:Int)(ks:List T):aH XV (XV.lin 78) (.region true 0 [0,3,62] vw) ⟨[(0,.d (sg l)),(3,.ptr 0 0),(8,ar false)],cr f v ks⟩=some (.normal,⟨[(0,.d (sg l)),(3,.ptr 0 0),(62,ar (fD l f v ks.length))],cr f v ks⟩):=by
 have a:=Eo l hs f;unfold fD cr;cases c1:dL l f with
 |false=>rw[c1]at a;simp[sM,a]
 |true=>
  rw[c1]at a;obtain⟨g1,g2⟩:=kG c1
  by_cases c2:v=0
  ·cases c3:(aR l f.toNat).ac with
   |true=>simp[sM,a,c2,g1,g2,ca g2,cut,c3]
   |false=>
    by_cases c4:(ks.length:Int)=(aR l f.toNat).arity
    ·simp[sM,a,c2,g1,g2,ca g2,cut,c3,c4]
    ·have b4:((ks.length:Int) !=(aR l f.toNat).arity)=true:=by simp[c4]
     simp[sM,a,c2,g1,g2,ca g2,cut,c3,c4,b4]
  ·have b:(v !=0)=true:=by simp[c2]
   simp[sM,a,c2,b]
theorem Qg(l:List SymL)(hs:l.length<=1099511627776)(f v:Int)(ks:List T):aH XV (XV.lin 83) (.region true 0 [0,3,64] wc) ⟨[(0,.d (sg l)),(3,.ptr 0 0),(8,ar false)],cr f v ks⟩=some (.normal,⟨[(0,.d (sg l)),(3,.ptr 0 0),(64,ar (fD l f v ks.length))],cr f v ks⟩):=by
 have a:=mx f 0 (l.length-1);have hw:IntKind.i64.wrap ((l.length:Int)-1)=l.length-1:=wrap_i64 (by omega) (by omega);unfold fD cr;cases c1:dL l f with
 |false=>unfold dL at c1;rw[c1]at a;simp[sH,a,hw]
 |true=>
  obtain⟨g1,g2⟩:=kG c1;unfold dL at c1;rw[c1]at a
  by_cases c2:v=0
  ·cases c3:(aR l f.toNat).ac with
   |true=>simp[sH,a,hw,c2,g1,g2,ca g2,cut,c3]
   |false=>
    by_cases c4:(ks.length:Int)=(aR l f.toNat).arity
    ·simp[sH,a,hw,c2,g1,g2,ca g2,cut,c3,c4]
    ·have b4:((ks.length:Int) !=(aR l f.toNat).arity)=true:=by simp[c4]
     simp[sH,a,hw,c2,g1,g2,ca g2,cut,c3,c4,b4]
  ·have b:(v !=0)=true:=by simp[c2]
   simp[sH,a,hw,c2,b]
theorem Xh(l:List SymL)(hs:l.length<=1099511627776)(f v:Int)(ks:List T)(e:dL l f=true)(i:Nat)(hi:i<ks.length)(g:ks.length<=1099511627776)
 (c:∀s s',s∈ks->s'∈ks->al XV 79 [.d (s.enc .sub),.d (s'.enc .sub)] []=some (ar (decide (T.cmp s s'<0)),[]))
 (a:al XV 78 [.d (sg l),.d ((ae ks i).enc .sub)] []=some (ar (T.form l (ae ks i)),[])):
 aH XV (XV.lin 78) (.region true 0 [0,3,64,65,66,103] uA) ⟨[(0,.d (sg l)),(3,.ptr 0 0),(5,aa i),(6,.ptr 1 0),(64,.d (aj .sub ks)),(65,aa ks.length),(66,aa i)],cr f v ks++[some [aa (ae ks i).f,aa (ae ks i).v,.d (aj .sub (ae ks i).kids)]]⟩=
  some (.normal,⟨[(0,.d (sg l)),(3,.ptr 0 0),(64,.d (aj .sub ks)),(65,aa ks.length),(66,aa i),(103,ar (!T.form l (ae ks i)||da l f ks i))],cr f v ks++[some [aa (ae ks i).f,aa (ae ks i).v,.d (aj .sub (ae ks i).kids)]]⟩):=by
 obtain⟨g1,g2⟩:=kG e;unfold cr da;cases c1:T.form l (ae ks i)with
 |false=>rw[c1]at a;simp[qs,a]
 |true=>
  rw[c1]at a;cases c2:(aR l f.toNat).ac with
  |false=>simp[qs,a,g1,g2,ca g2,c2,cut]
  |true=>
   by_cases c3:(ae ks i).f=f
   ·have b3:((ae ks i).f==f)=true:=by simp[c3]
    simp[qs,a,g1,g2,ca g2,c2,b3,cut];simp[c3]
   ·have b3:((ae ks i).f==f)=false:=by simp[c3]
    by_cases c4:i=0
    ·subst c4;simp[qs,a,g1,g2,ca g2,c2,c3,b3,cut]
    ·obtain⟨j,rfl⟩:∃j,i=j+1:=⟨i-1,by omega⟩
     have hj:j<ks.length:=by omega
     have hb:=c _ _ (bS hi) (bS hj);have hw:IntKind.i64.wrap (j:Int)=j:=yh (by omega);have b:(0:Int)<((j+1:Nat):Int):=by omega
     simp only[mN,ov]at b;simp[qs,a,g1,g2,ca g2,c2,c3,b3,hw,b,hj,bc hj,cut,hb]
theorem XQ(l:List SymL)(hs:l.length<=1099511627776)(f v:Int)(ks:List T)(w:ks.length<=1099511627776)
 (r:∀s s',s∈ks->s'∈ks->al XV 79 [.d (s.enc .sub),.d (s'.enc .sub)] []=some (ar (decide (T.cmp s s'<0)),[]))
 (q:∀s,s∈ks->al XV 78 [.d (sg l),.d (s.enc .sub)] []=some (ar (T.form l s),[])):
 al XV 78 [.d (sg l),.d ((T.node f v ks).enc .sub)] []=some (ar (T.form l (.node f v ks)),[]):=by
 rw[aJ 78 lC rfl];have m:=gH (.node f v ks);have g:=nL v 0 99;simp only[T.qaP]at m
 by_cases c1:f= -1
 ·have c:T.form l (.node f v ks)=(cV v 0 99&&decide (ks.length=0)):=by simp[T.form,c1]
  rw[c];subst c1;simp only[BEq.rfl]at m;cases c2:cV v 0 99 with
  |false=>rw[c2]at g;simp[lC,m,g]
  |true=>
   rw[c2]at g
   by_cases c3:ks.length=0
   ·simp[lC,m,g,c3]
   ·have b3:((ks.length:Int)==0)=false:=by simp;exact fun h=>c3 (by simp[h])
    simp[lC,m,g,b3];exact fun h=>c3 (by simp[h])
 have y:(f== -1)=false:=by simp[c1]
 rw[y]at m;have hh:=Xk l hs f v ks;simp only[cr,aj,Ax]at hh;cases c2:fD l f v ks.length with
 |true=>
  have c:T.form l (.node f v ks)=false:=by simp[T.form,c1,c2]
  rw[c];rw[c2]at hh;simp[lC,m];rw[hh];simp
 |false=>
  have u:dL l f=true:=by
   unfold fD at c2
   by_cases h:dL l f=true
   ·exact h
   ·rw[ak h]at c2;simp at c2
  have c:T.form l (.node f v ks)=(aO (fun i=> !T.form l (ae ks i)||da l f ks i) ks.length 0).isNone:=by
   have e:aO (fun i=> !((T.forms l ks)[i]?).getD false||da l f ks i) ks.length 0=aO (fun i=> !T.form l (ae ks i)||da l f ks i) ks.length 0:=by
    have key:∀(k i:Nat),i+k=ks.length->aO (fun i=> !((T.forms l ks)[i]?).getD false||da l f ks i) k i=aO (fun i=> !T.form l (ae ks i)||da l f ks i) k i:=by
     intro k
     induction k with
     |zero=>intro i _;rfl
     |succ k x=>
      intro i h;simp only[aO];simp only[T.qko l ks i (by omega),x (i+1) (by omega)]
    exact key _ _ (by omega)
   rw[<-e];simp[T.form,c1,c2]
  rw[c];rw[c2]at hh;have h:=cg (X:=XV) (T:=XV.lin 78) (L:=1) (live:=[0,3,64,65,66]) (b:=qJ) (n:=ks.length) (γ:=Nat) (st:=fun(_:Unit) i=>⟨[(0,.d (sg l)),(3,.ptr 0 0),(64,.d (aj .sub ks)),(65,aa ks.length),(66,aa i)],cr f v ks⟩) (step:=b_ fun i=> !T.form l (ae ks i)||da l f ks i)
   (F:=fun _=>(.exit 0,⟨[(0,.d (sg l)),(3,.ptr 0 0),(64,.d (aj .sub ks)),(65,aa ks.length),(66,aa ks.length),(67,ar false)],cr f v ks⟩)) (R:=fun j=>(.ret,⟨[(4,ar false)],cr f v ks++[some [aa (ae ks j).f,aa (ae ks j).v,.d (aj .sub (ae ks j).kids)]]⟩))
   (fun a=>⟨by simp,by simp[qJ]⟩)
   (fun a i hi=>by
    have hw:=bH (n:=i) (by omega);have o:=Xh l hs f v ks u i hi w r (q _ (bS hi));unfold b_;simp only[cr,aj,cP,dj,Ax]at o
    by_cases p:(!T.form l (ae ks i)||da l f ks i)=true
    ·rw[ap p]
     rw[p]at o;refine⟨by simp,?_⟩;simp[qJ,hi,cut,bc hi,cr,splice];rw[o];simp
    ·rw[ak p]
     have t:(!T.form l (ae ks i)||da l f ks i)=false:=by simpa using p
     rw[t]at o;refine⟨⟨[(0,.d (sg l)),(3,.ptr 0 0),(64,.d (aj .sub ks)),(65,aa ks.length),(66,aa (i+1:Nat))],cr f v ks++[some [aa (ae ks i).f,aa (ae ks i).v,.d (aj .sub (ae ks i).kids)]]⟩,?_,by simp[aE,aD,cr]⟩;simp[qJ,hi,cut,bc hi,cr,splice];rw[o];simp[hw])
   ks.length () 0 ⟨[(0,.d (sg l)),(3,.ptr 0 0),(64,.d (aj .sub ks)),(65,aa ks.length),(66,aa 0)],cr f v ks⟩ (by omega) (by simp[aE,aD,cr])
  rw[ee]at h;simp only[cr,aj,cP,dj,Ax]at h;simp[lC,m];rw[hh];simp;rw[h];cases p:aO (fun i=> !T.form l (ae ks i)||da l f ks i) ks.length 0<;>simp[GY]
theorem JX(l:List SymL)(f v:Int)(ks:List T)(c1:f≠-1)(c2:fD l f v ks.length=false):T.form l (.node f v ks)=(aO (fun i=> !T.form l (ae ks i)||da l f ks i) ks.length 0).isNone:=by
 have e:aO (fun i=> !((T.forms l ks)[i]?).getD false||da l f ks i) ks.length 0=aO (fun i=> !T.form l (ae ks i)||da l f ks i) ks.length 0:=by
  have key:∀(k i:Nat),i+k=ks.length->aO (fun i=> !((T.forms l ks)[i]?).getD false||da l f ks i) k i=aO (fun i=> !T.form l (ae ks i)||da l f ks i) k i:=by
   intro k
   induction k with
   |zero=>intro i _;rfl
   |succ k a=>
    intro i h;simp only[aO];simp only[T.qko l ks i (by omega),a (i+1) (by omega)]
  exact key _ _ (by omega)
 rw[<-e];simp[T.form,c1,c2]
theorem GR(l:List SymL)(hs:l.length<=1099511627776)(t:T)(a:t.inner<=1099511627776):al XV 78 [.d (sg l),.d (t.enc .sub)] []=some (ar (T.form l t),[]):=by
 match t,a with
 | .node f v ks,a=>
  simp only[T.inner]at a;exact XQ l hs f v ks (by omega) (fun s s' h b=>OJ s s' (by have:=T.qaI h;omega) (by have:=T.qaI b;omega)) (fun s h=>GR l hs s (by have:=T.qaI h;omega))
termination_by t
decreasing_by
 simp_wf
 have:=gP h;omega
theorem N7(l:List SymL)(hs:l.length<=1099511627776)(f v:Int)(ks:List T)(k:dL l f=true)(i:Nat)(hi:i<ks.length)(m:ks.length<=1099511627776)
 (h:∀s s',s∈ks->s'∈ks->al XV 84 [.d (s.enc .sub),.d (s'.enc .sub)] []=some (ar (decide (T.cmp s s'<0)),[]))
 (a:al XV 83 [.d (sg l),.d ((ae ks i).enc .sub)] []=some (ar (T.form l (ae ks i)),[])):
 aH XV (XV.lin 83) (.region true 0 [0,3,5,116] yL) ⟨[(0,.d (sg l)),(3,.ptr 0 0),(5,aa i),(69,ar true)],cr f v ks⟩=
  some (.normal,⟨[(0,.d (sg l)),(3,.ptr 0 0),(5,aa i),(116,ar (!T.form l (ae ks i)||da l f ks i))],cr f v ks⟩):=by
 obtain⟨g1,g2⟩:=kG k;unfold cr da;cases c2:(aR l f.toNat).ac with
 |false=>
  cases c1:T.form l (ae ks i)with
  |false=>rw[c1]at a;simp[lw,a,g1,g2,ca g2,c2,cut,hi,bc hi]
  |true=>rw[c1]at a;simp[lw,a,g1,g2,ca g2,c2,cut,hi,bc hi]
 |true=>
  by_cases c3:(ae ks i).f=f
  ·have b3:((ae ks i).f==f)=true:=by simp[c3]
   simp[lw,g1,g2,ca g2,c2,b3,cut,hi,bc hi];simp[c3]
  ·have b3:((ae ks i).f==f)=false:=by simp[c3]
   by_cases c4:i=0
   ·subst c4
    cases c1:T.form l (ae ks 0)with
    |false=>rw[c1]at a;simp[lw,a,g1,g2,ca g2,c2,c3,b3,cut,hi,bc hi]
    |true=>rw[c1]at a;simp[lw,a,g1,g2,ca g2,c2,c3,b3,cut,hi,bc hi]
   ·obtain⟨j,rfl⟩:∃j,i=j+1:=⟨i-1,by omega⟩
    have hj:j<ks.length:=by omega
    have hb:=h _ _ (bS hi) (bS hj);have hw:IntKind.i64.wrap (j:Int)=j:=yh (by omega);have b:(0:Int)<((j+1:Nat):Int):=by omega
    have c:(((j+1:Nat):Int)).toNat=j+1:=by omega
    simp only[mN,ov]at b c;have e:(0:Int)<=(j:Int)+1:=by omega
    by_cases g:T.cmp (ae ks (j+1)) (ae ks j)<0
    ·simp only[g,decide_true]at hb
     simp[lw,g1,g2,ca g2,c2,c3,b3,hw,b,c,e,hj,hi,bc hj,bc hi,cut,hb,g]
    ·simp only[g,decide_false]at hb
     cases c1:T.form l (ae ks (j+1))with
     |false=>rw[c1]at a;simp[lw,a,g1,g2,ca g2,c2,c3,b3,hw,b,c,e,hj,hi,bc hj,bc hi,cut,hb,g]
     |true=>rw[c1]at a;simp[lw,a,g1,g2,ca g2,c2,c3,b3,hw,b,c,e,hj,hi,bc hj,bc hi,cut,hb,g]
theorem Xz(l:List SymL)(hs:l.length<=1099511627776)(f v:Int)(ks:List T)(t:ks.length<=1099511627776)
 (k:∀s s',s∈ks->s'∈ks->al XV 84 [.d (s.enc .sub),.d (s'.enc .sub)] []=some (ar (decide (T.cmp s s'<0)),[]))
 (o:∀s,s∈ks->al XV 83 [.d (sg l),.d (s.enc .sub)] []=some (ar (T.form l s),[])):
 al XV 83 [.d (sg l),.d ((T.node f v ks).enc .sub)] []=some (ar (T.form l (.node f v ks)),[]):=by
 rw[aJ 83 ly rfl];have e:=mx v 0 99
 by_cases c1:f= -1
 ·have c:T.form l (.node f v ks)=(cV v 0 99&&decide (ks.length=0)):=by simp[T.form,c1]
  rw[c];subst c1;cases c2:cV v 0 99 with
  |false=>rw[c2]at e;simp[ly,e]
  |true=>
   rw[c2]at e
   by_cases c3:ks.length=0
   ·simp[ly,e,c3]
   ·have b3:((ks.length:Int)==0)=false:=by simp;exact fun h=>c3 (by simp[h])
    simp[ly,e,b3];exact fun h=>c3 (by simp[h])
 have r:(f== -1)=false:=by simp[c1]
 have hh:=Qg l hs f v ks;simp only[cr,aj,D7]at hh;cases c2:fD l f v ks.length with
 |true=>
  have c:T.form l (.node f v ks)=false:=by simp[T.form,c1,c2]
  rw[c];rw[c2]at hh;simp[ly,r];rw[hh];simp
 |false=>
  have q:dL l f=true:=by
   unfold fD at c2
   by_cases h:dL l f=true
   ·exact h
   ·rw[ak h]at c2;simp at c2
  rw[JX l f v ks c1 c2];rw[c2]at hh;have h:=cg (X:=XV) (T:=XV.lin 83) (L:=1) (live:=[0,3,5]) (b:=sC) (n:=ks.length) (γ:=Nat) (st:=fun(_:Unit) i=>⟨[(0,.d (sg l)),(3,.ptr 0 0),(5,aa i)],cr f v ks⟩) (step:=b_ fun i=> !T.form l (ae ks i)||da l f ks i)
   (F:=fun _=>(.exit 0,⟨[(0,.d (sg l)),(3,.ptr 0 0),(5,aa ks.length),(69,ar false)],cr f v ks⟩)) (R:=fun j=>(.ret,⟨[(4,ar false)],cr f v ks⟩))
   (fun a=>⟨by simp,by simp[sC,cr]⟩)
   (fun a i hi=>by
    have hw:=bH (n:=i) (by omega);have g:=N7 l hs f v ks q i hi t k (o _ (bS hi));unfold b_;simp only[cr,aj,D7]at g
    by_cases m:(!T.form l (ae ks i)||da l f ks i)=true
    ·rw[ap m]
     rw[m]at g;refine⟨by simp,?_⟩;simp[sC,hi,cr];rw[g];simp
    ·rw[ak m]
     have p:(!T.form l (ae ks i)||da l f ks i)=false:=by simpa using m
     rw[p]at g;refine⟨⟨[(0,.d (sg l)),(3,.ptr 0 0),(5,aa (i+1:Nat))],cr f v ks⟩,?_,by simp[aE,aD,cr]⟩;simp[sC,hi,cr];rw[g];simp[hw])
   ks.length () 0 ⟨[(0,.d (sg l)),(3,.ptr 0 0),(5,aa 0)],cr f v ks⟩ (by omega) (by simp[aE,aD,cr])
  rw[ee]at h;simp only[cr,aj,D7]at h;simp[ly,r];rw[hh];simp;rw[h];cases m:aO (fun i=> !T.form l (ae ks i)||da l f ks i) ks.length 0<;>simp[KC]
theorem Ly(l:List SymL)(hs:l.length<=1099511627776)(t:T)(a:t.inner<=1099511627776):al XV 83 [.d (sg l),.d (t.enc .sub)] []=some (ar (T.form l t),[]):=by
 match t,a with
 | .node f v ks,a=>
  simp only[T.inner]at a;exact Xz l hs f v ks (by omega) (fun s s' h b=>AZ s s' (by have:=T.qaI h;omega) (by have:=T.qaI b;omega)) (fun s h=>Ly l hs s (by have:=T.qaI h;omega))
termination_by t
decreasing_by
 simp_wf
 have:=gP h;omega
mutual
theorem Jk:∀t:T,T.sum (fun _=>1) t=t.inner+1
 | .node f v ks=>by simp only[T.sum,T.inner];rw[HD ks];push_cast;omega
theorem HD:∀l:List T,T.sums (fun _=>1) l=T.inners l+l.length
 | []=>by simp[T.sums,T.inners]
 |t::r=>by simp only[T.sums,T.inners,cB];rw[Jk t,HD r];push_cast;omega
end
theorem JM(t:T)(a:t.inner<=1099511627776):IntKind.i64.wrap (T.sum (fun _=>1) t)=(t.inner+1:Nat):=by
 rw[Jk];exact yh (n:=t.inner+1) (by omega)
def dA(l:List SymL)(t:T):Bool:=mK l&&(decide (t.inner+1<=60)&&T.form l t)
theorem wD(l:List SymL)(hs:l.length<=1099511627776)(hn:∀i,i<l.length->(aR l i).name.size<=1099511627776)(t:T)(b:t.inner<=1099511627776):al XV 70 [.d (sg l),.d (t.enc .sub)] []=some (ar (dA l t),[]):=by
 rw[aJ 70 o_ rfl];have h1:=TM l hs hn;have c:=VW t b;rw[JM t b]at c;have e:=GR l hs t b;unfold dA;cases c1:mK l with
 |false=>rw[c1]at h1;simp[o_,h1]
 |true=>
  rw[c1]at h1
  by_cases c2:t.inner+1<=60
  ·have a:(((t.inner+1:Nat):Int))<=60:=by omega
   simp only[mN,ov]at a;simp[o_,h1,c,e,c2,a]
  ·have a:¬(((t.inner+1:Nat):Int))<=60:=by omega
   simp only[mN,ov]at a;simp[o_,h1,c,c2,a]
theorem IP(l:List SymL)(hs:l.length<=1099511627776)(hn:∀i,i<l.length->(aR l i).name.size<=1099511627776)(t:T)(b:t.inner<=1099511627776):al XV 80 [.d (sg l),.d (t.enc .sub)] []=some (ar (dA l t),[]):=by
 rw[aJ 80 ny rfl];have h1:=Zg l hs hn;have c:=Gm t b;rw[JM t b]at c;have e:=Ly l hs t b;unfold dA;cases c1:mK l with
 |false=>rw[c1]at h1;simp[ny,h1]
 |true=>
  rw[c1]at h1
  by_cases c2:t.inner+1<=60
  ·have a:(((t.inner+1:Nat):Int))<=60:=by omega
   simp only[mN,ov]at a;simp[ny,h1,c,e,c2,a]
  ·have a:¬(((t.inner+1:Nat):Int))<=60:=by omega
   simp only[mN,ov]at a;simp[ny,h1,c,c2,a]
structure Bd where
 v:Int
 t:T
def Bd.enc(g:Tag)(b:Bd):DV:= .agg [.int .i64 b.v,.int .i64 b.t.f,.int .i64 b.t.v,aj g b.t.kids]
def Bd.ok(b:Bd):Prop:=(-9223372036854775808<=b.v/\b.v<=9223372036854775807)/\b.t.ok
abbrev binds(g:Tag)(l:List Bd):DV:= .sl g (l.map (Bd.enc g))
@[simp] theorem Bd.qgb(g:Tag)(x:Bd):(x.enc g).cells=[.int .i64 x.v,.int .i64 x.t.f,.int .i64 x.t.v,aj g x.t.kids]:=rfl
@[simp] theorem Bd.qjf(g:Tag)(x:Bd):(AV.d (x.enc g)).cells=[aa x.v,aa x.t.f,aa x.t.v,.d (aj g x.t.kids)]:=rfl
@[simp] theorem Bd.qje(g:Tag)(x:Bd):(x.enc g).isCell=false:=rfl
@[simp] theorem Bd.qTX(g:Tag)(x:Bd):isAgg (x.enc g)=true:=rfl
@[simp] theorem Bd.qfr(g:Tag)(x:Bd):(x.enc g).clr=x.enc .sub:=by
 simp only[Bd.enc,DV.clr,DV.clrs,aj,DV.qax,j1]
@[simp high] theorem Bd.qfq(g:Tag)(l:List Bd):(l.map (Bd.enc g)).map DV.clr=l.map (Bd.enc .sub):=by simp[eN,kD]
@[simp] theorem Bd.agg_enc(g:Tag)(x:Bd):DV.agg [.int .i64 x.v,.int .i64 x.t.f,.int .i64 x.t.v,aj g x.t.kids]=x.enc g:=rfl
def az(l:List Bd)(i:Nat):Bd:=(l[i]?).getD ⟨0,.node 0 0 []⟩
theorem bK{l:List Bd}{i:Nat}(h:i<l.length):l[i]=az l i:=by simp[az,h]
theorem pm{l:List Bd}{i:Nat}(h:i<l.length):az l i∈l:=by rw[<-bK h];exact il h
def cnt(t:T)(v:Int):Int:=IntKind.i64.wrap (T.sum (wC v) t)
def iy(v:Int)(b:Bd):Bool:=decide (0<cnt b.t v)
def fK(l:List SymL)(s:List Bd)(i:Nat):Bool:=(!cV (az s i).v 0 99||(decide (0<i)&&decide ((az s i).v<=(az s (i-1)).v)))|| !dA l (az s i).t
def oR(s:List Bd)(i:Nat):Bool:=(aO (fun j=>iy (az s i).v (az s j)) s.length 0).isSome
def fS(l:List SymL)(s:List Bd)(i:Nat):Bool:=fK l s i||oR s i
def jB(l:List SymL)(s:List Bd):Bool:=(aO (fS l s) s.length 0).isNone
theorem gJ{q:Nat->Bool}{i:Nat}(h:q i=true):b_ q () i= .inr i:=by unfold b_;rw[ap h]
theorem rE{q:Nat->Bool}{i:Nat}(h:q i=false):b_ q () i= .inl ():=by unfold b_;rw[ak (by simp[h])]
theorem W3(l:List SymL)(s:List Bd)(a:s.length<=1099511627776)(hb:∀i,i<s.length->(az s i).t.inner<=1099511627776)(i:Nat)(hi:i<s.length):
 bV XV [] 0 [0,1,5,6] oL ⟨[(0,.d (sg l)),(1,.d (binds .sub s)),(5,aa i),(6,aa 0)],[]⟩=
  some (if oR s i then(.ret,⟨[(4,ar false)],[]⟩)else(.exit 2,⟨[(0,.d (sg l)),(1,.d (binds .sub s)),(5,aa i),(6,aa s.length),(51,ar false)],[]⟩)):=by
 have h:=cg (X:=XV) (T:=[]) (L:=0) (live:=[0,1,5,6]) (b:=oL) (n:=s.length) (γ:=Nat) (st:=fun(_:Unit) j=>⟨[(0,.d (sg l)),(1,.d (binds .sub s)),(5,aa i),(6,aa j)],[]⟩) (step:=b_ fun j=>iy (az s i).v (az s j))
  (F:=fun _=>(.exit 2,⟨[(0,.d (sg l)),(1,.d (binds .sub s)),(5,aa i),(6,aa s.length),(51,ar false)],[]⟩)) (R:=fun _=>(.ret,⟨[(4,ar false)],[]⟩))
  (fun _=>⟨by simp,by simp[oL]⟩)
  (fun _ j hj=>by
   have hw:=bH (n:=j) (by omega);have hc:=HC (az s j).t (hb j hj) (az s i).v
   change _=some (AV.d (.int .i64 (cnt (az s j).t (az s i).v)),[])at hc
   by_cases hm:0<cnt (az s j).t (az s i).v
   ·rw[gJ (q:=fun j=>iy (az s i).v (az s j)) (i:=j) (by simp[iy,hm])]
    exact⟨by simp,by simp[oL,HE,hi,hj,cut,bK hi,bK hj,hc,hm]⟩
   ·rw[rE (q:=fun j=>iy (az s i).v (az s j)) (i:=j) (by simp[iy,hm])]
    exact⟨_,by simp[oL,HE,hi,hj,hw,cut,bK hi,bK hj,hc,hm];rfl,by simp[aE,aD]⟩)
  s.length () 0 ⟨[(0,.d (sg l)),(1,.d (binds .sub s)),(5,aa i),(6,aa 0)],[]⟩ (by omega) (by simp[aE,aD])
 rw[ee]at h;rw[h];unfold oR;cases hq:aO (fun j=>iy (az s i).v (az s j)) s.length 0<;>simp
theorem Ya(l:List SymL)(s:List Bd)(hs:l.length<=1099511627776)(hn:∀i,i<l.length->(aR l i).name.size<=1099511627776)(k:s.length<=1099511627776)(hb:∀i,i<s.length->(az s i).t.inner<=1099511627776):
 al XV 67 [.d (sg l),.d (binds .sub s)] []=some (ar (jB l s),[]):=by
 rw[aJ 67 vR rfl];have h:=cg (X:=XV) (T:=[]) (L:=0) (live:=[0,1,5]) (b:=iw) (n:=s.length) (γ:=Nat) (st:=fun(_:Unit) i=>⟨[(0,.d (sg l)),(1,.d (binds .sub s)),(5,aa i)],[]⟩) (step:=b_ (fS l s))
  (F:=fun _=>(.exit 0,⟨[(0,.d (sg l)),(1,.d (binds .sub s)),(5,aa s.length),(10,ar false)],[]⟩)) (R:=fun _=>(.ret,⟨[(4,ar false)],[]⟩))
  (fun _=>⟨by simp,by simp[iw]⟩)
  (fun _ i hi=>by
   have hw:=bH (n:=i) (by omega);have e:=mx (az s i).v 0 99;have c:=IP l hs hn (az s i).t (hb i hi);have a:=W3 l s k hb i hi;cases c1:cV (az s i).v 0 99 with
   |false=>
    rw[c1]at e;rw[gJ (by simp[fS,fK,c1])];exact⟨by simp,by simp[iw,lz,hi,cut,bK hi,e]⟩
   |true=>
    rw[c1]at e
    by_cases c0:0<i
    ·have g:IntKind.i64.wrap ((i:Int)-1)=((i-1:Nat):Int):=by rw[wrap_i64 (by omega) (by omega)];omega
     have j:i-1<s.length:=by omega
     have m:(i:Int)>0:=by omega
     by_cases c2:(az s i).v<=(az s (i-1)).v
     ·rw[gJ (by simp[fS,fK,c1,c0,c2])]
      exact⟨by simp,by simp[iw,lz,hi,cut,bK hi,e,c0,g,j,bK j,c2]⟩
     ·cases c3:dA l (az s i).t with
      |false=>
       rw[c3]at c;rw[gJ (by simp[fS,fK,c3])];exact⟨by simp,by simp[iw,lz,hi,cut,bK hi,e,c0,g,j,bK j,c2,c]⟩
      |true=>
       rw[c3]at c;cases c4:oR s i with
       |true=>
        rw[c4]at a;rw[gJ (by simp[fS,c4])];exact⟨by simp,by simp[iw,lz,hi,cut,bK hi,e,c0,g,j,bK j,c2,c,a]⟩
       |false=>
        rw[c4]at a;rw[rE (by simp[fS,fK,c1,c2,c3,c4])];refine⟨_,by simp[iw,lz,hi,hw,cut,bK hi,e,c0,g,j,bK j,c2,c,a];rfl,by simp[aE,aD]⟩
    ·cases c3:dA l (az s i).t with
     |false=>
      rw[c3]at c;rw[gJ (by simp[fS,fK,c3])];exact⟨by simp,by simp[iw,lz,hi,cut,bK hi,e,c0,c]⟩
     |true=>
      rw[c3]at c;cases c4:oR s i with
      |true=>
       rw[c4]at a;rw[gJ (by simp[fS,c4])];exact⟨by simp,by simp[iw,lz,hi,cut,bK hi,e,c0,c,a]⟩
      |false=>
       rw[c4]at a;rw[rE (by simp[fS,fK,c0,c1,c3,c4])];refine⟨_,by simp[iw,lz,hi,hw,cut,bK hi,e,c0,c,a];rfl,by simp[aE,aD]⟩)
  s.length () 0 ⟨[(0,.d (sg l)),(1,.d (binds .sub s)),(5,aa 0)],[]⟩ (by omega) (by simp[aE,aD])
 rw[ee]at h;simp[vR];rw[h];unfold jB;cases hq:aO (fS l s) s.length 0<;>simp
def oP(b:Bd):List AV:=[aa b.v,aa b.t.f,aa b.t.v,.d (aj .sub b.t.kids)]
theorem Xj(b c:Bd)(hb:b.t.inner<=1099511627776):al XV 71 [.d (c.enc .sub),.ptr 0 0] [some (oP b)]=some (ar (iy c.v b),[some (oP b)]):=by
 rw[aJ 71 sS rfl];have hc:=Xg b.t hb c.v
 change _=some (AV.d (.int .i64 (cnt b.t c.v)),[])at hc
 simp[sS,hc,iy,oP]
theorem Ro(l:List Bd)(c:Nat)(caps:List AV)(B:ah)(P:Bd->Bool)(p:l.length<=1099511627776)(hs:AV.safe.safes B.length caps=true)(g:caps.map AV.clr=caps)(m:¬0∈XV.lin c)
 (o:∀s,s∈l->al XV c (.d (s.enc .sub)::caps) B=some (ar (P s),B)):
 al XV 76 [.d (binds .sub l),.fn c caps] B=some (aa (cZ (aO (fun i=>P (az l i)) l.length 0)),B):=by
 rw[aJ 76 sU rfl];have h:=cg (X:=XV) (T:=XV.lin 76) (L:=B.length) (live:=[0,1,7,8]) (b:=p7) (n:=l.length) (st:=fun(_:Unit) i=>⟨[(0,.d (binds .sub l)),(1,.fn c caps),(7,aa l.length),(8,aa i)],B⟩) (step:=b_ fun i=>P (az l i))
  (F:=fun _=>(.exit 0,⟨[(0,.d (binds .sub l)),(1,.fn c caps),(7,aa l.length),(8,aa l.length),(9,ar false)],B⟩)) (R:=fun(j:Nat)=>(.ret,⟨[(4,aa j)],B⟩))
  (fun a=>⟨by simp,by simp[p7]⟩)
  (fun a i hi=>by
   have hw:=bH (n:=i) (by omega);have hc:=o _ (pm hi);unfold b_
   by_cases e:P (az l i)=true
   ·rw[ap e];rw[e]at hc
    exact⟨by simp,by simp[p7,hi,cut,bK hi,hc,g,m]⟩
   ·rw[ak e]
    have k:P (az l i)=false:=by simpa using e
    rw[k]at hc;exact⟨_,by simp[p7,hi,hw,cut,bK hi,hc,g,m];rfl,by simp[aE,aD,hs]⟩)
  l.length () 0 ⟨[(0,.d (binds .sub l)),(1,.fn c caps),(7,aa l.length),(8,aa 0)],B⟩ (by omega) (by simp[aE,aD,hs])
 rw[ee]at h;simp only[Zz]at h;simp[sU];rw[h];cases e:aO (fun i=>P (az l i)) l.length 0<;>simp[cZ]
theorem RD(l:List Bd)(b:Nat)(caps:List AV)(B:ah)(P:Bd->Bool)(c:l.length<=1099511627776)(hs:AV.safe.safes B.length caps=true)(a:caps.map AV.clr=caps)(g:¬0∈XV.lin b)
 (e:∀s,s∈l->al XV b (.d (s.enc .sub)::caps) B=some (ar (P s),B)):
 al XV 72 [.d (binds .sub l),.fn b caps] B=some (ar (aO (fun i=>P (az l i)) l.length 0).isSome,B):=by
 rw[aJ 72 rh rfl];have h:=Ro l b caps B P c hs a g e;cases hq:aO (fun i=>P (az l i)) l.length 0 with
 |none=>rw[hq]at h;simp[rh,h,cZ,a]
 |some j=>rw[hq]at h;simp[rh,h,cZ,a]
theorem Lr(q:Nat->Bool):∀(k i:Nat),aO q k i=none↔∀j,i<=j->j<i+k->q j=false
 |0,i=>by simp[aO];intro j h a;omega
 |k+1,i=>by
  simp only[aO]
  by_cases h:q i=true
  ·simp only[h,if_true]
   constructor
   ·intro a;cases a
   ·intro a;have:=a i (aU _) (by omega);rw[h]at this;cases this
  ·have a:q i=false:=by simpa using h
   simp only[a];rw[ak (by simp),Lr q k (i+1)];constructor
   ·intro hj j h1 b
    rcases D8 h1 with rfl|c
    ·exact a
    ·exact hj j c (by omega)
   ·intro hj j h1 b;exact hj j (by omega) (by omega)
def pq(s:List Bd)(i:Nat):Bool:=(aO (fun j=>iy (az s j).v (az s i)) s.length 0).isSome
def fW(l:List SymL)(s:List Bd)(i:Nat):Bool:=fK l s i||pq s i
theorem Ep{q:Nat->Bool}{n:Nat}:(aO q n 0).isSome=false↔∀j,j<n->q j=false:=by
 have h:=Lr q n 0;cases hq:aO q n 0 with
 |none=>simp only[Option.isSome_none,true_iff];intro j hj;exact h.1 hq j (cE _) (by omega)
 |some k=>
  simp only[Option.isSome_some];constructor
  ·intro a;cases a
  ·intro a
   have:=h.2 (fun j _ hj=>a j (by omega));rw[hq]at this;cases this
theorem qL8(l:List SymL)(s:List Bd):jB l s=(aO (fW l s) s.length 0).isNone:=by
 have key:(aO (fS l s) s.length 0).isSome=false↔(aO (fW l s) s.length 0).isSome=false:=by
  rw[Ep,Ep];simp only[fS,fW,oR,pq,iR,Ep];constructor
  ·intro h i hi;exact⟨(h i hi).1,fun j hj=>(h j hj).2 i hi⟩
  ·intro h i hi;exact⟨(h i hi).1,fun j hj=>(h j hj).2 i hi⟩
 unfold jB;cases h1:aO (fS l s) s.length 0<;>cases h2:aO (fW l s) s.length 0<;>simp[h1,h2]at key⊢
theorem Tx(l:List SymL)(s:List Bd)(hs:l.length<=1099511627776)(hn:∀i,i<l.length->(aR l i).name.size<=1099511627776)(m:s.length<=1099511627776)(hb:∀i,i<s.length->(az s i).t.inner<=1099511627776):
 al XV 68 [.d (sg l),.d (binds .sub s)] []=some (ar (jB l s),[]):=by
 rw[aJ 68 tD rfl,qL8];have h:=cg (X:=XV) (T:=XV.lin 68) (L:=0) (live:=[0,1,7,8,9]) (b:=iF) (n:=s.length) (γ:=Nat) (st:=fun(_:Unit) i=>⟨[(0,.d (sg l)),(1,.d (binds .sub s)),(7,.d (binds .sub s)),(8,aa s.length),(9,aa i)],[]⟩) (step:=b_ (fW l s))
  (F:=fun _=>(.exit 0,⟨[(0,.d (sg l)),(1,.d (binds .sub s)),(7,.d (binds .sub s)),(8,aa s.length),(9,aa s.length),(10,ar false)],[]⟩)) (R:=fun i=>(.ret,⟨[(4,ar false)],[some (oP (az s i))]⟩))
  (fun _=>⟨by simp,by simp[iF]⟩)
  (fun _ i hi=>by
   have hw:=bH (n:=i) (by omega);have g:=nL (az s i).v 0 99;have e:=wD l hs hn (az s i).t (hb i hi);have a:=RD s 71 [.ptr 0 0] [some (oP (az s i))] (fun c=>iy c.v (az s i)) m (by simp) (by simp) (by simp) (fun c _=>Xj (az s i) c (hb i hi))
   change _=some (AV.d (.bool (pq s i)),_)at a
   unfold oP at a⊢
   cases c1:cV (az s i).v 0 99 with
   |false=>
    rw[c1]at g;rw[gJ (by simp[fW,fK,c1])];exact⟨by simp,by simp[iF,kH,splice,aG,hi,cut,bK hi,g]⟩
   |true=>
    rw[c1]at g
    by_cases c0:0<i
    ·have j:IntKind.i64.wrap ((i:Int)-1)=((i-1:Nat):Int):=by rw[wrap_i64 (by omega) (by omega)];omega
     have k:i-1<s.length:=by omega
     have o:(i:Int)>0:=by omega
     by_cases c2:(az s i).v<=(az s (i-1)).v
     ·rw[gJ (by simp[fW,fK,c1,c0,c2])]
      exact⟨by simp,by simp[iF,kH,splice,aG,hi,cut,bK hi,g,c0,j,k,bK k,c2]⟩
     ·cases c3:dA l (az s i).t with
      |false=>
       rw[c3]at e;rw[gJ (by simp[fW,fK,c3])];exact⟨by simp,by simp[iF,kH,splice,aG,hi,cut,bK hi,g,c0,j,k,bK k,c2,e]⟩
      |true=>
       rw[c3]at e;cases c4:pq s i with
       |true=>
        rw[c4]at a;rw[gJ (by simp[fW,c4])];exact⟨by simp,by simp[iF,kH,splice,aG,hi,cut,bK hi,g,c0,j,k,bK k,c2,e,a]⟩
       |false=>
        rw[c4]at a;rw[rE (by simp[fW,fK,c1,c2,c3,c4])];refine⟨_,by simp[iF,kH,splice,aG,hi,hw,cut,bK hi,g,c0,j,k,bK k,c2,e,a];rfl,by simp[aE,aD]⟩
    ·cases c3:dA l (az s i).t with
     |false=>
      rw[c3]at e;rw[gJ (by simp[fW,fK,c3])];exact⟨by simp,by simp[iF,kH,splice,aG,hi,cut,bK hi,g,c0,e]⟩
     |true=>
      rw[c3]at e;cases c4:pq s i with
      |true=>
       rw[c4]at a;rw[gJ (by simp[fW,c4])];exact⟨by simp,by simp[iF,kH,splice,aG,hi,cut,bK hi,g,c0,e,a]⟩
      |false=>
       rw[c4]at a;rw[rE (by simp[fW,fK,c0,c1,c3,c4])];refine⟨_,by simp[iF,kH,splice,aG,hi,hw,cut,bK hi,g,c0,e,a];rfl,by simp[aE,aD]⟩)
  s.length () 0 ⟨[(0,.d (sg l)),(1,.d (binds .sub s)),(7,.d (binds .sub s)),(8,aa s.length),(9,aa 0)],[]⟩ (by omega) (by simp[aE,aD])
 rw[ee]at h;simp only[QW]at h;simp[tD];rw[h];cases hq:aO (fW l s) s.length 0<;>simp
mutual
theorem pZ:∀a b:T,T.cmp a b= -(T.cmp b a)
 | .node f v ks,.node d v' c=>by
  have h:=F8 ks c;simp only[T.cmp]
  repeat' split
  all_goals first|omega|exact h
theorem F8:∀a b:List T,T.cmps a b= -(T.cmps b a)
 | [],[]=>rfl
 | [],_::_=>rfl
 |_::_,[]=>rfl
 |x::xs,y::ys=>by
  have h1:=pZ x y;have c:=F8 xs ys;simp only[T.cmps]
  repeat' split
  all_goals omega
end
mutual
theorem j7:∀a b:T,T.cmp a b=0->a=b
 | .node f v ks,.node d v' c,h=>by
  simp only[T.cmp]at h
  repeat' split at h
  all_goals first|omega|skip
  have h1:=J3 ks c (by omega) h;have e:f=d:=by omega
  have g:v=v':=by omega
  rw[h1,e,g]
theorem J3:∀a b:List T,a.length=b.length->T.cmps a b=0->a=b
 | [],[],_,_=>rfl
 | [],_::_,h,_=>by simp at h
 |_::_,[],h,_=>by simp at h
 |x::xs,y::ys,c,h=>by
  simp only[T.cmps]at h;split at h
  ·omega
  ·rename_i d
   rw[j7 x y (by omega),J3 xs ys (by simpa using c) h]
end
mutual
theorem Fg:∀a b c:T,T.cmp a b<0->T.cmp b c<0->T.cmp a c<0
 | .node f v ks,.node k v' g,.node f2 i e,h1,d=>by
  simp only[T.cmp]at h1 d⊢
  by_cases t:f<k
  ·have:k<=f2:=by
    apply Classical.byContradiction;intro h
    rw[ak (by omega),ap (by omega)]at d;omega
   rw[ap (by omega)];omega
  ·have m:f=k:=by
    apply Classical.byContradiction;intro h
    rw[ak t,ap (by omega)]at h1;omega
   subst m
   by_cases p:f<f2
   ·rw[ap p];omega
   ·have l:f=f2:=by
     apply Classical.byContradiction;intro h
     rw[ak p,ap (by omega)]at d;omega
    subst l;simp only[Int.lt_irrefl,gt_iff_lt,if_false]at h1 d⊢
    by_cases e3:v<v'
    ·have:v'<=i:=by
      apply Classical.byContradiction;intro h
      rw[ak (by omega),ap (by omega)]at d;omega
     rw[ap (by omega)];omega
    ·have ky:v=v':=by
      apply Classical.byContradiction;intro h
      rw[ak e3,ap (by omega)]at h1;omega
     subst ky
     by_cases o:v<i
     ·rw[ap o];omega
     ·have j:v=i:=by
       apply Classical.byContradiction;intro h
       rw[ak o,ap (by omega)]at d;omega
      subst j;simp only[Int.lt_irrefl,gt_iff_lt,if_false]at h1 d⊢
      by_cases q:ks.length<g.length
      ·have:g.length<=e.length:=by
        apply Classical.byContradiction;intro h
        rw[ak (by omega),ap (by omega)]at d;omega
       rw[ap (by omega)];omega
      ·have n:ks.length=g.length:=by
        apply Classical.byContradiction;intro h
        rw[ak q,ap (by omega)]at h1;omega
       by_cases s:ks.length<e.length
       ·rw[ap s];omega
       ·have r:ks.length=e.length:=by
         apply Classical.byContradiction;intro h
         rw[ak (by omega),ap (by omega)]at d;omega
        rw[ak (by omega),ak (by omega)]at h1 d⊢
        exact JU ks g e n (by omega) h1 d
theorem JU:∀a b c:List T,a.length=b.length->b.length=c.length->T.cmps a b<0->T.cmps b c<0->T.cmps a c<0
 | [],[],_,_,_,h,_=>by simp[T.cmps]at h
 | [],_::_,_,h,_,_,_=>by simp at h
 |_::_,[],_,h,_,_,_=>by simp at h
 |x::xs,y::ys,[],_,h,_,_=>by simp at h
 |x::xs,y::ys,z::zs,e,i,h1,d=>by
  simp only[T.cmps]at h1 d⊢
  have j:=Fg x y z
  by_cases c1:T.cmp x y=0
  ·have:=j7 x y c1
   subst this
   by_cases c2:T.cmp x z=0
   ·simp only[c1,c2,eD,mA,if_false]at h1 d⊢
    exact JU xs ys zs (by simpa using e) (by simpa using i) h1 d
   ·simp only[c2,eD,iN,if_true]at d⊢
    exact d
  ·simp only[c1,eD,iN,if_true]at h1
   by_cases c2:T.cmp y z=0
   ·have:=j7 y z c2
    subst this;simp only[c1,eD,iN,if_true];exact h1
   ·simp only[c2,eD,iN,if_true]at d
    have g:=j h1 d;have c3:T.cmp x z≠0:=by omega
    simp only[c3,eD,iN,if_true];exact g
end
def c8(a b:T):Prop:=T.cmp a b<=0
theorem GX(a:T):c8 a a:=by
 have:=pZ a a;unfold c8;omega
theorem pt{a b c:T}(h1:c8 a b)(d:c8 b c):c8 a c:=by
 unfold c8 at*
 by_cases c1:T.cmp a b=0
 ·rw[j7 a b c1];exact d
 by_cases c2:T.cmp b c=0
 ·rw[<-j7 b c c2];exact h1
 have:=Fg a b c (by omega) (by omega);omega
theorem Yx{a b:T}(h1:c8 a b)(c:c8 b a):a=b:=by
 have:=pZ a b;unfold c8 at*
 exact j7 a b (by omega)
theorem oW{a b:T}(h:¬T.cmp a b<0):c8 b a:=by
 have:=pZ a b;unfold c8;omega
theorem nj{a b:T}(h:T.cmp a b<0):c8 a b:=by unfold c8;omega
def bW(l:List T):Prop:=l.Pairwise c8
theorem Xp{a b:List T}(h1:bW a)(c:bW b)(h:a.Perm b):a=b:=Ct (fun _ _ _ _=>Yx) h1 c h
def gO(u w:List Bd)(i:Nat):Bool:= !((az u i).v==(az w i).v&&T.cmp (az u i).t (az w i).t==0)
def fQ(u w:List Bd):Bool:=decide (u.length=w.length)&&(aO (gO u w) u.length 0).isNone
theorem Ty(u w:List Bd)(s:u.length<=1099511627776)(hw:w.length<=1099511627776)(r:∀i,i<u.length->(az u i).t.inner<=1099511627776)(p:∀i,i<w.length->(az w i).t.inner<=1099511627776):
 al XV 143 [.d (binds .sub u),.d (binds .sub w)] []=some (ar (fQ u w),[]):=by
 rw[aJ 143 qm rfl];unfold fQ
 by_cases m:u.length=w.length
 ·have a:=cg (X:=XV) (T:=XV.lin 143) (L:=0) (live:=[0,1,5]) (b:=oz) (n:=u.length) (γ:=Nat) (st:=fun(_:Unit) i=>⟨[(0,.d (binds .sub u)),(1,.d (binds .sub w)),(5,aa i)],[]⟩) (step:=b_ (gO u w))
   (F:=fun _=>(.exit 0,⟨[(0,.d (binds .sub u)),(1,.d (binds .sub w)),(5,aa u.length),(14,ar false)],[]⟩)) (R:=fun _=>(.ret,⟨[(4,ar false)],[]⟩))
   (fun _=>⟨by simp,by simp[oz]⟩)
   (fun _ i hi=>by
    have c:i<w.length:=by omega
    have k:=bH (n:=i) (by omega);have hc:=EC (az u i).t (az w i).t (r i hi) (p i c);unfold b_;cases hq:gO u w i with
    |true=>
     simp only[if_true];refine⟨by simp,?_⟩;unfold gO at hq
     by_cases e:(az u i).v=(az w i).v
     ·have h:(T.cmp (az u i).t (az w i).t==0)=false:=by
       have o:((az u i).v==(az w i).v)=true:=by simpa using e
       rw[o]at hq;simpa using hq
      rw[h]at hc;simp[oz,A7,hi,c,cut,bK hi,bK c,e,hc]
     ·have o:((az u i).v==(az w i).v)=false:=by simpa using e
      have e3:((az u i).v !=(az w i).v)=true:=by simpa using e
      simp[oz,A7,hi,c,cut,bK hi,bK c,e3]
    |false=>
     simp only[bI,if_false];unfold gO at hq;simp only[Bool.not_eq_false',aF,eJ]at hq;have h:(T.cmp (az u i).t (az w i).t==0)=true:=by simpa using hq.2
     rw[h]at hc;refine⟨_,by simp[oz,A7,hi,c,k,cut,bK hi,bK c,hq.1,hc];rfl,by simp[aE,aD]⟩)
   u.length () 0 ⟨[(0,.d (binds .sub u)),(1,.d (binds .sub w)),(5,aa 0)],[]⟩ (by omega) (by simp[aE,aD])
  rw[ee]at a;have g:(u.length:Int)=w.length:=by omega
  have l:decide (u.length=w.length)=true:=by simpa using m
  rw[l];simp only[XJ]at a;simp[qm,g];simp only[binds]at a;rw[a];cases aO (gO u w) u.length 0 with
  |none=>simp[z_]
  |some j=>simp
 ·have l:decide (u.length=w.length)=false:=by simpa using m
  have g:¬(u.length:Int)=w.length:=by omega
  have q:((u.length:Int) !=w.length)=true:=by simpa using g
  rw[l];simp[qm,z_,q]
mutual
theorem T.qLl(g:Tag)(a:g≠.nil):∀t:T,(t.enc g).sh=t.enc .sub
 | .node f v ks=>by
  have:=T.qFf g a ks;simp only[T.enc,DV.sh,DV.shs,ak a,this]
theorem T.qFf(g:Tag)(a:g≠.nil):∀ts:List T,DV.shs (T.encs g ts)=T.encs .sub ts
 | []=>by simp[T.encs,DV.shs]
 |t::ts=>by simp only[T.encs,DV.shs,T.qLl g a t,T.qFf g a ts]
end
theorem Ao(g:Tag)(a:g≠.nil)(ts:List T):(ts.map (T.enc g)).map DV.sh=ts.map (T.enc .sub):=by
 rw[eN];exact rJ fun t _=>T.qLl g a t
theorem UI(g:Tag)(t:T):jm (t.enc g)=true:=by cases t;rfl
theorem K2(g:Tag)(b:g≠.nil)(ts:List T)(i:Nat)(B:ah)(hi:i<ts.length)(c:ts.length<=1099511627776):
 al XV 284 [.d (aj g ts),aa i] B=some (.d (aj .sub (ts.take i++ts.drop (i+1))),B):=by
 rw[uH XV 284 _ _ jS rfl];have h1:(ts.map (T.enc g)).all jm=true:=by
  rw[bu];intro x hx
  obtain⟨t,_,rfl⟩:=bP.1 hx;exact UI g t
 have a:(0:Int)<=i/\(i:Int)<(ts.map (T.enc g)).length/\(ts.map (T.enc g)).length*40<=140737488355328:=by
  rw[dK];omega
 simp only[aM,bz,aQ,jS,aj];rw[ap ⟨h1,a⟩];simp only[xM,<-List.map_take,<-List.map_drop,<-List.map_append,Ao g b,bz]
def fe(u:List Bd)(v:Int):Nat:=u.findIdx fun b=>decide (b.v>v)
def cM(u:List Bd)(v:Int)(t:T):List Bd:=u.take (fe u v)++⟨v,t⟩::u.drop (fe u v)
theorem Hs(g:Tag):∀u:List Bd,ic (u.map (Bd.enc g))=some (u.map Bd.v)
 | []=>rfl
 |b::u=>by
  have h:mG (b.enc g)=some b.v:=rfl;simp only[bo,ic,h,Hs g u,bz,aQ]
theorem Kc(g:Tag)(a:g≠.nil)(b:Bd):(b.enc g).sh=b.enc .sub:=by
 simp only[Bd.enc,aj,DV.sh,DV.shs,ak a,jZ,Ao g a]
theorem JB(g g':Tag)(i:g≠.nil)(a:g'≠.nil)(u:List Bd)(v:Int)(t:T)(B:ah)(j:u.length<=1099511627776):
 al XV 323 [.d (binds g u),aa v,.d (t.enc g')] B=some (.d (binds .sub (cM u v t)),B):=by
 rw[uH XV 323 _ _ jD rfl];have e:t.enc g'= .agg [.int .i64 t.f,.int .i64 t.v,.sl g' (t.kids.map (T.enc g'))]:=T.qbJ g' t;have hb:(u.map (Bd.enc g)).length+1<=2932031007402:=by rw[dK];omega
 have c:((u.map (Bd.enc g)).length+1)*48<=140737488355328:=by omega
 have h:hZ (u.map Bd.v) v=fe u v:=by unfold hZ fe;rw[List.findIdx_map];rfl
 rw[e];simp only[aM,bz,aQ,jD,binds,Hs];rw[ap c,h];have hx:DV.sh (.agg [.int .i64 v,.int .i64 t.f,.int .i64 t.v,.sl g' (t.kids.map (T.enc g'))])=Bd.enc .sub ⟨v,t⟩:=Kc g' a ⟨v,t⟩;have hm:∀l:List Bd,(l.map (Bd.enc g)).map DV.sh=l.map (Bd.enc .sub):=fun l=>by
  rw[eN];exact rJ fun b _=>Kc g i b
 simp only[<-List.map_take,<-List.map_drop,ea,bo,hm,hx,cM];rfl
structure Gl where
 many:Bool
 f:Int
 ps:List T
 ts:List T
def Gl.enc(g:Tag)(x:Gl):DV:= .agg [.bool x.many,.int .i64 x.f,aj g x.ps,aj g x.ts]
abbrev bp(g:Tag)(l:List Gl):DV:= .sl g (l.map (Gl.enc g))
theorem SV(g:Tag)(a:g≠.nil)(x:Gl):(x.enc g).sh=x.enc .sub:=by
 simp only[Gl.enc,aj,DV.sh,DV.shs,ak a,jZ,Ao g a]
theorem Zj(g g1 g2 e:Tag)(h1:g1≠.nil)(j:g2≠.nil)(k:e≠.nil)(a b c:List Gl)(B:ah)(hb:0<b.length)(n:a.length+b.length+c.length<=1099511627776):
 al XV 328 [.d (.sl g [bp g1 a,bp g2 b,bp e c])] B=some (.d (bp .sub (a++(b++c))),B):=by
 rw[uH XV 328 _ _ (jr 4 64) rfl];have h:rowsOf [bp g1 a,bp g2 b,bp e c]=some [a.map (Gl.enc g1),b.map (Gl.enc g2),c.map (Gl.enc e)]:=rfl;have i:[a.map (Gl.enc g1),b.map (Gl.enc g2),c.map (Gl.enc e)].flatten=a.map (Gl.enc g1)++(b.map (Gl.enc g2)++c.map (Gl.enc e)):=by simp
 have ha:∀(g:Tag) (l:List Gl),(l.map (Gl.enc g)).all (fun x=>decide (x.cells.length=4))=true:=fun g l=>by
  rw[bu];intro x hx
  obtain⟨t,_,rfl⟩:=bP.1 hx;rfl
 have hm:∀(g:Tag),g≠.nil->∀l:List Gl,(l.map (Gl.enc g)).map DV.sh=l.map (Gl.enc .sub):=fun g m l=>by
  rw[eN];exact rJ fun b _=>SV g m b
 simp only[aM,bz,aQ,jr,h,i];rw[ap ⟨by rw[DY,DY,ha,ha,ha];rfl,by simp;omega,by simp;omega⟩];simp only[ea,hm g1 h1,hm g2 j,hm e k,bz,bp]
def gW(sg ways:DV)(b steps a:Int)(over:Bool):List AV:=[.d sg,.d ways,aa b,aa steps,aa a,ar over]
theorem ud(pre:ah)(x:Option (List AV))(r:ah):(pre++x::r).take (pre.length+(r.length+1))=pre++x::r:=eU (by simp)
theorem YM(pre r:ah)(sg:DV)(g:Tag)(ws:List DV)(a steps b:Int)(over:Bool):
 al XV 319 [.ptr pre.length 0] (pre++some (gW sg (.sl g ws) a steps b over)::r)=some (ar (over||decide ((ws.length:Int)>a)),pre++some (gW sg (.sl g ws) a steps b over)::r):=by
 rw[aJ 319 r_ rfl];have hn:¬(pre.length+(r.length+1)<=pre.length):=by omega
 cases over
 ·simp[r_,F7,gW,hn,ud]
 ·simp[r_,F7,gW,hn,ud]
theorem MV(l:List T)(c:Nat)(caps:List AV)(B:ah)(P:T->Bool)(p:l.length<=1099511627776)(hs:AV.safe.safes B.length caps=true)(g:caps.map AV.clr=caps)(m:¬0∈XV.lin c)
 (o:∀s,s∈l->al XV c (.d (s.enc .sub)::caps) B=some (ar (P s),B)):
 al XV 281 [.d (aj .sub l),.fn c caps] B=some (aa (cZ (aO (fun i=>P (ae l i)) l.length 0)),B):=by
 rw[aJ 281 tR rfl];have h:=cg (X:=XV) (T:=XV.lin 281) (L:=B.length) (live:=[0,1,7,8]) (b:=qI) (n:=l.length) (st:=fun(_:Unit) i=>⟨[(0,.d (aj .sub l)),(1,.fn c caps),(7,aa l.length),(8,aa i)],B⟩) (step:=b_ fun i=>P (ae l i))
  (F:=fun _=>(.exit 0,⟨[(0,.d (aj .sub l)),(1,.fn c caps),(7,aa l.length),(8,aa l.length),(9,ar false)],B⟩)) (R:=fun(j:Nat)=>(.ret,⟨[(4,aa j)],B⟩))
  (fun a=>⟨by simp,by simp[qI]⟩)
  (fun a i hi=>by
   have hw:=bH (n:=i) (by omega);have hc:=o _ (bS hi);unfold b_
   by_cases e:P (ae l i)=true
   ·rw[ap e];rw[e]at hc
    exact⟨by simp,by simp[qI,hi,cut,bc hi,hc,g,m]⟩
   ·rw[ak e]
    have k:P (ae l i)=false:=by simpa using e
    rw[k]at hc;exact⟨_,by simp[qI,hi,hw,cut,bc hi,hc,g,m];rfl,by simp[aE,aD,hs]⟩)
  l.length () 0 ⟨[(0,.d (aj .sub l)),(1,.fn c caps),(7,aa l.length),(8,aa 0)],B⟩ (by omega) (by simp[aE,aD,hs])
 rw[ee]at h;simp only[US]at h;simp[tR];rw[h];cases e:aO (fun i=>P (ae l i)) l.length 0<;>simp[cZ]
theorem Wh(x:T)(f v:Int)(ks:List T)(hx:x.inner<=1099511627776)(a:(T.node f v ks).inner<=1099511627776):
 al XV 283 [.d (x.enc .sub),.ptr 0 0] [some [aa f,aa v,.d (aj .sub ks)]]=some (ar (T.cmp x (.node f v ks)==0),[some [aa f,aa v,.d (aj .sub ks)]]):=by
 rw[aJ 283 xt rfl];have h:=same_eq x (.node f v ks) hx a;obtain⟨c,v',b⟩:=x;simp[xt,h]
def i7(l:List T)(t:T)(i:Nat):Bool:=T.cmp (ae l i) t==0
def dM(l:List T)(j:Nat):List T:=l.take j++l.drop (j+1)
def takeN:List T->List T->List T⊕T
 |l,[]=> .inl l
 |l,t::ts=>match aO (i7 l t) l.length 0 with
  |none=> .inr t
  |some j=>takeN (dM l j) ts
def tm(ts:List T)(l:List T)(i:Nat):List T⊕T:=
 match aO (i7 l (ae ts i)) l.length 0 with
 |some j=> .inl (dM l j)
 |none=> .inr (ae ts i)
theorem Kz(ts:List T):∀(k i:Nat) (l:List T),i+k=ts.length->runN (tm ts) k l i=takeN l (ts.drop i)
 |0,i,l,h=>by
  have h1:ts.drop i=[]:=kw (by omega);simp[runN,h1,takeN]
 |k+1,i,l,h=>by
  have a:i<ts.length:=by omega
  rw[cW a,bc a];simp only[runN,tm,takeN];cases aO (i7 l (ae ts i)) l.length 0 with
  |none=>rfl
  |some j=>exact Kz ts k (i+1) _ (by omega)
theorem TK{l:List T}{j:Nat}{x:T}(h:x∈dM l j):x∈l:=by
 unfold dM at h;rcases bl.1 h with h|h
 ·exact qk h
 ·exact pR h
theorem WE{l:List T}{j:Nat}:(dM l j).length<=l.length:=by unfold dM;simp;omega
theorem ZM(l ts:List T)(o:l.length<=1099511627776)(s:ts.length<=1099511627776)(p:∀x,x∈l->x.inner<=1099511627776)(bt:∀x,x∈ts->x.inner<=1099511627776):
 al XV 282 [.d (aj .sub l),.d (aj .sub ts)] []=some (match takeN l ts with| .inl r=> .d (.tup [aj .sub r,.bool true])| .inr _=> .d (.tup [.sl U [],.bool false]),[]):=by
 rw[aJ 282 vK rfl];have h:=tQ (X:=XV) (T:=XV.lin 282) (L:=0) (live:=[0,9,10,11]) (b:=qj) (n:=ts.length) (γ:=T) (st:=fun(r:List T) i=>⟨[(0,.d (aj .sub r)),(9,.d (aj .sub ts)),(10,aa ts.length),(11,aa i)],[]⟩) (step:=tm ts)
  (F:=fun r=>(.exit 0,⟨[(0,.d (aj .sub r)),(9,.d (aj .sub ts)),(10,aa ts.length),(11,aa ts.length),(12,ar false)],[]⟩)) (R:=fun q=>(.ret,⟨[(4,.d (.sl U [])),(5,ar false)],[some [aa q.f,aa q.v,.d (aj .sub q.kids)]]⟩))
  (fun r _=>r.length<=1099511627776/\∀x,x∈r->x.inner<=1099511627776)
  (fun a _=>⟨by simp,by simp[qj]⟩)
  (fun a i hi hinv=>by
   have hw:=bH (n:=i) (by omega);obtain⟨g,m⟩:=hinv;have hb:=bt _ (bS hi);generalize c:ae ts i=q at*
   obtain⟨f,v,ks⟩:=q;have hc:=MV a 283 [.ptr 0 0] [some [aa f,aa v,.d (aj .sub ks)]] (fun x=>T.cmp x (.node f v ks)==0) g (by simp) (by simp) (by simp) (fun x hx=>Wh x f v ks (m x hx) hb);have hfe:(fun j=>T.cmp (ae a j) (.node f v ks)==0)=i7 a (.node f v ks):=rfl;rw[hfe]at hc;unfold tm;rw[c];cases hfa:aO (i7 a (.node f v ks)) a.length 0 with
   |none=>
    rw[hfa]at hc;exact⟨⟨by simp,by simp[qj,hi,cut,bc hi,c,hc,cZ,splice]⟩,fun a' h=>by simp at h⟩
   |some j=>
    rw[hfa]at hc;obtain⟨_,hj,_⟩:=eT _ _ _ _ hfa;have k:¬((j:Int)<0):=by omega
    have e:=K2 .sub (by simp) a j [] (by omega) g;refine⟨⟨_,by simp[qj,hi,hw,cut,bc hi,c,hc,cZ,e,splice,k];rfl,by simp[aE,aD,dM]⟩,fun a' h=> ?_⟩;simp only[v8]at h;subst h;exact⟨cN WE g,fun x hx=>m x (TK hx)⟩)
  ts.length l 0 ⟨[(0,.d (aj .sub l)),(9,.d (aj .sub ts)),(10,aa ts.length),(11,aa 0)],[]⟩ (by omega) ⟨o,p⟩ (by simp[aE,aD])
 rw[Kz ts _ _ _ (by omega)]at h;simp only[RH,fE]at h;simp[vK];rw[h];cases takeN l ts<;>simp
abbrev is(l:List Int):DV:= .sl .sub (l.map (.int .i64))
def cA(l:List Int)(i:Nat):Int:=(l[i]?).getD 0
theorem jE{l:List Int}{i:Nat}(h:i<l.length):l[i]=cA l i:=by simp[cA,h]
@[simp high] theorem qTM(l:List Int):(l.map (DV.int .i64)).map DV.clr=l.map (DV.int .i64):=by simp[eN,kD]
end Go.Proofs.YtpcoohnjllclnaaGreat.VS
