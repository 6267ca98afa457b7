/- Contracts of the program's functions on the evaluator without names, and plain lemmas: part 1. -/
import Derived.Test.YtbcbkiaineacpaaGreatLin
set_option linter.unusedSimpArgs false
set_option linter.unusedVariables false
namespace Go.Proofs.YtbcbkiaineacpaaGreat.VS
inductive T where
 |node (f v:Int) (kids:List T)
 deriving Inhabited
def T.f:T->Int| .node f _ _=>f
def T.v:T->Int| .node _ v _=>v
def T.kids:T->List T| .node _ _ k=>k
mutual
def T.enc(g:Tag):T->DV
 | .node f v ks=> .agg [.int .i64 f,.int .i64 v,.sl g (T.encs g ks)]
def T.encs(g:Tag):List T->List DV
 | []=>[]
 |t::r=>t.enc g::T.encs g r
end
theorem T.qew(g:Tag):∀l:List T,T.encs g l=l.map (T.enc g)
 | []=>by unfold T.encs;rfl
 |t::r=>by unfold T.encs;simp[T.qew g r]
abbrev qaa(g:Tag)(l:List T):DV:= .sl g (l.map (T.enc g))
theorem T.qcJ(g:Tag)(t:T):t.enc g= .agg [.int .i64 t.f,.int .i64 t.v,qaa g t.kids]:=by
 cases t;simp[T.enc,T.qew,qaa,T.f,T.v,T.kids]
@[simp] theorem agg_enc(g:Tag)(f v:Int)(ks:List T):DV.agg [.int .i64 f,.int .i64 v,qaa g ks]=(T.node f v ks).enc g:=by
 simp[T.enc,T.qew,qaa]
@[simp] theorem T.eta(t:T):T.node t.f t.v t.kids=t:=by cases t;rfl
@[simp] theorem T.qaW(f v:Int)(k:List T):(T.node f v k).f=f:=rfl
@[simp] theorem T.qdR(f v:Int)(k:List T):(T.node f v k).v=v:=rfl
@[simp] theorem T.qaQ(f v:Int)(k:List T):(T.node f v k).kids=k:=rfl
@[simp] theorem T.qfC(g:Tag)(t:T):(t.enc g).cells=[.int .i64 t.f,.int .i64 t.v,qaa g t.kids]:=by rw[T.qcJ];rfl
@[simp] theorem T.qja(g:Tag)(t:T):(AV.d (t.enc g)).cells=[.d (.int .i64 t.f),.d (.int .i64 t.v),.d (qaa g t.kids)]:=by rw[T.qcJ];rfl
@[simp] theorem T.qi8(g:Tag)(t:T):(t.enc g).isCell=false:=by rw[T.qcJ];rfl
mutual
theorem T.qfq(g:Tag):∀t:T,(t.enc g).clr=t.enc .sub
 | .node f v ks=>by simp only[T.enc,DV.clr,DV.clrs,T.qex g ks]
theorem T.qex(g:Tag):∀l:List T,DV.clrs (T.encs g l)=T.encs .sub l
 | []=>by simp only[T.encs,DV.clrs]
 |t::r=>by simp only[T.encs,DV.clrs,T.qfq g t,T.qex g r]
end
attribute [simp] T.qfq
@[simp high] theorem qe2(g:Tag)(l:List T):(l.map (T.enc g)).map DV.clr=l.map (T.enc .sub):=by
 rw[<-T.qew,<-T.qew,<-DV.qaw,T.qex]
def tAt(l:List T)(i:Nat):T:=(l[i]?).getD (.node 0 0 [])
theorem qan{l:List T}{i:Nat}(h:i<l.length):l[i]=tAt l i:=by simp[tAt,h]
theorem qav{l:List T}{i:Nat}(h:i<l.length):tAt l i∈l:=by rw[<-qan h];exact List.getElem_mem h
theorem qkB{l:List T}{i:Nat}(h:i<l.length):l[i]?=some (tAt l i):=by simp[tAt,h]
@[simp] theorem qMf(g:Tag){l:List T}{i:Nat}(h:i<l.length):(l.map (T.enc g))[i]?=some ((tAt l i).enc g):=by simp[qkB h]
mutual
def T.inner:T->Nat
 | .node _ _ ks=>ks.length+T.inners ks
def T.inners:List T->Nat
 | []=>0
 |t::r=>t.inner+T.inners r
end
theorem T.qg6(t:T):t.inner=t.kids.length+T.inners t.kids:=by cases t;simp[T.inner]
def leftOf(left:Int)(n:Nat):Int:=if left-n<0 then-1 else left-n
def stepT(l:List T)(left:Int)(i:Nat):Int⊕Unit:=if left-(tAt l i).inner<0 then .inr ()else .inl (left-(tAt l i).inner)
theorem runT(l:List T):∀(k i:Nat) (left:Int),i+k=l.length->0<=left->runN (stepT l) k left i=if left-T.inners (l.drop i)<0 then .inr ()else .inl (left-T.inners (l.drop i))
 |0,i,left,h,h0=>by
  have:l.drop i=[]:=List.drop_eq_nil_of_le (by omega);have h1:¬left<0:=by omega
  simp[runN,this,T.inners,h1]
 |k+1,i,left,h,h0=>by
  have hlt:i<l.length:=by omega
  have hs:T.inners (l.drop i)=(tAt l i).inner+T.inners (l.drop (i+1)):=by
   rw[List.drop_eq_getElem_cons hlt,qan hlt];simp only[T.inners]
  rw[hs];generalize hm:T.inners (l.drop (i+1))=m;have ih:=fun left h0=>runT l k (i+1) left (by omega) h0
  rw[hm]at ih;simp only[runN,stepT]
  by_cases h1:left-(tAt l i).inner<0
  ·have h2:left-((tAt l i).inner+m:Nat)<0:=by omega
   simp only[h1,h2,if_true]
  ·simp only[h1,if_false]
   rw[ih _ (by omega)];have e:left-(tAt l i).inner-(m:Int)=left-((tAt l i).inner+m:Nat):=by omega
   rw[e]
theorem qw7(l:List T)(left:Int)(hl:l.length<=maxLen)(h0:0<=left)(h1:left<=1099511627776)
 (hc:∀t,t∈l->∀left,0<=left->left<=1099511627776->qac XV 1 [.d (t.enc .sub),.d (.int .i64 left)] []=some (.d (.int .i64 (leftOf left t.inner)),[])):
 qac XV 9 [.d (qaa .sub l),.d (.int .i64 left)] []=some (.d (.int .i64 (leftOf left (l.length+T.inners l))),[]):=by
 rw[qah XV _ _ _ v9 rfl qIn rfl];have hw:IntKind.i64.wrap (left-l.length)=left-l.length:=wrap_i64 (by unfold maxLen at hl;omega) (by omega)
 by_cases h:left-l.length<0
 ·have h2:leftOf left (l.length+T.inners l)= -1:=by unfold leftOf;rw[if_pos (by omega)]
  simp[v9,qQm,qQl,qQk,qQj,hw,h,h2]
 ·have hloop:=qfw (X:=XV) (T:=[]) (L:=0) (live:=[0,1,5]) (b:=qPp) (n:=l.length) (γ:=Unit) (st:=fun(left:Int) i=>⟨[(0,.d (qaa .sub l)),(1,.d (.int .i64 left)),(5,.d (.int .i64 i))],[]⟩) (step:=stepT l)
   (F:=fun left=>(.exit 0,⟨[(0,.d (qaa .sub l)),(1,.d (.int .i64 left)),(5,.d (.int .i64 l.length)),(15,.d (.bool false))],[]⟩)) (R:=fun _=>(.ret,⟨[(4,.d (.int .i64 (-1)))],[]⟩))
   (fun left _=>0<=left/\left<=1099511627776)
   (fun left _=>⟨by simp,by simp[qPp,qPz]⟩)
   (fun left i hi hinv=>by
    have hw:=qai (n:=i) (by unfold maxLen at hl;omega);have hc':=hc _ (qav hi) left hinv.1 hinv.2;unfold stepT
    by_cases h2:left-(tAt l i).inner<0
    ·have hl':leftOf left (tAt l i).inner= -1:=by unfold leftOf;rw[if_pos h2]
     rw[hl']at hc';simp only[h2,if_true];refine⟨⟨by simp,?_⟩,fun a' h=>by simp at h⟩;simp[qPp,qPz,qQi,qQh,qQg,qQf,hi,hw,cut,qan hi,hc']
    ·have hl':leftOf left (tAt l i).inner=left-(tAt l i).inner:=by unfold leftOf;rw[if_neg h2]
     rw[hl']at hc';simp only[h2,if_false];refine⟨⟨_,by simp[qPp,qPz,qQi,qQh,qQg,qQf,hi,hw,cut,qan hi,hc',h2];rfl,by simp[qad,qab]⟩,fun a' h=>by simp at h;subst h;exact⟨by omega,by omega⟩⟩)
   l.length (left-l.length) 0 ⟨[(0,.d (qaa .sub l)),(1,.d (.int .i64 (left-l.length))),(5,.d (.int .i64 0))],[]⟩ (by omega) ⟨by omega,by omega⟩ (by simp[qad,qab])
  rw[runT l _ _ _ (by omega) (by omega),List.drop_zero]at hloop;simp[v9,qQm,qQl,qQk,qQj,qSi,hw,h];rw[hloop]
  by_cases h3:left-l.length-T.inners l<0
  ·have h4:leftOf left (l.length+T.inners l)= -1:=by unfold leftOf;rw[if_pos (by omega)]
   simp[h3,h4]
  ·have h4:leftOf left (l.length+T.inners l)=left-l.length-T.inners l:=by unfold leftOf;rw[if_neg (by omega)];omega
   simp[h3,h4,qMm]
mutual
def T.ok:T->Prop
 | .node _ _ ks=>ks.length<=maxLen/\T.oks ks
def T.oks:List T->Prop
 | []=>True
 |t::r=>t.ok/\T.oks r
end
theorem T.qqr:∀l:List T,T.oks l↔∀t,t∈l->t.ok
 | []=>by simp[T.oks]
 |t::r=>by simp[T.oks,T.qqr r]
theorem qkC(t:T)(left:Int)(ht:t.ok)(h0:0<=left)(h1:left<=1099511627776):qac XV 1 [.d (t.enc .sub),.d (.int .i64 left)] []=some (.d (.int .i64 (leftOf left t.inner)),[]):=by
 match t,ht with
 | .node f v ks,ht=>
  simp only[T.ok]at ht;have hc:=qw7 ks left ht.1 h0 h1 (fun s hs left h0 h1=>qkC s left ((T.qqr ks).1 ht.2 s hs) h0 h1);rw[qah XV _ _ _ v1 rfl qIu rfl];have hi:(T.node f v ks).inner=ks.length+T.inners ks:=by simp[T.inner]
  rw[hi]
  by_cases h:left-(ks.length+T.inners ks:Nat)<0
  ·have h2:leftOf left (ks.length+T.inners ks)= -1:=by unfold leftOf;rw[if_pos h]
   rw[h2]at hc⊢
   simp[v1,qQD,qQC,qQB,qQA,hc]
  ·have h2:leftOf left (ks.length+T.inners ks)=left-(ks.length+T.inners ks:Nat):=by unfold leftOf;rw[if_neg h]
   rw[h2]at hc⊢
   have h3:¬(left-((ks.length:Int)+T.inners ks))<0:=by omega
   simp[v1,qQD,qQC,qQB,qQA,qSL,hc,h3]
termination_by t
decreasing_by
 simp_wf
 have:=List.sizeOf_lt_of_mem hs;omega
theorem qux(g:Tag)(l:List T):∀x:DV,x∈l.map (T.enc g)->qC4 true 3 x:=by
 intro x hx;simp only[List.mem_map]at hx;obtain⟨t,_,rfl⟩:=hx;exact⟨by simp,by simp[qae,qaf],fun _=>⟨_,T.qcJ g t⟩,by simp⟩
theorem qiW(g:Tag)(l:List T):∀x:DV,x∈l.map (T.enc g)->x.cells.length=3:=fun x hx=>(qux g l x hx).1
def zT:DV:= .agg [.int .i64 0,.int .i64 0,.sl U []]
def qyX(l:List T)(i:Nat):List AV:=qca (Go.Proofs.YtbcbkiaineacpaaGreat.VS.filled (l.map (T.enc U)) zT i)
theorem qFl(l:List T)(i:Nat):(qyX l i).length=l.length*3:=by
 unfold qyX;rw[qjl (sz:=3) (qfc (qiW U l) rfl i),qgY];simp
theorem qFk(l:List T)(i:Nat)(h:i<l.length):splice (qyX l i) (i*3) [.d (.int .i64 (tAt l i).f),.d (.int .i64 (tAt l i).v),.d (qaa U (tAt l i).kids)]=qyX l (i+1):=by
 have h1:=qm2 (sz:=3) (i:=i) (es:=Go.Proofs.YtbcbkiaineacpaaGreat.VS.filled (l.map (T.enc U)) zT i) (e:=(tAt l i).enc U) (qfc (qiW U l) rfl i) (by simp) (by rw[qgY];simpa using h);have h2:=qoP (l.map (T.enc U)) zT i (by simpa using h);simp only[T.qfC,List.map_cons,List.map_nil]at h1;unfold qyX;rw[h1,<-h2];simp[qan h]
theorem qAw(l:List T):qyX l 0=((List.replicate l.length zT).flatMap DV.cells).map .d:=by
 unfold qyX;rw[qme];simp[qca,flat]
theorem qFm(l:List T):qyX l l.length=qca (l.map (T.enc U)):=by
 unfold qyX;have:=qoQ (l.map (T.enc U)) zT;rw[List.length_map]at this;rw[this]
theorem qw6(l:List T)(hl:l.length<=1099511627776)(hc:∀t,t∈l->qac XV 2 [.d (t.enc .sub)] []=some (.d (t.enc U),[])):
 qac XV 8 [.d (qaa .sub l)] []=some (.d (qaa U l),[]):=by
 rw[qah XV _ _ _ v8 rfl qIo rfl];have hloop:=qal (X:=XV) (T:=XV.lin 8) (L:=1) (live:=[0,3,4]) (b:=qPE) (n:=l.length) (γ:=Unit) (st:=fun(_:Unit) i=>⟨[(0,.d (qaa .sub l)),(3,.bsl [] true 0 3 l.length),(4,.d (.int .i64 i))],[some (qyX l i)]⟩) (step:=fun _ _=> .inl ())
  (F:=fun _=>(.exit 0,⟨[(0,.d (qaa .sub l)),(3,.bsl [] true 0 3 l.length),(4,.d (.int .i64 l.length)),(11,.d (.bool false))],[some (qyX l l.length)]⟩)) (R:=fun _=>(.ret,⟨[],[]⟩))
  (fun _=>⟨by simp,by simp[qPE,qQo]⟩)
  (fun _ i hi=>by
   have hw:=qai (n:=i) (by omega);have hc':=hc _ (qav hi);have hlen:=qFl l i;have hle:i*3+3<=l.length*3:=by omega
   have hset:=qFk l i hi;refine⟨_,by simp[qPE,qQo,qSk,qSj,hi,hw,cut,qan hi,hc',hlen,hle,hset,qae,qaf,qag,qaB];rfl,by simp[qad,qab]⟩)
  l.length () 0 ⟨[(0,.d (qaa .sub l)),(3,.bsl [] true 0 3 l.length),(4,.d (.int .i64 0))],[some (qyX l 0)]⟩ (by omega) (by simp[qad,qab])
 have hrun:∀k i,runN (fun(_:Unit) (_:Nat)=>(Sum.inl ():Unit⊕Unit)) k () i= .inl ():=by
  intro k;induction k with
  |zero=>intro i;rfl
  |succ k ih=>intro i;simp[runN,ih]
 rw[hrun,qAw]at hloop;have hch:=qg3 (l.map (T.enc U)) (qux U l);rw[List.length_map]at hch;have hfl:(flat (l.map (T.enc U))).length=l.length*3:=by rw[qd8 (qiW U l)];simp
 have hall:=qFm l;simp only[zT,qRe]at hloop;have hle2:l.length*40<=140737488355328:=by omega
 have hlt:(l.length:Int)<9223372036854775808:=by omega
 have hlt2:l.length<9223372036854775808:=by omega
 simp[v8,qSn,qSm,qSl,qQn,isAgg,hle2,hlt];rw[hloop];simp[hall,qml,hch,hfl,hlt2,qQn]
end Go.Proofs.YtbcbkiaineacpaaGreat.VS
namespace Go.Proofs.YtbcbkiaineacpaaGreat.VS
set_option profiler true
set_option profiler.threshold 2000
theorem T.qaA:∀{l:List T} {t:T},t∈l->t.inner<=T.inners l
 | [],t,h=>by simp at h
 |s::r,t,h=>by
  simp only[T.inners];rcases List.mem_cons.1 h with rfl|h
  ·omega
  ·have:=T.qaA h;omega
theorem qkA(t:T)(hi:t.inner<=1099511627776):qac XV 2 [.d (t.enc .sub)] []=some (.d (t.enc U),[]):=by
 match t,hi with
 | .node f v ks,hi=>
  simp only[T.inner]at hi;have hc:=qw6 ks (by omega) (fun s hs=>qkA s (by have:=T.qaA hs;omega));rw[qah XV _ _ _ v2 rfl qIt rfl];simp[v2,qSK,qSJ,qSI,qSH,qSG,qSF,hc,splice,qaj,AV.qaw,qae,qaf,qag,qaB]
termination_by t
decreasing_by
 simp_wf
 have:=List.sizeOf_lt_of_mem hs;omega
theorem qyh(l:List T)(hl:l.length<=1099511627776)(hc:∀t,t∈l->qac XV 5 [.d (t.enc .sub),.d (t.enc .sub)] []=some (.d (.bool true),[])):
 qac XV 7 [.d (qaa .sub l),.d (qaa .sub l)] []=some (.d (.bool true),[]):=by
 rw[qah XV _ _ _ v7 rfl qIp rfl];have hloop:=qal (X:=XV) (T:=[]) (L:=0) (live:=[0,1,5]) (b:=qPF) (n:=l.length) (γ:=Unit) (st:=fun(_:Unit) i=>⟨[(0,.d (qaa .sub l)),(1,.d (qaa .sub l)),(5,.d (.int .i64 i))],[]⟩) (step:=fun _ _=> .inl ())
  (F:=fun _=>(.exit 0,⟨[(0,.d (qaa .sub l)),(1,.d (qaa .sub l)),(5,.d (.int .i64 l.length)),(14,.d (.bool false))],[]⟩)) (R:=fun _=>(.ret,⟨[],[]⟩))
  (fun _=>⟨by simp,by simp[qPF,qQr]⟩)
  (fun _ i hi=>by
   have hw:=qai (n:=i) (by omega);have hc':=hc _ (qav hi);refine⟨_,by simp[qPF,qQr,qSp,qTN,qSo,hi,hw,cut,qan hi,hc'];rfl,by simp[qad,qab]⟩)
  l.length () 0 ⟨[(0,.d (qaa .sub l)),(1,.d (qaa .sub l)),(5,.d (.int .i64 0))],[]⟩ (by omega) (by simp[qad,qab])
 have hrun:∀k i,runN (fun(_:Unit) (_:Nat)=>(Sum.inl ():Unit⊕Unit)) k () i= .inl ():=by
  intro k;induction k with
  |zero=>intro i;rfl
  |succ k ih=>intro i;simp[runN,ih]
 rw[hrun]at hloop;simp[v7,qSt,qSs,qSr,qSq,qQp];rw[hloop];simp[qQp]
theorem qhs(t:T)(hi:t.inner<=1099511627776):qac XV 5 [.d (t.enc .sub),.d (t.enc .sub)] []=some (.d (.bool true),[]):=by
 match t,hi with
 | .node f v ks,hi=>
  simp only[T.inner]at hi;have hc:=qyh ks (by omega) (fun s hs=>qhs s (by have:=T.qaA hs;omega));rw[qah XV _ _ _ v5 rfl qIq rfl];simp[v5,qSB,qSA,qSz,qSy,qSx,qSw,qSv,qSu,hc]
termination_by t
decreasing_by
 simp_wf
 have:=List.sizeOf_lt_of_mem hs;omega
mutual
def T.cmp:T->T->Int
 | .node f v ks,.node f' v' ks'=>
  if f<f' then-1 else if f>f' then 1 else if v<v' then-1 else if v>v' then 1 else
  if ks.length<ks'.length then-1 else if ks.length>ks'.length then 1 else T.cmps ks ks'
def T.cmps:List T->List T->Int
 |a::as,b::bs=>if T.cmp a b≠0 then T.cmp a b else T.cmps as bs
 |_,_=>0
end
def qmO(l m:List T)(_:Unit)(i:Nat):Unit⊕Int:=if T.cmp (tAt l i) (tAt m i)≠0 then .inr (T.cmp (tAt l i) (tAt m i))else .inl ()
theorem qMl(l m:List T)(hl:l.length=m.length):∀(k i:Nat),i+k=l.length->runN (qmO l m) k () i=if T.cmps (l.drop i) (m.drop i)=0 then .inl ()else .inr (T.cmps (l.drop i) (m.drop i))
 |0,i,h=>by
  have h1:l.drop i=[]:=List.drop_eq_nil_of_le (by omega);simp[runN,h1,T.cmps]
 |k+1,i,h=>by
  have hlt:i<l.length:=by omega
  have hlt':i<m.length:=by omega
  rw[List.drop_eq_getElem_cons hlt,List.drop_eq_getElem_cons hlt',qan hlt,qan hlt'];simp only[runN,qmO,T.cmps]
  by_cases hc:T.cmp (tAt l i) (tAt m i)=0
  ·simp only[hc,ne_eq,not_true_eq_false,if_false]
   exact qMl l m hl k (i+1) (by omega)
  ·simp[hc]
def qgz(a b c d e f:Int)(i:Nat):Int×Int:=if i=0 then(a,b)else if i=1 then(c,d)else(e,f)
def qkE(a b c d e f:Int)(_:Unit)(i:Nat):Unit⊕(Int×(Int×Int)):=if(qgz a b c d e f i).1<(qgz a b c d e f i).2 then .inr (-1,qgz a b c d e f i)else if(qgz a b c d e f i).1>(qgz a b c d e f i).2 then .inr (1,qgz a b c d e f i)else .inl ()
def qfE(f v:Int)(ks:List T)(f' v':Int)(ks':List T):qao:=[some [.d (.int .i64 f),.d (.int .i64 v),.d (qaa .sub ks)],some [.d (.int .i64 f'),.d (.int .i64 v'),.d (qaa .sub ks')]]
def qyA(a b c d e f:Int):List DV:=[.agg [.int .i64 a,.int .i64 b],.agg [.int .i64 c,.int .i64 d],.agg [.int .i64 e,.int .i64 f]]
theorem qwo(a b c d e f:Int)(i:Nat)(hi:i<3):(qyA a b c d e f)[i]?=some (.agg [.int .i64 (qgz a b c d e f i).1,.int .i64 (qgz a b c d e f i).2]):=by
 match i,hi with
 |0,_=>rfl
 |1,_=>rfl
 |2,_=>rfl
theorem qyv(a b c d e f:Int)(B:qao)(hB:B.length=2):
 qbq XV [] 2 [2,3,26,27,28] qyU ⟨[(2,.ptr 0 0),(3,.ptr 1 0),(26,.d (.sl .sub (qyA a b c d e f))),(27,.d (.int .i64 3)),(28,.d (.int .i64 0))],B⟩=
  some (match runN (qkE a b c d e f) 3 () 0 with
   | .inl _=>(.exit 0,⟨[(2,.ptr 0 0),(3,.ptr 1 0),(26,.d (.sl .sub (qyA a b c d e f))),(27,.d (.int .i64 3)),(28,.d (.int .i64 3)),(29,.d (.bool false))],B⟩)
   | .inr r=>(.ret,⟨[(4,.d (.int .i64 r.1))],B++[some [.d (.int .i64 r.2.1),.d (.int .i64 r.2.2)]]⟩)):=by
 obtain⟨x0,x1,rfl⟩:∃x0 x1,B=[x0,x1]:=by
  match B,hB with
  | [x0,x1],_=>exact⟨x0,x1,rfl⟩
 have key:=qal (X:=XV) (T:=[]) (L:=2) (live:=[2,3,26,27,28]) (b:=qyU) (n:=3) (γ:=Int×(Int×Int)) (st:=fun(_:Unit) i=>⟨[(2,.ptr 0 0),(3,.ptr 1 0),(26,.d (.sl .sub (qyA a b c d e f))),(27,.d (.int .i64 3)),(28,.d (.int .i64 i))],[x0,x1]⟩) (step:=qkE a b c d e f)
  (F:=fun _=>(.exit 0,⟨[(2,.ptr 0 0),(3,.ptr 1 0),(26,.d (.sl .sub (qyA a b c d e f))),(27,.d (.int .i64 3)),(28,.d (.int .i64 3)),(29,.d (.bool false))],[x0,x1]⟩)) (R:=fun r=>(.ret,⟨[(4,.d (.int .i64 r.1))],[x0,x1]++[some [.d (.int .i64 r.2.1),.d (.int .i64 r.2.2)]]⟩))
  (fun _=>⟨by simp,by simp[qyU,qFH]⟩)
  (fun _ i hi=>by
   have hw:=qai (n:=i) (by omega);have hi':(i:Int)<3:=by omega
   have hb:=qwo a b c d e f i hi;unfold qkE;generalize qgz a b c d e f i=q at hb;obtain⟨x,y⟩:=q;simp only at hb⊢
   by_cases h1:x<y
   ·rw[if_pos h1]
    refine⟨by simp,?_⟩;simp[qyU,qFH,qI6,qI5,qI4,hi',hb,cut,h1,qae,splice,qaj,qag,qaB]
   ·rw[if_neg h1]
    by_cases h2:x>y
    ·rw[if_pos h2]
     refine⟨by simp,?_⟩;simp[qyU,qFH,qI6,qI5,qI4,qMu,qMt,hi',hb,cut,h1,h2,qae,splice,qaj,qag,qaB]
    ·rw[if_neg h2]
     refine⟨_,by simp[qyU,qFH,qI6,qI5,qI4,qMu,qMt,qQt,hi',hb,cut,h1,h2,hw,qae,splice,qaj,qag,qaB];rfl,?_⟩;simp[qad,qab])
  3 () 0 ⟨[(2,.ptr 0 0),(3,.ptr 1 0),(26,.d (.sl .sub (qyA a b c d e f))),(27,.d (.int .i64 3)),(28,.d (.int .i64 0))],[x0,x1]⟩ (by omega) (by simp[qad,qab])
 rw[key];cases runN (qkE a b c d e f) 3 () 0<;>rfl
theorem qyu(f v:Int)(ks:List T)(f' v':Int)(ks':List T)(hl:ks.length<=1099511627776)(hlen:ks.length=ks'.length)
 (hrec:∀s s',s∈ks->s'∈ks'->qac XV 6 [.d (s.enc .sub),.d (s'.enc .sub)] []=some (.d (.int .i64 (T.cmp s s')),[])):
 qbq XV [] 2 [2,3,47,48] qDN ⟨[(2,.ptr 0 0),(3,.ptr 1 0),(47,.d (.int .i64 ks.length)),(48,.d (.int .i64 0))],qfE f v ks f' v' ks'⟩=
  some (if T.cmps ks ks'=0 then(.exit 3,⟨[(2,.ptr 0 0),(3,.ptr 1 0),(47,.d (.int .i64 ks.length)),(48,.d (.int .i64 ks.length)),(49,.d (.bool false))],qfE f v ks f' v' ks'⟩)else(.ret,⟨[(4,.d (.int .i64 (T.cmps ks ks')))],qfE f v ks f' v' ks'⟩)):=by
 have h:=qal (X:=XV) (T:=[]) (L:=2) (live:=[2,3,47,48]) (b:=qDN) (n:=ks.length) (γ:=Int) (st:=fun(_:Unit) i=>⟨[(2,.ptr 0 0),(3,.ptr 1 0),(47,.d (.int .i64 ks.length)),(48,.d (.int .i64 i))],qfE f v ks f' v' ks'⟩) (step:=qmO ks ks')
  (F:=fun _=>(.exit 3,⟨[(2,.ptr 0 0),(3,.ptr 1 0),(47,.d (.int .i64 ks.length)),(48,.d (.int .i64 ks.length)),(49,.d (.bool false))],qfE f v ks f' v' ks'⟩)) (R:=fun r=>(.ret,⟨[(4,.d (.int .i64 r))],qfE f v ks f' v' ks'⟩))
  (fun _=>⟨by simp,by simp[qDN,qtt]⟩)
  (fun _ i hi=>by
   have hw:=qai (n:=i) (by omega);have hi2:i<ks'.length:=by omega
   have hc:=hrec _ _ (qav hi) (qav hi2);unfold qmO qfE
   by_cases h0:T.cmp (tAt ks i) (tAt ks' i)=0
   ·rw[h0]at hc⊢
    simp only[ne_eq,not_true_eq_false,if_false];refine⟨_,by simp[qDN,qtt,qAI,qGp,qAH,qAG,qAF,hi,hi2,hw,cut,qan hi,qan hi2,hc,qaj];rfl,?_⟩;simp[qad,qab]
   ·simp only[ne_eq,h0,not_false_eq_true,if_true]
    have h0':(T.cmp (tAt ks i) (tAt ks' i) !=0)=true:=by simp[h0]
    refine⟨by simp,?_⟩;simp[qDN,qtt,qAI,qGp,qAH,qAG,qAF,hi,hi2,hw,cut,qan hi,qan hi2,hc,qaj,h0'])
  ks.length () 0 ⟨[(2,.ptr 0 0),(3,.ptr 1 0),(47,.d (.int .i64 ks.length)),(48,.d (.int .i64 0))],qfE f v ks f' v' ks'⟩ (by omega) (by simp[qad,qab,qfE])
 rw[qMl ks ks' hlen _ _ (by omega)]at h;simp only[List.drop_zero]at h;rw[h]
 by_cases h0:T.cmps ks ks'=0<;>simp[h0]
def qsv(a b c d e f:Int)(r:Int):Int:=if a<b then-1 else if a>b then 1 else if c<d then-1 else if c>d then 1 else if e<f then-1 else if e>f then 1 else r
theorem qSf(a b c d e f:Int):(runN (qkE a b c d e f) 3 () 0= .inl ()/\a=b/\c=d/\e=f)\/∃r,runN (qkE a b c d e f) 3 () 0= .inr r/\∀z,qsv a b c d e f z=r.1:=by
 simp only[runN,qkE,qgz,qsv]
 by_cases c1:a<b
 ·right;refine⟨_,by simp[c1];rfl,fun z=> ?_⟩;simp[c1]
 by_cases c2:a>b
 ·right;refine⟨_,by simp[c1,c2];rfl,fun z=> ?_⟩;simp[c1,c2]
 by_cases c3:c<d
 ·right;refine⟨_,by simp[c1,c2,c3];rfl,fun z=> ?_⟩;simp[c1,c2,c3]
 by_cases c4:c>d
 ·right;refine⟨_,by simp[c1,c2,c3,c4];rfl,fun z=> ?_⟩;simp[c1,c2,c3,c4]
 by_cases c5:e<f
 ·right;refine⟨_,by simp[c1,c2,c3,c4,c5];rfl,fun z=> ?_⟩;simp[c1,c2,c3,c4,c5]
 by_cases c6:e>f
 ·right;refine⟨_,by simp[c1,c2,c3,c4,c5,c6];rfl,fun z=> ?_⟩;simp[c1,c2,c3,c4,c5,c6]
 left;exact⟨by simp[c1,c2,c3,c4,c5,c6],by omega,by omega,by omega⟩
theorem qkt(f v:Int)(ks:List T)(f' v':Int)(ks':List T):T.cmp (.node f v ks) (.node f' v' ks')=qsv f f' v v' ks.length ks'.length (T.cmps ks ks'):=by
 simp only[T.cmp,qsv,Int.ofNat_lt,gt_iff_lt]
theorem qyt(f v:Int)(ks:List T)(f' v':Int)(ks':List T)(hl:ks.length<=1099511627776)(hl':ks'.length<=1099511627776)
 (hrec:∀s s',s∈ks->s'∈ks'->qac XV 6 [.d (s.enc .sub),.d (s'.enc .sub)] []=some (.d (.int .i64 (T.cmp s s')),[])):
 qac XV 6 [.d ((T.node f v ks).enc .sub),.d ((T.node f' v' ks').enc .sub)] []=some (.d (.int .i64 (T.cmp (.node f v ks) (.node f' v' ks'))),[]):=by
 rw[qah XV _ _ _ v6 rfl qzh rfl];have h1:=qyv f f' v v' ks.length ks'.length (qfE f v ks f' v' ks') rfl;simp[v6,qQv,qQu,qae,qaf,qag,qaB,splice,qaj,qaR,List.replicate];simp only[qyA,qfE]at h1;rw[h1,qkt];rcases qSf f f' v v' ks.length ks'.length with⟨h3,e1,e2,e3⟩|⟨r,h3,h4⟩
 ·rw[h3]
  have hlen:ks.length=ks'.length:=by omega
  have h2:=qyu f v ks f' v' ks' hl hlen hrec;simp only[qfE]at h2;subst e1;subst e2
  simp[qQs,qaj];rw[h2];have h5:qsv f f v v ks.length ks'.length (T.cmps ks ks')=T.cmps ks ks':=by simp[qsv,hlen]
  rw[h5]
  by_cases c7:T.cmps ks ks'=0
  ·simp[c7,qI7]
  ·simp[c7]
 ·rw[h3,h4];simp
theorem qgZ(a b:T)(ha:a.inner<=1099511627776)(hb:b.inner<=1099511627776):qac XV 6 [.d (a.enc .sub),.d (b.enc .sub)] []=some (.d (.int .i64 (T.cmp a b)),[]):=by
 match a,b,ha,hb with
 | .node f v ks,.node f' v' ks',ha,hb=>
  simp only[T.inner]at ha hb;exact qyt f v ks f' v' ks' (by omega) (by omega) (fun s s' hs hs'=>qgZ s s' (by have:=T.qaA hs;omega) (by have:=T.qaA hs';omega))
termination_by a
decreasing_by
 simp_wf
 have:=List.sizeOf_lt_of_mem hs;omega
end Go.Proofs.YtbcbkiaineacpaaGreat.VS
namespace Go.Proofs.YtbcbkiaineacpaaGreat.VS
theorem cmp_zero(f v:Int)(ks:List T)(f' v':Int)(ks':List T):T.cmp (.node f v ks) (.node f' v' ks')=0↔f=f'/\v=v'/\ks.length=ks'.length/\T.cmps ks ks'=0:=by
 rw[qkt];unfold qsv
 constructor
 ·intro h
  iterate 6 (split at h;·omega)
  exact⟨by omega,by omega,by omega,h⟩
 ·rintro⟨rfl,rfl,h,h'⟩
  simp[h,h']
theorem qtl(f v:Int)(ks:List T)(f' v':Int)(ks':List T)(hl:ks.length<=1099511627776)(hl':ks'.length<=1099511627776)
 (hrec:∀s s',s∈ks->s'∈ks'->qac XV 3 [.d (s.enc .sub),.d (s'.enc .sub)] []=some (.d (.bool (T.cmp s s'==0)),[])):
 qac XV 3 [.d ((T.node f v ks).enc .sub),.d ((T.node f' v' ks').enc .sub)] []=some (.d (.bool (T.cmp (.node f v ks) (.node f' v' ks')==0)),[]):=by
 rw[qah XV _ _ _ v3 rfl qIs rfl];have hz:=cmp_zero f v ks f' v' ks';have ne:¬(f=f'/\v=v'/\ks.length=ks'.length/\T.cmps ks ks'=0)->(T.cmp (.node f v ks) (.node f' v' ks')==0)=false:=fun h=>by
  rw[<-hz]at h;simpa using h
 have hlc:(ks.length:Int)=ks'.length↔ks.length=ks'.length:=by omega
 by_cases c1:f=f'
 case neg=>
  rw[ne (fun h=>c1 h.1)];have b1:(f !=f')=true:=by simp[c1]
  simp[v3,qMO,qMN,qMM,b1]
 by_cases c2:v=v'
 case neg=>
  rw[ne (fun h=>c2 h.2.1)];have b2:(v !=v')=true:=by simp[c2]
  simp[v3,qMO,qMN,qMM,c1,b2]
 by_cases c3:ks.length=ks'.length
 case neg=>
  rw[ne (fun h=>c3 h.2.2.1)];have b3:((ks.length:Int) !=ks'.length)=true:=by simp;omega
  simp[v3,qMO,qMN,qMM,c1,c2,b3]
 have h:=qal (X:=XV) (T:=[]) (L:=2) (live:=[2,3,5]) (b:=qPq) (n:=ks.length) (γ:=Int) (st:=fun(_:Unit) i=>⟨[(2,.ptr 0 0),(3,.ptr 1 0),(5,.d (.int .i64 i))],qfE f v ks f' v' ks'⟩) (step:=qmO ks ks')
  (F:=fun _=>(.exit 0,⟨[(2,.ptr 0 0),(3,.ptr 1 0),(5,.d (.int .i64 ks.length)),(31,.d (.bool false))],qfE f v ks f' v' ks'⟩)) (R:=fun r=>(.ret,⟨[(4,.d (.bool false))],qfE f v ks f' v' ks'⟩))
  (fun _=>⟨by simp,by simp[qPq,qPA,qfE]⟩)
  (fun _ i hi=>by
   have hw:=qai (n:=i) (by omega);have hi2:i<ks'.length:=by omega
   have hc:=hrec _ _ (qav hi) (qav hi2);unfold qmO qfE
   by_cases h0:T.cmp (tAt ks i) (tAt ks' i)=0
   ·rw[h0]at hc⊢
    simp only[ne_eq,not_true_eq_false,if_false];refine⟨_,by simp[qPq,qPA,qQz,qTg,qQx,hi,hi2,hw,cut,qan hi,qan hi2,hc];rfl,?_⟩;simp[qad,qab]
   ·simp only[ne_eq,h0,not_false_eq_true,if_true]
    have h0':(T.cmp (tAt ks i) (tAt ks' i)==0)=false:=by simp[h0]
    rw[h0']at hc;refine⟨by simp,?_⟩;simp[qPq,qPA,qQz,qTg,qQx,hi,hi2,hw,cut,qan hi,qan hi2,hc])
  ks.length () 0 ⟨[(2,.ptr 0 0),(3,.ptr 1 0),(5,.d (.int .i64 0))],qfE f v ks f' v' ks'⟩ (by omega) (by simp[qad,qab,qfE])
 rw[qMl ks ks' c3 _ _ (by omega)]at h;simp only[List.drop_zero,qfE]at h;simp[v3,qMO,qMN,qMM,qSE,c1,c2,hlc,c3];subst c1;subst c2
 rw[c3]at h;rw[h]
 by_cases h0:T.cmps ks ks'=0
 ·have:T.cmp (.node f v ks) (.node f v ks')=0:=hz.2 ⟨rfl,rfl,c3,h0⟩
  simp[h0,qQw,this]
 ·have:¬T.cmp (.node f v ks) (.node f v ks')=0:=fun h=>h0 (hz.1 h).2.2.2
  simp[h0,qQw,this]
theorem qdV(a b:T)(ha:a.inner<=1099511627776)(hb:b.inner<=1099511627776):qac XV 3 [.d (a.enc .sub),.d (b.enc .sub)] []=some (.d (.bool (T.cmp a b==0)),[]):=by
 match a,b,ha,hb with
 | .node f v ks,.node f' v' ks',ha,hb=>
  simp only[T.inner]at ha hb;exact qtl f v ks f' v' ks' (by omega) (by omega) (fun s s' hs hs'=>qdV s s' (by have:=T.qaA hs;omega) (by have:=T.qaA hs';omega))
termination_by a
decreasing_by
 simp_wf
 have:=List.sizeOf_lt_of_mem hs;omega
theorem same_eq(a b:T)(ha:a.inner<=1099511627776)(hb:b.inner<=1099511627776):qac XV 4 [.d (a.enc .sub),.d (b.enc .sub)] []=some (.d (.bool (T.cmp a b==0)),[]):=by
 rw[qah XV _ _ _ v4 rfl qIr rfl];have h:=qgZ a b ha hb;simp[v4,qSD,qSC,h]
theorem qey{left:Int}{n:Nat}(h:left-n<0):leftOf left n= -1:=by unfold leftOf;rw[if_pos h]
theorem qfx{left:Int}{n:Nat}(h:¬left-n<0):leftOf left n=left-n:=by unfold leftOf;rw[if_neg h]
def qyZ(es:List DV)(z:DV)(i:Nat):List AV:=qca (Go.Proofs.YtbcbkiaineacpaaGreat.VS.filled es z i)
theorem qFs{sz:Nat}{es:List DV}{z:DV}(h:∀x:DV,x∈es->x.cells.length=sz)(hz:z.cells.length=sz)(i:Nat):(qyZ es z i).length=es.length*sz:=by
 unfold qyZ;rw[qjl (qfc h hz i),qgY]
theorem qFr{sz:Nat}{es:List DV}{z:DV}(h:∀x:DV,x∈es->x.cells.length=sz)(hz:z.cells.length=sz)(i:Nat)(hi:i<es.length):splice (qyZ es z i) (i*sz) (es[i].cells.map .d)=qyZ es z (i+1):=by
 have h1:=qm2 (i:=i) (qfc h hz i) (e:=es[i]) (h _ (List.getElem_mem hi)) (by rw[qgY];exact hi);unfold qyZ;rw[h1,qoP es z i hi]
theorem qAy(es:List DV)(z:DV):qyZ es z 0=((List.replicate es.length z).flatMap DV.cells).map .d:=by
 unfold qyZ;rw[qme];simp[qca,flat]
theorem qFt(es:List DV)(z:DV):qyZ es z es.length=qca es:=by
 unfold qyZ;rw[qoQ]
theorem qjj(k i:Nat):runN (fun(_:Unit) (_:Nat)=>(Sum.inl ():Unit⊕Unit)) k () i= .inl ():=by
 induction k generalizing i with
 |zero=>rfl
 |succ k ih=>simp[runN,ih]
def stepW(w:Nat->Nat)(left:Int)(i:Nat):Int⊕Unit:=if left-w i<0 then .inr ()else .inl (left-w i)
def qyW(w:Nat->Nat):Nat->Nat->Nat
 |_,0=>0
 |i,k+1=>w i+qyW w (i+1) k
theorem qSe(w:Nat->Nat):∀(k i:Nat) (left:Int),0<=left->runN (stepW w) k left i=if left-qyW w i k<0 then .inr ()else .inl (left-qyW w i k)
 |0,i,left,h0=>by
  have h1:¬left<0:=by omega
  simp[runN,qyW,h1]
 |k+1,i,left,h0=>by
  simp only[runN,stepW,qyW]
  by_cases h1:left-w i<0
  ·have h2:left-(w i+qyW w (i+1) k:Nat)<0:=by omega
   simp only[h1,h2,if_true]
  ·simp only[h1,if_false]
   rw[qSe w k _ _ (by omega)];have e:left-w i-(qyW w (i+1) k:Int)=left-(w i+qyW w (i+1) k:Nat):=by omega
   rw[e];rfl
@[simp] theorem qOE(cs:List DV):isAgg (.agg cs)=true:=rfl
@[simp] theorem qOD(k:IntKind)(n:Int):isAgg (.int k n)=false:=rfl
@[simp] theorem qR3(s:SymL):s.enc.cn=s.enc:=by simp[SymL.enc,SymL.cells]
@[simp] theorem qOC(s:SymL):isAgg s.enc=true:=rfl
@[simp] theorem qPD(s:SymL):s.enc.clr=s.enc:=by simp[SymL.enc,SymL.cells]
@[simp] theorem qyE(s:SymL):s.enc.cells=[.str s.name,.int .i64 s.arity,.bool s.ac]:=rfl
@[simp] theorem qKP(s:SymL):(AV.d s.enc).cells=[.d (.str s.name),.d (.int .i64 s.arity),.d (.bool s.ac)]:=rfl
@[simp] theorem qJ8(s:SymL):s.enc.isCell=false:=rfl
@[simp] theorem qPH(n:ByteArray)(a:Int)(b:Bool):DV.agg [.str n,.int .i64 a,.bool b]=SymL.enc ⟨n,a,b⟩:=rfl
@[simp high] theorem qPj(l:List SymL):(l.map SymL.enc).map DV.clr=l.map SymL.enc:=by simp[List.map_map,Function.comp_def]
def qax(l:List SymL)(i:Nat):SymL:=(l[i]?).getD ⟨⟨#[]⟩,0,false⟩
theorem qaq{l:List SymL}{i:Nat}(h:i<l.length):l[i]=qax l i:=by simp[qax,h]
theorem qqR{l:List SymL}{i:Nat}(h:i<l.length):qax l i∈l:=by rw[<-qaq h];exact List.getElem_mem h
abbrev sg(l:List SymL):DV:= .sl .sub (l.map SymL.enc)
theorem qE2(s:SymL)(left:Int)(h0:0<=left)(h1:left<=1099511627776)(hs:s.name.size<=maxLen):qac XV 17 [.d s.enc,.d (.int .i64 left)] []=some (.d (.int .i64 (leftOf left s.name.size)),[]):=by
 rw[qah XV _ _ _ v17 rfl qEG rfl];have hw:IntKind.i64.wrap (left-s.name.size)=left-s.name.size:=wrap_i64 (by unfold maxLen at hs;omega) (by omega);unfold leftOf
 by_cases h:left-s.name.size<0
 ·simp[v17,qJp,qJo,qJn,qJm,qJl,hw,h]
 ·simp[v17,qJp,qJo,qJn,qJm,qJl,hw,h]
def qd5(l:List SymL):Nat:=l.length+qyW (fun i=>(qax l i).name.size) 0 l.length
theorem qAi(l:List SymL)(left:Int)(hl:l.length<=maxLen)(ho:∀s,s∈l->s.ok)(h0:0<=left)(h1:left<=1099511627776):qac XV 11 [.d (sg l),.d (.int .i64 left)] []=some (.d (.int .i64 (leftOf left (qd5 l))),[]):=by
 rw[qah XV _ _ _ v11 rfl qEM rfl];have hw:IntKind.i64.wrap (left-l.length)=left-l.length:=wrap_i64 (by unfold maxLen at hl;omega) (by omega);unfold qd5;generalize hwd:(fun i=>(qax l i).name.size)=w
 by_cases h:left-l.length<0
 ·rw[qey (by omega)]
  simp[v11,qt2,qt1,qt0,qtZ,qtY,qtX,qtV,qtU,qtT,qtW,qlP,hw,h]
 ·have hloop:=qfw (X:=XV) (T:=[]) (L:=0) (live:=[0,1,5]) (b:=qDS) (n:=l.length) (γ:=Unit) (st:=fun(left:Int) i=>⟨[(0,.d (sg l)),(1,.d (.int .i64 left)),(5,.d (.int .i64 i))],[]⟩) (step:=stepW w)
   (F:=fun left=>(.exit 0,⟨[(0,.d (sg l)),(1,.d (.int .i64 left)),(5,.d (.int .i64 l.length)),(15,.d (.bool false))],[]⟩)) (R:=fun _=>(.ret,⟨[(4,.d (.int .i64 (-1)))],[]⟩))
   (fun left _=>0<=left/\left<=1099511627776)
   (fun left _=>⟨by simp,by simp[qDS,qt2,qt1,qt0,qtZ,qtY,qtX,qtV,qtU,qtT,qtW,qlP]⟩)
   (fun left i hi hinv=>by
    have hw:=qai (n:=i) (by unfold maxLen at hl;omega);have hc':=qE2 (qax l i) left hinv.1 hinv.2 (ho _ (qqR hi)).1;subst hwd;unfold stepW;simp only
    by_cases h2:left-(qax l i).name.size<0
    ·rw[qey h2]at hc'
     simp only[h2,if_true];refine⟨⟨by simp,?_⟩,fun a' h=>by simp at h⟩;simp[qDS,qt2,qt1,qt0,qtZ,qtY,qtX,qtV,qtU,qtT,qtW,qlP,hi,hw,cut,qaq hi,hc']
    ·rw[qfx h2]at hc'
     simp only[h2,if_false];refine⟨⟨_,by simp[qDS,qt2,qt1,qt0,qtZ,qtY,qtX,qtV,qtU,qtT,qtW,qlP,hi,hw,cut,qaq hi,hc',h2];rfl,by simp[qad,qab]⟩,fun a' h=>by simp at h;subst h;exact⟨by omega,by omega⟩⟩)
   l.length (left-l.length) 0 ⟨[(0,.d (sg l)),(1,.d (.int .i64 (left-l.length))),(5,.d (.int .i64 0))],[]⟩ (by omega) ⟨by omega,by omega⟩ (by simp[qad,qab])
  rw[qSe _ _ _ _ (by omega)]at hloop;simp[v11,qt2,qt1,qt0,qtZ,qtY,qtX,qtV,qtU,qtT,qtW,qlP,hw,h];rw[hloop]
  by_cases h3:left-l.length-qyW w 0 l.length<0
  ·rw[qey (by omega)];simp[h3]
  ·rw[qfx (by omega)]
   simp[h3,v11,qt2,qt1,qt0,qtZ,qtY,qtX,qtV,qtU,qtT,qtW,qlP];omega
theorem qm0(l:List SymL):∀x:DV,x∈l.map SymL.enc->qC4 true 3 x:=by
 intro x hx;simp only[List.mem_map]at hx;obtain⟨n,_,rfl⟩:=hx;exact⟨rfl,rfl,fun _=>⟨_,rfl⟩,by simp⟩
theorem qEZ(s:SymL):qac XV 16 [.d s.enc] []=some (.d s.enc,[]):=by
 rw[qah XV _ _ _ v16 rfl qEH rfl];simp[v16,qNo,qNn,qNm,qNl,qNk,qNj,splice]
def zS:DV:= .agg [.str ⟨#[]⟩,.int .i64 0,.bool false]
theorem qAe(l:List SymL)(hl:l.length<=1099511627776):qac XV 12 [.d (sg l)] []=some (.d (.sl U (l.map SymL.enc)),[]):=by
 rw[qah XV _ _ _ v12 rfl qEL rfl];have hcell:∀x:DV,x∈l.map SymL.enc->x.cells.length=3:=fun x hx=>(qm0 l x hx).1
 have hloop:=qal (X:=XV) (T:=XV.lin 12) (L:=1) (live:=[0,3,4]) (b:=qGP) (n:=l.length) (γ:=Unit) (st:=fun(_:Unit) i=>⟨[(0,.d (sg l)),(3,.bsl [] true 0 3 l.length),(4,.d (.int .i64 i))],[some (qyZ (l.map SymL.enc) zS i)]⟩) (step:=fun _ _=> .inl ())
  (F:=fun _=>(.exit 0,⟨[(0,.d (sg l)),(3,.bsl [] true 0 3 l.length),(4,.d (.int .i64 l.length)),(11,.d (.bool false))],[some (qyZ (l.map SymL.enc) zS l.length)]⟩)) (R:=fun _=>(.ret,⟨[],[]⟩))
  (fun _=>⟨by simp,by simp[qGP,qBV,qBU,qBT,qBS,qBQ,qBR,qBP]⟩)
  (fun _ i hi=>by
   have hw:=qai (n:=i) (by omega);have hlen:=qFs (z:=zS) hcell rfl i;have hset:=qFr (z:=zS) hcell rfl i (by simpa using hi);simp only[List.getElem_map,qaq hi,qyE,List.map_cons,List.map_nil,List.length_map]at hset hlen;have hle:i*3+3<=l.length*3:=by omega
   have hc':=qEZ (qax l i);exact⟨_,by simp[qGP,qBV,qBU,qBT,qBS,qBQ,qBR,qBP,hi,hw,cut,qaq hi,hc',hlen,hle,hset];rfl,by simp[qad,qab]⟩)
  l.length () 0 ⟨[(0,.d (sg l)),(3,.bsl [] true 0 3 l.length),(4,.d (.int .i64 0))],[some (qyZ (l.map SymL.enc) zS 0)]⟩ (by omega) (by simp[qad,qab])
 rw[qjj,qAy]at hloop;have hch:=qg3 (l.map SymL.enc) (qm0 l);have hfl:(flat (l.map SymL.enc)).length=l.length*3:=by rw[qd8 hcell];simp
 have hall:=qFt (l.map SymL.enc) zS;rw[List.length_map]at hch hall;simp only[zS,qOz,List.length_map]at hloop hall;have hle2:l.length*32<=140737488355328:=by omega
 have hlt:(l.length:Int)<9223372036854775808:=by omega
 have hlt2:l.length<9223372036854775808:=by omega
 simp[v12,qBV,qBU,qBT,qBS,qBQ,qBR,qBP,hle2,hlt];simp at hloop;rw[hloop];simp at hall;simp[hall,qml,hch,hfl,hlt2,v12,qBV,qBU,qBT,qBS,qBQ,qBR,qBP]
theorem qw8(a:ByteArray):qga a a=true:=by simp[qga]
@[simp] theorem qO3(a b:ByteArray):qgK .eql (.str a) (.str b)=some (.bool (qga a b)):=rfl
@[simp] theorem qO2(a b:ByteArray):qgK .neq (.str a) (.str b)=some (.bool !(qga a b)):=rfl
theorem qyi(s:SymL):qac XV 20 [.d s.enc,.d s.enc] []=some (.d (.bool true),[]):=by
 rw[qah XV _ _ _ v20 rfl qED rfl];simp[v20,qNg,qNf,qNe,qNd,qNc,qNb,qNa,qM9,qw8]
theorem quw(l:List SymL)(hl:l.length<=1099511627776):qac XV 15 [.d (sg l),.d (sg l)] []=some (.d (.bool true),[]):=by
 rw[qah XV _ _ _ v15 rfl qEI rfl];have hloop:=qal (X:=XV) (T:=[]) (L:=0) (live:=[0,1,5]) (b:=qGO) (n:=l.length) (γ:=Unit) (st:=fun(_:Unit) i=>⟨[(0,.d (sg l)),(1,.d (sg l)),(5,.d (.int .i64 i))],[]⟩) (step:=fun _ _=> .inl ())
  (F:=fun _=>(.exit 0,⟨[(0,.d (sg l)),(1,.d (sg l)),(5,.d (.int .i64 l.length)),(14,.d (.bool false))],[]⟩)) (R:=fun _=>(.ret,⟨[],[]⟩))
  (fun _=>⟨by simp,by simp[qGO,qBH,qBG,qBF,qBE,qBD,qGq,qBB,qBC,qBA]⟩)
  (fun _ i hi=>by
   have hw:=qai (n:=i) (by omega);have hc':=qyi (qax l i);exact⟨_,by simp[qGO,qBH,qBG,qBF,qBE,qBD,qGq,qBB,qBC,qBA,hi,hw,cut,qaq hi,hc'];rfl,by simp[qad,qab]⟩)
  l.length () 0 ⟨[(0,.d (sg l)),(1,.d (sg l)),(5,.d (.int .i64 0))],[]⟩ (by omega) (by simp[qad,qab])
 rw[qjj]at hloop;simp[v15,qBH,qBG,qBF,qBE,qBD,qGq,qBB,qBC,qBA];rw[hloop];simp[v15,qBH,qBG,qBF,qBE,qBD,qGq,qBB,qBC,qBA]
def inB(x lo hi:Int):Bool:=decide (lo<=x)&&decide (x<=hi)
theorem ql9(x lo hi:Int):qac XV 30 [.d (.int .i64 x),.d (.int .i64 lo),.d (.int .i64 hi)] []=some (.d (.bool (inB x lo hi)),[]):=by
 rw[qah XV _ _ _ v30 rfl qEx rfl];unfold inB
 by_cases h:lo<=x
 ·have h':x>=lo:=h
  simp[v30,qJi,qJh,h]
 ·have h':¬x>=lo:=h
  simp[v30,qJi,qJh,h]
theorem qhp(x lo hi:Int):qac XV 31 [.d (.int .i64 x),.d (.int .i64 lo),.d (.int .i64 hi)] []=some (.d (.bool (inB x lo hi)),[]):=by
 rw[qah XV _ _ _ v31 rfl qEw rfl];unfold inB
 by_cases h:lo<=x
 ·simp[v31,qJg,qJf,h]
 ·simp[v31,qJg,qJf,h]
def qen(l:List SymL)(f:Int):Bool:=inB f 0 (l.length-1)
theorem qe7{l:List SymL}{f:Int}(h:qen l f=true):0<=f/\f.toNat<l.length:=by
 simp[qen,inB]at h;omega
theorem qpZ(l:List SymL)(hl:l.length<=1099511627776)(f:Int):qac XV 29 [.d (sg l),.d (.int .i64 f)] []=some (.d (.bool (qen l f)),[]):=by
 rw[qah XV _ _ _ v29 rfl qEy rfl];have hw:IntKind.i64.wrap ((l.length:Int)-1)=l.length-1:=wrap_i64 (by omega) (by omega);have h:=ql9 f 0 (l.length-1);simp[v29,qMQ,qMP,hw,h,qen]
def qaK(l:List SymL)(f:Int):Bool:=qen l f&&(qax l f.toNat).ac
theorem qee(l:List SymL)(hl:l.length<=1099511627776)(f:Int):qac XV 34 [.d (sg l),.d (.int .i64 f)] []=some (.d (.bool (qaK l f)),[]):=by
 rw[qah XV _ _ _ v34 rfl qEu rfl];have h:=qpZ l hl f;unfold qaK;cases hs:qen l f with
 |false=>
  rw[hs]at h;simp[v34,qJc,qJb,h]
 |true=>
  rw[hs]at h;obtain⟨h1,h2⟩:=qe7 hs;simp[v34,qJc,qJb,h,h1,h2,qaq h2,cut]
theorem qe8(l:List SymL)(hl:l.length<=1099511627776)(f:Int):qac XV 33 [.d (sg l),.d (.int .i64 f)] []=some (.d (.bool (qaK l f)),[]):=by
 rw[qah XV _ _ _ v33 rfl qEv rfl];have hw:IntKind.i64.wrap ((l.length:Int)-1)=l.length-1:=wrap_i64 (by omega) (by omega);have h:=qhp f 0 (l.length-1);unfold qaK qen;cases hs:inB f 0 (l.length-1)with
 |false=>
  rw[hs]at h;simp[v33,qJe,qJd,h,hw]
 |true=>
  rw[hs]at h;obtain⟨h1,h2⟩:=qe7 (l:=l) (f:=f) hs;simp[v33,qJe,qJd,h,hw,h1,h2,qaq h2,cut]
def qjh(c:Int):Bool:=decide (97<=c)&&decide (c<=122)
def qsq(c:Int):Bool:=decide (48<=c)&&decide (c<=57)
theorem qoI(c:Int):qac XV 61 [.d (.int .u8 c)] []=some (.d (.bool (qjh c)),[]):=by
 rw[qah XV _ _ _ v61 rfl qEr rfl];cases h1:decide (97<=c)<;>simp[v61,qMy,qMx,h1,qjh]
theorem qoJ(c:Int):qac XV 62 [.d (.int .u8 c)] []=some (.d (.bool (qsq c)),[]):=by
 rw[qah XV _ _ _ v62 rfl qEq rfl];cases h1:decide (48<=c)<;>simp[v62,qMw,qMv,h1,qsq]
def qqy(x:Int)(i:Nat):Prop:=(97<=x/\x<=122)\/(0<i/\48<=x/\x<=57)
instance (x:Int) (i:Nat):Decidable (qqy x i):=by unfold qqy;exact inferInstance
theorem qH1(s:ByteArray)(hs:s.size<=1099511627776)(i:Nat)(hlt:i<s.size)(x:Int)(hb:qmu s i=some x):
 qay XV [] qDP ⟨[(0,.d (.str s)),(3,.d (.int .i64 i))],[]⟩=some (if qqy x i then(.normal,⟨[(0,.d (.str s)),(3,.d (.int .i64 (i+1:Nat)))],[]⟩)else(.ret,⟨[(2,.d (.bool false))],[]⟩)):=by
 have hw:=qai (n:=i) (by omega);simp[qDP,qJa,qMI,qMH,qMJ,hb,hlt,hw];cases h1:decide (97<=x)
 case true=>
  simp[hb];cases h2:decide (x<=122)
  case true=>
   simp[hb,hw];have:qqy x i:=by simp at h1 h2;exact .inl ⟨h1,h2⟩
   simp[this]
  case false=>
   simp[hb,hw];cases h3:decide (0<i)<;>simp[hb,hw]
   case true=>
    have h4:(48<=x):=by simp at h1;omega
    simp[h4,hb];have h5:¬(x<=57):=by simp at h1;omega
    have:¬qqy x i:=by simp at h1 h2;unfold qqy;omega
    simp[h5,this]
   case false=>
    have:¬qqy x i:=by simp at h1 h2 h3;unfold qqy;omega
    simp[this]
 case false=>
  simp[hb];cases h3:decide (0<i)
  case true=>
   simp[hb,hw];cases h4:decide (48<=x)
   case true=>
    simp[hb,hw];cases h5:decide (x<=57)
    case true=>
     have:qqy x i:=by simp at h1 h3 h4 h5;unfold qqy;omega
     simp[hw,this]
    case false=>
     have:¬qqy x i:=by simp at h1 h3 h4 h5;unfold qqy;omega
     simp[hw,this]
   case false=>
    have:¬qqy x i:=by simp at h1 h3 h4;unfold qqy;omega
    simp[hb,hw,this]
  case false=>
   have:¬qqy x i:=by simp at h1 h3;unfold qqy;omega
   simp[hb,hw,this]
def qFO(s:ByteArray)(i:Nat):Bool:=decide (qqy (chr s i) i)
def qkh(s:ByteArray)(f:ByteArray->Nat->Bool)(i k:Nat):Bool:=(List.range' i k).all (f s)
theorem qo9(s:ByteArray)(f:ByteArray->Nat->Bool)(i:Nat):qkh s f i 0=true:=rfl
theorem qpa(s:ByteArray)(f:ByteArray->Nat->Bool)(i k:Nat):qkh s f i (k+1)=(f s i&&qkh s f (i+1) k):=by simp[qkh,List.range'_succ]
theorem qDW(s:ByteArray)(f:ByteArray->Nat->Bool)(i k:Nat):qkh s f i k=true↔∀j,i<=j->j<i+k->f s j=true:=by
 simp only[qkh,List.all_eq_true,List.mem_range'_1];exact⟨fun h j h1 h2=>h j ⟨h1,h2⟩,fun h j h1=>h j h1.1 h1.2⟩
theorem qHO(s:ByteArray)(hs:s.size<=1099511627776):∀(k i:Nat),i+k=s.size->
 qbq XV [] 0 [0,3] qDP ⟨[(0,.d (.str s)),(3,.d (.int .i64 i))],[]⟩=
  some (if qkh s qFO i k then(.exit 0,⟨[(0,.d (.str s)),(3,.d (.int .i64 s.size)),(7,.d (.bool false))],[]⟩)else(.ret,⟨[(2,.d (.bool false))],[]⟩))
 |0,i,hk=>by
  have:i=s.size:=by omega
  subst this;rw[qfa];simp[qad,qab,qDP,qJa,qo9]
 |k+1,i,hk=>by
  have hlt:i<s.size:=by omega
  have ih:=qHO s hs k (i+1) (by omega);rw[qfa,qpa]
  by_cases h:qqy (chr s i) i
  ·have h2:qFO s i=true:=by simp[qFO,h]
   rw[h2,Bool.true_and,<-ih];simp[qad,qab,qH1 s hs i hlt _ (qih hlt),h]
  ·have h2:qFO s i=false:=by simp[qFO,h]
   simp[qad,qab,qH1 s hs i hlt _ (qih hlt),h,h2]
def qhU(s:ByteArray):Bool:=qkh s qFO 0 s.size&&inB s.size 1 8
theorem qpn(s:ByteArray)(hs:s.size<=1099511627776):qac XV 59 [.d (.str s)] []=some (.d (.bool (qhU s)),[]):=by
 rw[qah XV _ _ _ v59 rfl qEt rfl];have h:=qHO s hs s.size 0 (by omega);simp[v59,qML,qMK,qMG];simp at h;rw[h];cases h1:qkh s qFO 0 s.size
 ·simp[qhU,h1]
 ·simp[qhU,h1,qhp]
def qpT(s:ByteArray)(i:Nat):Bool:=qjh (chr s i)||qsq (chr s i)
theorem qH0(s:ByteArray)(hs:s.size<=1099511627776)(i:Nat)(hlt:i<s.size):
 qay XV [] qDO ⟨[(0,.d (.str s)),(5,.d (.int .i64 s.size)),(6,.d (.int .i64 i))],[]⟩=some (if qpT s i then(.normal,⟨[(0,.d (.str s)),(5,.d (.int .i64 s.size)),(6,.d (.int .i64 (i+1:Nat)))],[]⟩)else(.ret,⟨[(2,.d (.bool false))],[]⟩)):=by
 have hw:=qai (n:=i) (by omega);have hb:=qih hlt;simp[qDO,qI9,qMD,qMC,qMB,qMA,hb,hlt,hw,qoI,qoJ];cases h1:qjh (chr s i)
 ·simp[hb,qoJ]
  cases h2:qsq (chr s i)<;>simp[hw,qpT,h1,h2]
 ·simp[hw,qpT,h1]
theorem qHN(s:ByteArray)(hs:s.size<=1099511627776):∀(k i:Nat),i+k=s.size->
 qbq XV [] 0 [0,5,6] qDO ⟨[(0,.d (.str s)),(5,.d (.int .i64 s.size)),(6,.d (.int .i64 i))],[]⟩=
  some (if qkh s qpT i k then(.exit 0,⟨[(0,.d (.str s)),(5,.d (.int .i64 s.size)),(6,.d (.int .i64 s.size)),(7,.d (.bool false))],[]⟩)else(.ret,⟨[(2,.d (.bool false))],[]⟩))
 |0,i,hk=>by
  have:i=s.size:=by omega
  subst this;rw[qfa];simp[qad,qab,qDO,qI9,qo9]
 |k+1,i,hk=>by
  have hlt:i<s.size:=by omega
  have ih:=qHN s hs k (i+1) (by omega);rw[qfa,qpa];cases h:qpT s i
  ·simp[qad,qab,qH0 s hs i hlt,h]
  ·rw[Bool.true_and,<-ih]
   simp[qad,qab,qH0 s hs i hlt,h]
def qlX(s:ByteArray):Bool:=qkh s qpT 0 s.size&&(inB s.size 1 8&&qjh (chr s 0))
theorem qp4(s:ByteArray)(hs:s.size<=1099511627776):qac XV 60 [.d (.str s)] []=some (.d (.bool (qlX s)),[]):=by
 rw[qah XV _ _ _ v60 rfl qEs rfl];have h:=qHN s hs s.size 0 (by omega);simp[v60,qMF,qME,qMz];simp at h;rw[h];cases h1:qkh s qpT 0 s.size
 ·simp[qlX,h1]
 ·simp[qlX,h1,ql9]
  cases h2:inB s.size 1 8
  ·simp[h2]
  ·have h3:0<s.size:=by simp[inB]at h2;omega
   simp[h2,qih h3,qoI]
theorem qFN(s:ByteArray)(i:Nat):qFO s i=true↔(97<=chr s i/\chr s i<=122)\/(0<i/\48<=chr s i/\chr s i<=57):=by
 unfold qFO;rw[decide_eq_true_eq];rfl
theorem qB4(s:ByteArray)(i:Nat):qpT s i=true↔(97<=chr s i/\chr s i<=122)\/(48<=chr s i/\chr s i<=57):=by
 simp[qpT,qjh,qsq]
theorem qxf(x:Int):qjh x=true↔97<=x/\x<=122:=by simp[qjh]
theorem qt8(s:ByteArray):qlX s=qhU s:=by
 rw[Bool.eq_iff_iff];simp only[qhU,qlX,Bool.and_eq_true,qDW,qFN,qB4,qxf];constructor
 ·rintro⟨h1,h2,h3⟩
  refine⟨fun j hj hj2=> ?_,h2⟩;have h4:=h1 j hj hj2;rcases Nat.eq_zero_or_pos j with rfl|hp
  ·exact .inl h3
  ·omega
 ·rintro⟨h1,h2⟩
  have h0:0<s.size:=by simp[inB]at h2;omega
  have h5:=h1 0 (Nat.le_refl _) (by omega);refine⟨fun j hj hj2=> ?_,h2,?_⟩
  ·have h4:=h1 j hj hj2
   omega
  ·omega
def qau(q:Nat->Bool):Nat->Nat->Option Nat
 |0,_=>none
 |k+1,i=>if q i then some i else qau q k (i+1)
def qb8(q:Nat->Bool)(_:Unit)(i:Nat):Unit⊕Nat:=if q i then .inr i else .inl ()
theorem qqw(q:Nat->Bool):∀(k i:Nat),runN (qb8 q) k () i=match qau q k i with|some j=> .inr j|none=> .inl ()
 |0,i=>rfl
 |k+1,i=>by
  simp only[runN,qb8,qau];cases h:q i
  ·simp[qqw q k (i+1)]
  ·simp
def qhm:Option Nat->Int
 |some j=>j
 |none=> -1
theorem qci(q:Nat->Bool):∀(k i j:Nat),qau q k i=some j->i<=j/\j<i+k/\q j=true
 |0,i,j,h=>by simp[qau]at h
 |k+1,i,j,h=>by
  simp only[qau]at h;split at h
  ·simp at h;subst h;exact⟨Nat.le_refl _,by omega,by assumption⟩
  ·obtain⟨h1,h2,h3⟩:=qci q k (i+1) j h;exact⟨by omega,by omega,h3⟩
def qe6(l:List SymL)(name:ByteArray):Int:=qhm (qau (fun i=>qga (qax l i).name name) l.length 0)
theorem qqV(l:List SymL)(name:ByteArray)(hl:l.length<=1099511627776):qac XV 13 [.d (sg l),.d (.str name)] []=some (.d (.int .i64 (qe6 l name)),[]):=by
 rw[qah XV _ _ _ v13 rfl qEK rfl];have h:=qal (X:=XV) (T:=[]) (L:=0) (live:=[0,1,5]) (b:=qDR) (n:=l.length) (st:=fun(_:Unit) i=>⟨[(0,.d (sg l)),(1,.d (.str name)),(5,.d (.int .i64 i))],[]⟩) (step:=qb8 fun i=>qga (qax l i).name name)
  (F:=fun _=>(.exit 0,⟨[(0,.d (sg l)),(1,.d (.str name)),(5,.d (.int .i64 l.length)),(9,.d (.bool false))],[]⟩)) (R:=fun(j:Nat)=>(.ret,⟨[(4,.d (.int .i64 j))],[]⟩))
  (fun a=>⟨by simp,by simp[qDR,qxJ,qxI,qxH,qxF,qxE,qxG,qxD]⟩)
  (fun a i hi=>by
   have hw:=qai (n:=i) (by omega);unfold qb8
   by_cases hq:qga (qax l i).name name=true
   ·rw[if_pos hq];exact⟨by simp,by simp[qDR,qxJ,qxI,qxH,qxF,qxE,qxG,qxD,hi,hw,cut,qaq hi,hq]⟩
   ·rw[if_neg hq]
    have hq':qga (qax l i).name name=false:=by simpa using hq
    exact⟨_,by simp[qDR,qxJ,qxI,qxH,qxF,qxE,qxG,qxD,hi,hw,cut,qaq hi,hq'];rfl,by simp[qad,qab]⟩)
  l.length () 0 ⟨[(0,.d (sg l)),(1,.d (.str name)),(5,.d (.int .i64 0))],[]⟩ (by omega) (by simp[qad,qab])
 rw[qqw]at h;simp[v13,qxJ,qxI,qxH,qxF,qxE,qxG,qxD];rw[h];unfold qe6;cases hq:qau (fun i=>qga (qax l i).name name) l.length 0<;>simp[qhm,v13,qxJ,qxI,qxH,qxF,qxE,qxG,qxD]
theorem qp2(l:List SymL)(fk:Nat)(caps:List AV)(B:qao)(P:SymL->Bool)(hl:l.length<=1099511627776)(hs:AV.safe.safes B.length caps=true)(hcc:caps.map AV.clr=caps)(hk:¬0∈XV.lin fk)
 (hf:∀s,s∈l->qac XV fk (.d s.enc::caps) B=some (.d (.bool (P s)),B)):
 qac XV 19 [.d (sg l),.fn fk caps] B=some (.d (.int .i64 (qhm (qau (fun i=>P (qax l i)) l.length 0))),B):=by
 rw[qah XV _ _ _ v19 rfl qEE rfl];have h:=qal (X:=XV) (T:=XV.lin 19) (L:=B.length) (live:=[0,1,7,8]) (b:=qDQ) (n:=l.length) (st:=fun(_:Unit) i=>⟨[(0,.d (sg l)),(1,.fn fk caps),(7,.d (.int .i64 l.length)),(8,.d (.int .i64 i))],B⟩) (step:=qb8 fun i=>P (qax l i))
  (F:=fun _=>(.exit 0,⟨[(0,.d (sg l)),(1,.fn fk caps),(7,.d (.int .i64 l.length)),(8,.d (.int .i64 l.length)),(9,.d (.bool false))],B⟩)) (R:=fun(j:Nat)=>(.ret,⟨[(4,.d (.int .i64 j))],B⟩))
  (fun a=>⟨by simp,by simp[qDQ,qxC,qxB,qxA,qxz,qxy,qxx,qxw,qxv,hcc]⟩)
  (fun a i hi=>by
   have hw:=qai (n:=i) (by omega);have hc:=hf _ (qqR hi);unfold qb8
   by_cases hq:P (qax l i)=true
   ·rw[if_pos hq];rw[hq]at hc
    exact⟨by simp,by simp[qDQ,qxC,qxB,qxA,qxz,qxy,qxx,qxw,qxv,hi,hw,cut,qaq hi,hc,hcc,hk]⟩
   ·rw[if_neg hq]
    have hq':P (qax l i)=false:=by simpa using hq
    rw[hq']at hc;exact⟨_,by simp[qDQ,qxC,qxB,qxA,qxz,qxy,qxx,qxw,qxv,hi,hw,cut,qaq hi,hc,hcc,hk];rfl,by simp[qad,qab,hs]⟩)
  l.length () 0 ⟨[(0,.d (sg l)),(1,.fn fk caps),(7,.d (.int .i64 l.length)),(8,.d (.int .i64 0))],B⟩ (by omega) (by simp[qad,qab,hs])
 rw[qqw]at h;simp only[qOy]at h;simp[v19,qxC,qxB,qxA,qxz,qxy,qxx,qxw,qxv,hcc];rw[h];cases hq:qau (fun i=>P (qax l i)) l.length 0<;>simp[qhm,v19,qxC,qxB,qxA,qxz,qxy,qxx,qxw,qxv]
theorem qAj(s:SymL)(name:ByteArray):qac XV 18 [.d s.enc,.ptr 0 0] [some [.d (.str name)]]=some (.d (.bool (qga s.name name)),[some [.d (.str name)]]):=by
 rw[qah XV _ _ _ v18 rfl qEF rfl];simp[v18,qNi,qNh]
theorem qr7(l:List SymL)(name:ByteArray)(hl:l.length<=1099511627776):qac XV 14 [.d (sg l),.d (.str name)] []=some (.d (.int .i64 (qe6 l name)),[]):=by
 rw[qah XV _ _ _ v14 rfl qEJ rfl];have hc:=qp2 l 18 [.ptr 0 0] [some [.d (.str name)]] (fun s=>qga s.name name) hl (by simp) (by simp) (by simp) (fun s _=>qAj s name);simp[v14,qNq,qNp,hc,qe6]
def qfg(l:List SymL)(s:SymL)(i:Nat):Bool:= !qhU s.name|| !(decide (qe6 l s.name=i))|| !(inB s.arity 0 3)||(s.ac&& !decide (s.arity=2))
def ttB(s:SymL):Bool:=qga s.name ⟨#[116,116]⟩&&decide (s.arity=0)
def qkH(l:List SymL):Bool:=(qau (fun i=>qfg l (qax l i) i) l.length 0).isNone&&(inB l.length 1 8&&ttB (qax l 0))
theorem qAl(w:Nat->Nat):∀(k i j:Nat),i<=j->j<i+k->w j<=qyW w i k
 |0,i,j,h,h'=>by omega
 |k+1,i,j,h,h'=>by
  simp only[qyW];rcases Nat.eq_or_lt_of_le h with rfl|h
  ·omega
  ·have:=qAl w k (i+1) j h (by omega);omega
theorem qJy(l:List SymL)(i:Nat)(hi:i<l.length):(qax l i).name.size<=qd5 l:=by
 have:=qAl (fun i=>(qax l i).name.size) l.length 0 i (Nat.zero_le _) (by omega);unfold qd5;omega
theorem qei(l:List SymL)(s:SymL)(i:Nat):qfg l s i=false↔qhU s.name=true/\qe6 l s.name=i/\inB s.arity 0 3=true/\(s.ac=true->s.arity=2):=by
 simp[qfg,and_assoc]
theorem qPn(l:List SymL)(hl:l.length<=1099511627776)(i:Nat)(hi:i<l.length)(hn:(qax l i).name.size<=1099511627776):
 qIA 0 [0,5,6,7] (fun(_:Unit) i=>⟨[(0,.d (sg l)),(5,.d (sg l)),(6,.d (.int .i64 l.length)),(7,.d (.int .i64 i))],[]⟩) (fun(_:Nat)=>(.ret,⟨[(2,.d (.bool false))],[some [.d (.str (qax l i).name),.d (.int .i64 (qax l i).arity),.d (.bool (qax l i).ac)]]⟩)) i
  (qay XV (XV.lin 77) qmT ⟨[(0,.d (sg l)),(5,.d (sg l)),(6,.d (.int .i64 l.length)),(7,.d (.int .i64 i))],[]⟩) (qb8 (fun i=>qfg l (qax l i) i) () i):=by
 have hw:=qai (n:=i) (by omega);have n1:=qp4 (qax l i).name hn;rw[qt8]at n1;have n2:=qr7 l (qax l i).name hl;have n3:=ql9 (qax l i).arity 0 3;unfold qb8
 by_cases hb:qfg l (qax l i) i=true
 ·rw[if_pos hb]
  refine⟨by simp,?_⟩;cases c1:qhU (qax l i).name with
  |false=>rw[c1]at n1;simp[qmT,qiM,qiL,qiK,qiJ,qiI,qiH,qiG,qiF,hi,hw,cut,qaq hi,n1,splice]
  |true=>
   rw[c1]at n1
   by_cases c2:qe6 l (qax l i).name=i
   ·have b2:(qe6 l (qax l i).name !=i)=false:=by simp[c2]
    cases c3:inB (qax l i).arity 0 3 with
    |false=>rw[c3]at n3;simp[qmT,qiM,qiL,qiK,qiJ,qiI,qiH,qiG,qiF,hi,hw,cut,qaq hi,n1,n2,b2,n3,splice]
    |true=>
     rw[c3]at n3;have c4:(qax l i).ac=true/\¬(qax l i).arity=2:=by
      have:¬qfg l (qax l i) i=false:=by simp[hb]
      rw[qei]at this;simp only[c1,c2,c3,true_and]at this;exact Classical.not_imp.1 this
     have b4:((qax l i).arity !=2)=true:=by simp[c4.2]
     simp[qmT,qiM,qiL,qiK,qiJ,qiI,qiH,qiG,qiF,hi,hw,cut,qaq hi,n1,n2,b2,n3,splice,c4.1,b4]
   ·have b2:(qe6 l (qax l i).name !=i)=true:=by simp[c2]
    simp[qmT,qiM,qiL,qiK,qiJ,qiI,qiH,qiG,qiF,hi,hw,cut,qaq hi,n1,n2,b2,splice]
 ·have hb':qfg l (qax l i) i=false:=by simpa using hb
  rw[if_neg hb];obtain⟨c1,c2,c3,c4⟩:=(qei l _ i).1 hb';have b2:(qe6 l (qax l i).name !=i)=false:=by simp[c2]
  rw[c1]at n1;rw[c3]at n3
  cases c5:(qax l i).ac with
  |false=>exact⟨_,by simp[qmT,qiM,qiL,qiK,qiJ,qiI,qiH,qiG,qiF,hi,hw,cut,qaq hi,n1,n2,b2,n3,splice,c5];rfl,by simp[qad,qab]⟩
  |true=>
   have b4:((qax l i).arity !=2)=false:=by simp[c4 c5]
   exact⟨_,by simp[qmT,qiM,qiL,qiK,qiJ,qiI,qiH,qiG,qiF,hi,hw,cut,qaq hi,n1,n2,b2,n3,splice,c5,b4];rfl,by simp[qad,qab]⟩
theorem qr8(l:List SymL)(hl:l.length<=1099511627776)(hn:∀i,i<l.length->(qax l i).name.size<=1099511627776):qac XV 77 [.d (sg l)] []=some (.d (.bool (qkH l)),[]):=by
 rw[qah XV _ _ _ v77 rfl qEn rfl];have h:=qal (X:=XV) (T:=XV.lin 77) (L:=0) (live:=[0,5,6,7]) (b:=qmT) (n:=l.length) (γ:=Nat) (st:=fun(_:Unit) i=>⟨[(0,.d (sg l)),(5,.d (sg l)),(6,.d (.int .i64 l.length)),(7,.d (.int .i64 i))],[]⟩) (step:=qb8 fun i=>qfg l (qax l i) i)
  (F:=fun _=>(.exit 0,⟨[(0,.d (sg l)),(5,.d (sg l)),(6,.d (.int .i64 l.length)),(7,.d (.int .i64 l.length)),(8,.d (.bool false))],[]⟩)) (R:=fun j=>(.ret,⟨[(2,.d (.bool false))],[some [.d (.str (qax l j).name),.d (.int .i64 (qax l j).arity),.d (.bool (qax l j).ac)]]⟩))
  (fun a=>⟨by simp,by simp[qmT,qiM,qiL,qiK,qiJ,qiI,qiH,qiG,qiF]⟩)
  (fun a i hi=>by
   have hb:=qPn l hl i hi (hn i hi);unfold qb8 at hb⊢
   split at hb
   ·rename_i h1;rw[if_pos h1];exact hb
   ·rename_i h1;rw[if_neg h1];exact hb)
  l.length () 0 ⟨[(0,.d (sg l)),(5,.d (sg l)),(6,.d (.int .i64 l.length)),(7,.d (.int .i64 0))],[]⟩ (by omega) (by simp[qad,qab])
 rw[qqw]at h;simp only[qOw]at h;simp[v77,qiM,qiL,qiK,qiJ,qiI,qiH,qiG,qiF];rw[h];unfold qkH;cases hq:qau (fun i=>qfg l (qax l i) i) l.length 0 with
 |some j=>simp
 |none=>
  have n3:=ql9 l.length 1 8;cases c1:inB l.length 1 8 with
  |false=>rw[c1]at n3;simp[v77,qiM,qiL,qiK,qiJ,qiI,qiH,qiG,qiF,n3]
  |true=>
   rw[c1]at n3;have h0:0<l.length:=by simp[inB]at c1;omega
   unfold ttB;cases c2:qga (qax l 0).name ⟨#[116,116]⟩with
   |false=>simp[v77,qiM,qiL,qiK,qiJ,qiI,qiH,qiG,qiF,n3,h0,qaq h0,cut,c2]
   |true=>
    by_cases c3:(qax l 0).arity=0
    ·simp[v77,qiM,qiL,qiK,qiJ,qiI,qiH,qiG,qiF,n3,h0,qaq h0,cut,c2,c3]
    ·have b3:((qax l 0).arity==0)=false:=by simp[c3]
     simp[v77,qiM,qiL,qiK,qiJ,qiI,qiH,qiG,qiF,n3,h0,qaq h0,cut,c2,c3,b3]
theorem qqW(l:List SymL)(hl:l.length<=1099511627776)(hn:∀i,i<l.length->(qax l i).name.size<=1099511627776):qac XV 82 [.d (sg l)] []=some (.d (.bool (qkH l)),[]):=by
 rw[qah XV _ _ _ v82 rfl qEj rfl];have h:=qal (X:=XV) (T:=XV.lin 82) (L:=0) (live:=[0,3]) (b:=qql) (n:=l.length) (γ:=Nat) (st:=fun(_:Unit) i=>⟨[(0,.d (sg l)),(3,.d (.int .i64 i))],[]⟩) (step:=qb8 fun i=>qfg l (qax l i) i)
  (F:=fun _=>(.exit 0,⟨[(0,.d (sg l)),(3,.d (.int .i64 l.length)),(7,.d (.bool false))],[]⟩)) (R:=fun j=>(.ret,⟨[(2,.d (.bool false))],[]⟩))
  (fun a=>⟨by simp,by simp[qql,qkW,qkV,qkU,qkS,qkR,qkT,qkQ]⟩)
  (fun a i hi=>by
   have hw:=qai (n:=i) (by omega);have n1:=qpn (qax l i).name (hn i hi);have n2:=qqV l (qax l i).name hl;have n3:=qhp (qax l i).arity 0 3;unfold qb8
   by_cases hb:qfg l (qax l i) i=true
   ·rw[if_pos hb]
    refine⟨by simp,?_⟩;cases c1:qhU (qax l i).name with
    |false=>rw[c1]at n1;simp[qql,qkW,qkV,qkU,qkS,qkR,qkT,qkQ,hi,hw,cut,qaq hi,n1,splice]
    |true=>
     rw[c1]at n1
     by_cases c2:qe6 l (qax l i).name=i
     ·have b2:(qe6 l (qax l i).name !=i)=false:=by simp[c2]
      cases c3:inB (qax l i).arity 0 3 with
      |false=>rw[c3]at n3;simp[qql,qkW,qkV,qkU,qkS,qkR,qkT,qkQ,hi,hw,cut,qaq hi,n1,n2,b2,n3,splice]
      |true=>
       rw[c3]at n3;have c4:(qax l i).ac=true/\¬(qax l i).arity=2:=by
        have:¬qfg l (qax l i) i=false:=by simp[hb]
        rw[qei]at this;simp only[c1,c2,c3,true_and]at this;exact Classical.not_imp.1 this
       have b4:((qax l i).arity !=2)=true:=by simp[c4.2]
       simp[qql,qkW,qkV,qkU,qkS,qkR,qkT,qkQ,hi,hw,cut,qaq hi,n1,n2,b2,n3,splice,c4.1,b4]
     ·have b2:(qe6 l (qax l i).name !=i)=true:=by simp[c2]
      simp[qql,qkW,qkV,qkU,qkS,qkR,qkT,qkQ,hi,hw,cut,qaq hi,n1,n2,b2,splice]
   ·have hb':qfg l (qax l i) i=false:=by simpa using hb
    rw[if_neg hb];obtain⟨c1,c2,c3,c4⟩:=(qei l _ i).1 hb';have b2:(qe6 l (qax l i).name !=i)=false:=by simp[c2]
    rw[c1]at n1;rw[c3]at n3
    cases c5:(qax l i).ac with
    |false=>exact⟨_,by simp[qql,qkW,qkV,qkU,qkS,qkR,qkT,qkQ,hi,hw,cut,qaq hi,n1,n2,b2,n3,splice,c5];rfl,by simp[qad,qab]⟩
    |true=>
     have b4:((qax l i).arity !=2)=false:=by simp[c4 c5]
     exact⟨_,by simp[qql,qkW,qkV,qkU,qkS,qkR,qkT,qkQ,hi,hw,cut,qaq hi,n1,n2,b2,n3,splice,c5,b4];rfl,by simp[qad,qab]⟩)
  l.length () 0 ⟨[(0,.d (sg l)),(3,.d (.int .i64 0))],[]⟩ (by omega) (by simp[qad,qab])
 rw[qqw]at h;simp only[qOv]at h;simp[v82,qkW,qkV,qkU,qkS,qkR,qkT,qkQ];rw[h];unfold qkH;cases hq:qau (fun i=>qfg l (qax l i) i) l.length 0 with
 |some j=>simp
 |none=>
  have n3:=qhp l.length 1 8;cases c1:inB l.length 1 8 with
  |false=>rw[c1]at n3;simp[v82,qkW,qkV,qkU,qkS,qkR,qkT,qkQ,n3]
  |true=>
   rw[c1]at n3;have h0:0<l.length:=by simp[inB]at c1;omega
   have hnone:∀(q:Nat->Bool) (k i j:Nat),qau q k i=none->i<=j->j<i+k->q j=false:=by
    intro q k
    induction k with
    |zero=>intro i j _ h1 h2;omega
    |succ k ih=>
     intro i j hf h1 h2;simp only[qau]at hf;split at hf
     ·simp at hf
     ·rcases Nat.eq_or_lt_of_le h1 with rfl|h1
      ·simpa using ‹¬q i=true›
      ·exact ih (i+1) j hf h1 (by omega)
   have hb0:=hnone _ _ _ 0 hq (Nat.le_refl _) (by omega);obtain⟨_,_,_,c4⟩:=(qei l (qax l 0) 0).1 hb0;have key:qbl [2,0,1] [.str (qax l 0).name,.int .i64 (qax l 0).arity,.bool (qax l 0).ac] [.str ⟨#[116,116]⟩,.int .i64 0,.bool false]=some (ttB (qax l 0)):=by
    unfold ttB;cases c2:qga (qax l 0).name ⟨#[116,116]⟩<;>by_cases c3:(qax l 0).arity=0<;>cases c5:(qax l 0).ac<;>simp[qbl,c2,c3,c5]
    have:=c4 c5;omega
   have key2:∀s s':SymL,qC6 false [2,0,1] (some (.d s.enc)) (some (.d s'.enc))=(qbl [2,0,1] [.str s.name,.int .i64 s.arity,.bool s.ac] [.str s'.name,.int .i64 s'.arity,.bool s'.ac]).map fun e=> .d (.bool e):=fun s s'=>by
    show(qbl [2,0,1] s.cells s'.cells).map _=_;simp[SymL.cells]
   simp[v82,qkW,qkV,qkU,qkS,qkR,qkT,qkQ,n3,h0,qaq h0,cut,key2,key,splice]
mutual
def T.fold{σ:Type}(e:T->σ->σ):T->σ->σ
 | .node f v ks,s=>T.folds e ks (e (.node f v ks) s)
def T.folds{σ:Type}(e:T->σ->σ):List T->σ->σ
 | [],s=>s
 |t::r,s=>T.folds e r (T.fold e t s)
end
theorem qaS{α:Type}(B:List α)(x v:α)(r:List α):(B++x::r).set B.length v=B++v::r:=by simp
theorem get_at{α:Type}(B:List α)(x:α)(r:List α):(B++x::r)[B.length]?=some x:=by simp
theorem qbg{α:Type}(B:List α)(x y v:α)(r:List α):(B++x::y::r).set (B.length+1) v=B++x::v::r:=by
 rw[List.set_append_right _ _ (by omega),show B.length+1-B.length=1 by omega];rfl
theorem qbb{α:Type}(B:List α)(x y:α)(r:List α):(B++x::y::r)[B.length+1]?=some y:=by
 rw[yd_ (by omega),show B.length+1-B.length=1 by omega];rfl
theorem take_at{α:Type}(B r:List α):(B++r).take B.length=B:=by simp
theorem qfW{L:Nat}{live:List Nat}{s:XS}{r':List (Nat×AV)}{B e:qao}(h:keep s.r live=r')(hs:qab L r'=true)(hl:B.length=L)(he:s.B=B++e):qad L live s=some ⟨r',B⟩:=by
 unfold qad;rw[h,he,if_pos ⟨hs,by simp;omega⟩,<-hl,take_at]
def qE5{σ:Type}(e:T->σ->σ)(l:List T)(s:σ)(i:Nat):σ⊕Unit:= .inl (T.fold e (tAt l i) s)
theorem qSg{σ:Type}(e:T->σ->σ)(l:List T):∀(k i:Nat) (s:σ),i+k=l.length->runN (qE5 e l) k s i= .inl (T.folds e (l.drop i) s)
 |0,i,s,h=>by
  have h1:l.drop i=[]:=List.drop_eq_nil_of_le (by omega);simp[runN,h1,T.folds]
 |k+1,i,s,h=>by
  have hlt:i<l.length:=by omega
  rw[List.drop_eq_getElem_cons hlt,qan hlt];simp only[runN,qE5,T.folds];exact qSg e l k (i+1) _ (by omega)
theorem qKs{σ:Type}(st:σ->qao)(e:T->σ->σ)(k:Nat)(caps:List AV)(m:Nat)(hm:∀s,(st s).length=m)(hcs:∀n,m<=n->AV.safe.safes n caps=true)(hcc:caps.map AV.clr=caps)(hk:¬0∈XV.lin k)
 (f v:Int) (ks:List T) (hl:ks.length<=1099511627776)
 (hf:∀(x:T) (s:σ) (r:qao),qac XV k (.d (x.enc .sub)::caps) (st s++r)=some (.d (.tup []),st (e x s)++r))
 (hrec:∀x,x∈ks->∀(s:σ) (r:qao),qac XV 25 [.d (x.enc .sub),.fn k caps] (st s++r)=some (.d (.tup []),st (T.fold e x s)++r)) (s:σ) (r:qao):
 qac XV 25 [.d ((T.node f v ks).enc .sub),.fn k caps] (st s++r)=some (.d (.tup []),st (T.fold e (.node f v ks) s)++r):=by
 rw[qah XV _ _ _ v25 rfl qEz rfl];have hf1:=hf (.node f v ks) s (r++[some [.d (.int .i64 f),.d (.int .i64 v),.d (qaa .sub ks)]]);have len:∀s,(st s++r).length=m+r.length:=fun s=>by simp[hm]
 have hloop:=qal (X:=XV) (T:=XV.lin 25) (L:=m+r.length+1) (live:=[1,10,11,12]) (b:=qGM) (n:=ks.length) (γ:=Unit) (st:=fun(s:σ) i=>⟨[(1,.fn k caps),(10,.d (qaa .sub ks)),(11,.d (.int .i64 ks.length)),(12,.d (.int .i64 i))],(st s++r)++[some [.d (.int .i64 f),.d (.int .i64 v),.d (qaa .sub ks)]]⟩) (step:=qE5 e ks)
  (F:=fun s=>(.exit 0,⟨[(1,.fn k caps),(10,.d (qaa .sub ks)),(11,.d (.int .i64 ks.length)),(12,.d (.int .i64 ks.length)),(13,.d (.bool false))],(st s++r)++[some [.d (.int .i64 f),.d (.int .i64 v),.d (qaa .sub ks)]]⟩)) (R:=fun _=>(.ret,⟨[],[]⟩))
  (fun s=>⟨by simp,by simp[qGM,qJj,hcc]⟩)
  (fun s i hi=>by
   have hw:=qai (n:=i) (by omega);have hr:=hrec _ (qav hi) s (r++[some [.d (.int .i64 f),.d (.int .i64 v),.d (qaa .sub ks)],some [.d (.int .i64 (tAt ks i).f),.d (.int .i64 (tAt ks i).v),.d (qaa .sub (tAt ks i).kids)]]);have hln:=len s;have hln2:=len (T.fold e (tAt ks i) s);simp only[<-yh_]at hr;generalize hB:st s++r=B at hr hln;generalize hB':st (T.fold e (tAt ks i) s)++r=B' at hr hln2;unfold qE5;refine⟨⟨[(1,.fn k caps),(10,.d (qaa .sub ks)),(11,.d (.int .i64 ks.length)),(12,.d (.int .i64 (i+1:Nat)))],B'++[some [.d (.int .i64 f),.d (.int .i64 v),.d (qaa .sub ks)],some [.d (.int .i64 (tAt ks i).f),.d (.int .i64 (tAt ks i).v),.d (qaa .sub (tAt ks i).kids)]]⟩,?_,?_⟩
   ·simp[qGM,qJj,qMT,qMS,qMR,hi,hw,cut,qan hi,hcc,hr,qaS,get_at,qbg,qbb,splice]
   ·refine qfW (e:=[some [.d (.int .i64 (tAt ks i).f),.d (.int .i64 (tAt ks i).v),.d (qaa .sub (tAt ks i).kids)]]) (by simp) (by simp[qab,hcs _ (show m<=m+r.length+1 by omega)]) (by simp[hln2,hB']) (by simp[<-hB']))
  ks.length (e (.node f v ks) s) 0 ⟨[(1,.fn k caps),(10,.d (qaa .sub ks)),(11,.d (.int .i64 ks.length)),(12,.d (.int .i64 0))],(st (e (.node f v ks) s)++r)++[some [.d (.int .i64 f),.d (.int .i64 v),.d (qaa .sub ks)]]⟩ (by omega) (qfW (e:=[]) (by simp) (by simp[qab,hcs _ (show m<=m+r.length+1 by omega)]) (by simp[hm];omega) (by simp))
 rw[qSg e ks _ _ _ (by omega)]at hloop;simp only[List.drop_zero]at hloop;have hl0:=len s;have hl1:=len (e (.node f v ks) s);have hl2:(st (T.fold e (.node f v ks) s)++r).length=m+r.length:=len _;have hfin:T.folds e ks (e (.node f v ks) s)=T.fold e (.node f v ks) s:=by simp[T.fold]
 rw[hfin]at hloop;simp only[<-yh_]at hf1;generalize hB0:st s++r=B0 at hf1 hl0;generalize hB1:st (e (.node f v ks) s)++r=B1 at hf1 hl1 hloop;generalize hB2:st (T.fold e (.node f v ks) s)++r=B2 at hl2 hloop;have hlen:B1.length=B0.length:=by omega
 rw[<-hl1]at hloop;simp only[qaa,qOx]at hf1 hloop;simp[v25,qMW,qMV,qMU,qaS,get_at,hf1,hcc,hk,hlen.symm];rw[hloop];simp[show B1.length=B2.length by omega]
theorem quy{σ:Type}(st:σ->qao)(e:T->σ->σ)(k:Nat)(caps:List AV)(m:Nat)(hm:∀s,(st s).length=m)(hcs:∀n,m<=n->AV.safe.safes n caps=true)(hcc:caps.map AV.clr=caps)(hk:¬0∈XV.lin k)
 (hf:∀(x:T) (s:σ) (r:qao),qac XV k (.d (x.enc .sub)::caps) (st s++r)=some (.d (.tup []),st (e x s)++r)) (t:T) (ht:t.inner<=1099511627776) (s:σ) (r:qao):
 qac XV 25 [.d (t.enc .sub),.fn k caps] (st s++r)=some (.d (.tup []),st (T.fold e t s)++r):=by
 match t,ht with
 | .node f v ks,ht=>
  simp only[T.inner]at ht;exact qKs st e k caps m hm hcs hcc hk f v ks (by omega) hf (fun x hx s r=>quy st e k caps m hm hcs hcc hk hf x (by have:=T.qaA hx;omega) s r) s r
termination_by t
decreasing_by
 simp_wf
 have:=List.sizeOf_lt_of_mem hx;omega
theorem wrap_add(a b:Int):IntKind.i64.wrap (IntKind.i64.wrap a+b)=IntKind.i64.wrap (a+b):=by
 show(if(true&&decide (((if(true&&decide (a%18446744073709551616>=9223372036854775808))=true then a%18446744073709551616-18446744073709551616 else a%18446744073709551616)+b)%18446744073709551616>=9223372036854775808))=true then((if(true&&decide (a%18446744073709551616>=9223372036854775808))=true then a%18446744073709551616-18446744073709551616 else a%18446744073709551616)+b)%18446744073709551616-18446744073709551616 else((if(true&&decide (a%18446744073709551616>=9223372036854775808))=true then a%18446744073709551616-18446744073709551616 else a%18446744073709551616)+b)%18446744073709551616)=(if(true&&decide ((a+b)%18446744073709551616>=9223372036854775808))=true then(a+b)%18446744073709551616-18446744073709551616 else(a+b)%18446744073709551616);simp only[Bool.true_and,decide_eq_true_eq];have:((if a%18446744073709551616>=9223372036854775808 then a%18446744073709551616-18446744073709551616 else a%18446744073709551616)+b)%18446744073709551616=(a+b)%18446744073709551616:=by
  split<;>omega
 rw[this]
theorem qz9(a b:Int):IntKind.i64.wrap (a+IntKind.i64.wrap b)=IntKind.i64.wrap (a+b):=by
 rw[Int.add_comm,wrap_add,Int.add_comm]
mutual
def T.sum(w:T->Int):T->Int
 | .node f v ks=>w (.node f v ks)+T.sums w ks
def T.sums(w:T->Int):List T->Int
 | []=>0
 |t::r=>T.sum w t+T.sums w r
end
def qLf(w:T->Int)(x:T)(n:Int):Int:=IntKind.i64.wrap (n+w x)
mutual
theorem qwe(w:T->Int):∀(t:T) (n:Int),T.fold (qLf w) t (IntKind.i64.wrap n)=IntKind.i64.wrap (n+T.sum w t)
 | .node f v ks,n=>by
  simp only[T.fold,T.sum,qLf];rw[wrap_add,qsf w ks,Int.add_assoc]
theorem qsf(w:T->Int):∀(l:List T) (n:Int),T.folds (qLf w) l (IntKind.i64.wrap n)=IntKind.i64.wrap (n+T.sums w l)
 | [],n=>by simp[T.folds,T.sums]
 |t::r,n=>by
  simp only[T.folds,T.sums];rw[qwe w t,qsf w r,Int.add_assoc]
end
def qIQ(c:T->Int)(l:List T)(n:Int)(i:Nat):Int⊕Unit:= .inl (IntKind.i64.wrap (n+c (tAt l i)))
theorem qSh(w:T->Int)(l:List T):∀(k i:Nat) (n:Int),i+k=l.length->runN (qIQ (fun t=>IntKind.i64.wrap (T.sum w t)) l) k (IntKind.i64.wrap n) i= .inl (IntKind.i64.wrap (n+T.sums w (l.drop i)))
 |0,i,n,h=>by
  have h1:l.drop i=[]:=List.drop_eq_nil_of_le (by omega);simp[runN,h1,T.sums]
 |k+1,i,n,h=>by
  have hlt:i<l.length:=by omega
  rw[List.drop_eq_getElem_cons hlt,qan hlt];simp only[runN,qIQ,T.sums];rw[qz9,wrap_add,qSh w l k (i+1) _ (by omega),Int.add_assoc]
theorem qr9(t:T)(ht:t.inner<=1099511627776):qac XV 23 [.d (t.enc .sub)] []=some (.d (.int .i64 (IntKind.i64.wrap (T.sum (fun _=>1) t))),[]):=by
 rw[qah XV _ _ _ v23 rfl qEB rfl];have key:∀(n:Int),qac XV 25 [.d (t.enc .sub),.fn 24 [.ptr 1 0]] ([some [.d (.int .i64 t.f),.d (.int .i64 t.v),.d (qaa .sub t.kids)],some [.d (.int .i64 n)]]++[])=some (.d (.tup []),[some [.d (.int .i64 t.f),.d (.int .i64 t.v),.d (qaa .sub t.kids)],some [.d (.int .i64 (T.fold (qLf fun _=>1) t n))]]++[]):=fun n=>
  quy (fun n:Int=>[some [.d (.int .i64 t.f),.d (.int .i64 t.v),.d (qaa .sub t.kids)],some [.d (.int .i64 n)]]) (qLf fun _=>1) 24 [.ptr 1 0] 2 (fun _=>rfl) (fun n hn=>by simp;omega) rfl (by simp) (fun x s r=>by
   rw[qah XV _ _ _ v24 rfl qEA rfl];simp[v24,qMY,qMX,splice,qLf]) t ht n []
 have k0:=key 0;have h0:=qwe (fun _=>1) t 0;rw[show IntKind.i64.wrap 0=0 from rfl,Int.zero_add]at h0;rw[h0]at k0;simp only[List.append_nil,qaa]at k0;simp[v23,qM2,qM1,qM0,qMZ,splice,k0]
theorem qqX(f v:Int)(ks:List T)(hl:ks.length<=1099511627776)(hrec:∀s,s∈ks->qac XV 22 [.d (s.enc .sub)] []=some (.d (.int .i64 (IntKind.i64.wrap (T.sum (fun _=>1) s))),[])):
 qac XV 22 [.d ((T.node f v ks).enc .sub)] []=some (.d (.int .i64 (IntKind.i64.wrap (T.sum (fun _=>1) (.node f v ks)))),[]):=by
 rw[qah XV _ _ _ v22 rfl qEC rfl];have h:=qal (X:=XV) (T:=[]) (L:=1) (live:=[1,3,4]) (b:=qGN) (n:=ks.length) (γ:=Unit) (st:=fun(n:Int) i=>⟨[(1,.ptr 0 0),(3,.d (.int .i64 n)),(4,.d (.int .i64 i))],[some [.d (.int .i64 f),.d (.int .i64 v),.d (qaa .sub ks)]]⟩) (step:=qIQ (fun t=>IntKind.i64.wrap (T.sum (fun _=>1) t)) ks)
  (F:=fun n=>(.exit 0,⟨[(1,.ptr 0 0),(3,.d (.int .i64 n)),(4,.d (.int .i64 ks.length)),(9,.d (.bool false))],[some [.d (.int .i64 f),.d (.int .i64 v),.d (qaa .sub ks)]]⟩)) (R:=fun r=>(.ret,⟨[],[]⟩))
  (fun _=>⟨by simp,by simp[qGN,qJk]⟩)
  (fun n i hi=>by
   have hw:=qai (n:=i) (by omega);have hc:=hrec _ (qav hi);exact⟨_,by simp[qGN,qJk,qM5,qM4,hi,hw,cut,qan hi,hc];rfl,by simp[qad,qab]⟩)
  ks.length (IntKind.i64.wrap 1) 0 ⟨[(1,.ptr 0 0),(3,.d (.int .i64 1)),(4,.d (.int .i64 0))],[some [.d (.int .i64 f),.d (.int .i64 v),.d (qaa .sub ks)]]⟩ (by omega) (by simp[qad,qab,show IntKind.i64.wrap 1=1 from rfl])
 rw[qSh _ _ _ _ _ (by omega)]at h;simp only[List.drop_zero,qaa]at h;have hs:T.sum (fun _=>1) (T.node f v ks)=1+T.sums (fun _=>1) ks:=by simp[T.sum]
 simp[v22,qM8,qM7,qM6,hs];rw[h];simp[qM3]
theorem qjg(t:T)(ht:t.inner<=1099511627776):qac XV 22 [.d (t.enc .sub)] []=some (.d (.int .i64 (IntKind.i64.wrap (T.sum (fun _=>1) t))),[]):=by
 match t,ht with
 | .node f v ks,ht=>
  simp only[T.inner]at ht;exact qqX f v ks (by omega) (fun s hs=>qjg s (by have:=T.qaA hs;omega))
termination_by t
decreasing_by
 simp_wf
 have:=List.sizeOf_lt_of_mem hs;omega
theorem qd7(t:T):qac XV 75 [.d (t.enc .sub)] []=some (.d (.bool (t.f== -1)),[]):=by
 rw[qah XV _ _ _ v75 rfl qEo rfl];simp[v75,qMs,qMr]
def qa0(f v:Int)(ks:List T):qao:=[some [.d (.int .i64 f),.d (.int .i64 v),.d (qaa .sub ks)]]
theorem qp5(a b:T)(ha:a.inner<=1099511627776)(hb:b.inner<=1099511627776):qac XV 79 [.d (a.enc .sub),.d (b.enc .sub)] []=some (.d (.bool (decide (T.cmp a b<0))),[]):=by
 rw[qah XV _ _ _ v79 rfl qEl rfl];have h:=qgZ a b ha hb;simp[v79,qMp,qMo,h]
theorem qpo(f v:Int)(ks:List T)(f' v':Int)(ks':List T)(hl:ks.length<=1099511627776)(hl':ks'.length<=1099511627776)
 (hsame:∀s s',s∈ks->s'∈ks'->qac XV 3 [.d (s.enc .sub),.d (s'.enc .sub)] []=some (.d (.bool (T.cmp s s'==0)),[]))
 (hrec:∀s s',s∈ks->s'∈ks'->qac XV 84 [.d (s.enc .sub),.d (s'.enc .sub)] []=some (.d (.bool (decide (T.cmp s s'<0))),[])):
 qac XV 84 [.d ((T.node f v ks).enc .sub),.d ((T.node f' v' ks').enc .sub)] []=some (.d (.bool (decide (T.cmp (.node f v ks) (.node f' v' ks')<0))),[]):=by
 rw[qah XV _ _ _ v84 rfl qEh rfl];rw[qkt]
 by_cases c1:f=f'
 case neg=>
  have b1:(f !=f')=true:=by simp[c1]
  have e:decide (qsv f f' v v' ks.length ks'.length (T.cmps ks ks')<0)=decide (f<f'):=by
   unfold qsv;by_cases h1:f<f'
   ·simp[h1]
   ·have h2:f>f':=by omega
    simp[h1,h2]
  rw[e];simp[v84,qpD,qpC,qpB,qpA,qpz,qpy,qpx,qpw,qpv,qj2,qj1,qpu,qhN,b1]
 subst c1
 by_cases c2:v=v'
 case neg=>
  have b2:(v !=v')=true:=by simp[c2]
  have e:decide (qsv f f v v' ks.length ks'.length (T.cmps ks ks')<0)=decide (v<v'):=by
   unfold qsv;by_cases h1:v<v'
   ·simp[h1]
   ·have h2:v>v':=by omega
    simp[h1,h2]
  rw[e];simp[v84,qpD,qpC,qpB,qpA,qpz,qpy,qpx,qpw,qpv,qj2,qj1,qpu,qhN,b2]
 subst c2
 by_cases c3:ks.length=ks'.length
 case neg=>
  have b3:((ks.length:Int) !=ks'.length)=true:=by simp;omega
  have e:decide (qsv f f v v ks.length ks'.length (T.cmps ks ks')<0)=decide (ks.length<ks'.length):=by
   unfold qsv;by_cases h1:ks.length<ks'.length
   ·simp[h1]
   ·have h2:ks'.length<ks.length:=by omega
    simp[h1,h2]
  rw[e];simp[v84,qpD,qpC,qpB,qpA,qpz,qpy,qpx,qpw,qpv,qj2,qj1,qpu,qhN,b3]
 have hcp:qsv f f v v ks.length ks'.length (T.cmps ks ks')=T.cmps ks ks':=by simp[qsv,c3]
 rw[hcp];have h:=qal (X:=XV) (T:=[]) (L:=2) (live:=[2,3,5]) (b:=qDK) (n:=ks.length) (γ:=Int) (st:=fun(_:Unit) i=>⟨[(2,.ptr 0 0),(3,.ptr 1 0),(5,.d (.int .i64 i))],qfE f v ks f v ks'⟩) (step:=qmO ks ks')
  (F:=fun _=>(.exit 0,⟨[(2,.ptr 0 0),(3,.ptr 1 0),(5,.d (.int .i64 ks.length)),(44,.d (.bool false))],qfE f v ks f v ks'⟩)) (R:=fun r=>(.ret,⟨[(4,.d (.bool (decide (r<0))))],qfE f v ks f v ks'⟩))
  (fun _=>⟨by simp,by simp[qDK,qpD,qpC,qpB,qpA,qpz,qpy,qpx,qpw,qpv,qj2,qj1,qpu,qhN,qfE]⟩)
  (fun _ i hi=>by
   have hw:=qai (n:=i) (by omega);have hi2:i<ks'.length:=by omega
   have hs:=hsame _ _ (qav hi) (qav hi2);have hc:=hrec _ _ (qav hi) (qav hi2);unfold qmO qfE
   by_cases h0:T.cmp (tAt ks i) (tAt ks' i)=0
   ·rw[h0]at hs⊢
    simp only[ne_eq,not_true_eq_false,if_false];refine⟨_,by simp[qDK,qpD,qpC,qpB,qpA,qpz,qpy,qpx,qpw,qpv,qj2,qj1,qpu,qhN,hi,hi2,hw,cut,qan hi,qan hi2,hs];rfl,?_⟩;simp[qad,qab]
   ·simp only[ne_eq,h0,not_false_eq_true,if_true]
    have h0':(T.cmp (tAt ks i) (tAt ks' i)==0)=false:=by simp[h0]
    rw[h0']at hs;refine⟨by simp,?_⟩;simp[qDK,qpD,qpC,qpB,qpA,qpz,qpy,qpx,qpw,qpv,qj2,qj1,qpu,qhN,hi,hi2,hw,cut,qan hi,qan hi2,hs,hc])
  ks.length () 0 ⟨[(2,.ptr 0 0),(3,.ptr 1 0),(5,.d (.int .i64 0))],qfE f v ks f v ks'⟩ (by omega) (by simp[qad,qab,qfE])
 rw[qMl ks ks' c3 _ _ (by omega)]at h;simp only[List.drop_zero,qfE,qaa]at h;simp[v84,qpD,qpC,qpB,qpA,qpz,qpy,qpx,qpw,qpv,qj2,qj1,qpu,qhN,c3];rw[c3]at h;rw[h]
 by_cases h0:T.cmps ks ks'=0<;>simp[h0,v84,qpD,qpC,qpB,qpA,qpz,qpy,qpx,qpw,qpv,qj2,qj1,qpu,qhN]
theorem qfK(a b:T)(ha:a.inner<=1099511627776)(hb:b.inner<=1099511627776):qac XV 84 [.d (a.enc .sub),.d (b.enc .sub)] []=some (.d (.bool (decide (T.cmp a b<0))),[]):=by
 match a,b,ha,hb with
 | .node f v ks,.node f' v' ks',ha,hb=>
  simp only[T.inner]at ha hb;exact qpo f v ks f' v' ks' (by omega) (by omega) (fun s s' hs hs'=>qdV s s' (by have:=T.qaA hs;omega) (by have:=T.qaA hs';omega)) (fun s s' hs hs'=>qfK s s' (by have:=T.qaA hs;omega) (by have:=T.qaA hs';omega))
termination_by a
decreasing_by
 simp_wf
 have:=List.sizeOf_lt_of_mem hs;omega
def qct(l:List SymL)(f v:Int)(n:Nat):Bool:=
 if qen l f=true then
  if v=0 then(if(qax l f.toNat).ac=true then decide ((n:Int)<2)else !decide ((n:Int)=(qax l f.toNat).arity))
  else true
 else true
def qdX(l:List SymL)(f:Int)(ks:List T)(i:Nat):Bool:=
 if(qax l f.toNat).ac=true then(if(tAt ks i).f=f then true else if i=0 then false else decide (T.cmp (tAt ks i) (tAt ks (i-1))<0))else false
mutual
def T.form(l:List SymL):T->Bool
 | .node f v ks=>
  if f= -1 then inB v 0 99&&decide (ks.length=0)
  else if qct l f v ks.length=true then false
  else(qau (fun i=> !((T.forms l ks)[i]?).getD false||qdX l f ks i) ks.length 0).isNone
def T.forms(l:List SymL):List T->List Bool
 | []=>[]
 |t::r=>T.form l t::T.forms l r
end
theorem T.qs0(l:List SymL):∀ks:List T,T.forms l ks=ks.map (T.form l)
 | []=>by simp[T.forms]
 |t::r=>by simp[T.forms,T.qs0 l r]
theorem T.qqu(l:List SymL)(ks:List T)(i:Nat)(hi:i<ks.length):((T.forms l ks)[i]?).getD false=T.form l (tAt ks i):=by
 rw[T.qs0];simp[qkB hi]
theorem qOI(l:List SymL)(hs:l.length<=1099511627776)(f v:Int)(ks:List T):qay XV (XV.lin 78) (.region true 0 [0,3,62] qFE) ⟨[(0,.d (sg l)),(3,.ptr 0 0),(8,.d (.bool false))],qa0 f v ks⟩=some (.normal,⟨[(0,.d (sg l)),(3,.ptr 0 0),(62,.d (.bool (qct l f v ks.length)))],qa0 f v ks⟩):=by
 have hsy:=qpZ l hs f;unfold qct qa0;cases c1:qen l f with
 |false=>rw[c1]at hsy;simp[qDf,hsy]
 |true=>
  rw[c1]at hsy;obtain⟨g1,g2⟩:=qe7 c1
  by_cases c2:v=0
  ·cases c3:(qax l f.toNat).ac with
   |true=>simp[qDf,hsy,c2,g1,g2,qaq g2,cut,c3]
   |false=>
    by_cases c4:(ks.length:Int)=(qax l f.toNat).arity
    ·simp[qDf,hsy,c2,g1,g2,qaq g2,cut,c3,c4]
    ·have b4:((ks.length:Int) !=(qax l f.toNat).arity)=true:=by simp[c4]
     simp[qDf,hsy,c2,g1,g2,qaq g2,cut,c3,c4,b4]
  ·have b2:(v !=0)=true:=by simp[c2]
   simp[qDf,hsy,c2,b2]
theorem qOH(l:List SymL)(hs:l.length<=1099511627776)(f v:Int)(ks:List T):qay XV (XV.lin 83) (.region true 0 [0,3,64] qFz) ⟨[(0,.d (sg l)),(3,.ptr 0 0),(8,.d (.bool false))],qa0 f v ks⟩=some (.normal,⟨[(0,.d (sg l)),(3,.ptr 0 0),(64,.d (.bool (qct l f v ks.length)))],qa0 f v ks⟩):=by
 have hsy:=qhp f 0 (l.length-1);have hw:IntKind.i64.wrap ((l.length:Int)-1)=l.length-1:=wrap_i64 (by omega) (by omega);unfold qct qa0;cases c1:qen l f with
 |false=>unfold qen at c1;rw[c1]at hsy;simp[qDd,hsy,hw]
 |true=>
  obtain⟨g1,g2⟩:=qe7 c1;unfold qen at c1;rw[c1]at hsy
  by_cases c2:v=0
  ·cases c3:(qax l f.toNat).ac with
   |true=>simp[qDd,hsy,hw,c2,g1,g2,qaq g2,cut,c3]
   |false=>
    by_cases c4:(ks.length:Int)=(qax l f.toNat).arity
    ·simp[qDd,hsy,hw,c2,g1,g2,qaq g2,cut,c3,c4]
    ·have b4:((ks.length:Int) !=(qax l f.toNat).arity)=true:=by simp[c4]
     simp[qDd,hsy,hw,c2,g1,g2,qaq g2,cut,c3,c4,b4]
  ·have b2:(v !=0)=true:=by simp[c2]
   simp[qDd,hsy,hw,c2,b2]
theorem qRK(l:List SymL)(hs:l.length<=1099511627776)(f v:Int)(ks:List T)(hf:qen l f=true)(i:Nat)(hi:i<ks.length)(hl:ks.length<=1099511627776)
 (hbef:∀s s',s∈ks->s'∈ks->qac XV 79 [.d (s.enc .sub),.d (s'.enc .sub)] []=some (.d (.bool (decide (T.cmp s s'<0))),[]))
 (hrec:qac XV 78 [.d (sg l),.d ((tAt ks i).enc .sub)] []=some (.d (.bool (T.form l (tAt ks i))),[])):
 qay XV (XV.lin 78) (.region true 0 [0,3,64,65,66,103] qFC) ⟨[(0,.d (sg l)),(3,.ptr 0 0),(5,.d (.int .i64 i)),(6,.ptr 1 0),(64,.d (qaa .sub ks)),(65,.d (.int .i64 ks.length)),(66,.d (.int .i64 i))],qa0 f v ks++[some [.d (.int .i64 (tAt ks i).f),.d (.int .i64 (tAt ks i).v),.d (qaa .sub (tAt ks i).kids)]]⟩=
  some (.normal,⟨[(0,.d (sg l)),(3,.ptr 0 0),(64,.d (qaa .sub ks)),(65,.d (.int .i64 ks.length)),(66,.d (.int .i64 i)),(103,.d (.bool (!T.form l (tAt ks i)||qdX l f ks i)))],qa0 f v ks++[some [.d (.int .i64 (tAt ks i).f),.d (.int .i64 (tAt ks i).v),.d (qaa .sub (tAt ks i).kids)]]⟩):=by
 obtain⟨g1,g2⟩:=qe7 hf;unfold qa0 qdX;cases c1:T.form l (tAt ks i)with
 |false=>rw[c1]at hrec;simp[qDe,hrec]
 |true=>
  rw[c1]at hrec;cases c2:(qax l f.toNat).ac with
  |false=>simp[qDe,hrec,g1,g2,qaq g2,c2,cut]
  |true=>
   by_cases c3:(tAt ks i).f=f
   ·have b3:((tAt ks i).f==f)=true:=by simp[c3]
    simp[qDe,hrec,g1,g2,qaq g2,c2,b3,cut];simp[c3]
   ·have b3:((tAt ks i).f==f)=false:=by simp[c3]
    by_cases c4:i=0
    ·subst c4;simp[qDe,hrec,g1,g2,qaq g2,c2,c3,b3,cut]
    ·obtain⟨j,rfl⟩:∃j,i=j+1:=⟨i-1,by omega⟩
     have hj:j<ks.length:=by omega
     have hb:=hbef _ _ (qav hi) (qav hj);have hw:IntKind.i64.wrap (j:Int)=j:=qki (by omega);have hpos:(0:Int)<((j+1:Nat):Int):=by omega
     simp only[Int.natCast_add,Int.cast_ofNat_Int]at hpos;simp[qDe,hrec,g1,g2,qaq g2,c2,c3,b3,hw,hpos,hj,qan hj,cut,hb]
theorem qCJ(l:List SymL)(hs:l.length<=1099511627776)(f v:Int)(ks:List T)(hl:ks.length<=1099511627776)
 (hbef:∀s s',s∈ks->s'∈ks->qac XV 79 [.d (s.enc .sub),.d (s'.enc .sub)] []=some (.d (.bool (decide (T.cmp s s'<0))),[]))
 (hrec:∀s,s∈ks->qac XV 78 [.d (sg l),.d (s.enc .sub)] []=some (.d (.bool (T.form l s)),[])):
 qac XV 78 [.d (sg l),.d ((T.node f v ks).enc .sub)] []=some (.d (.bool (T.form l (.node f v ks))),[]):=by
 rw[qah XV _ _ _ v78 rfl qEm rfl];have hv:=qd7 (.node f v ks);have hin:=ql9 v 0 99;simp only[T.qaW]at hv
 by_cases c1:f= -1
 ·have hform:T.form l (.node f v ks)=(inB v 0 99&&decide (ks.length=0)):=by simp[T.form,c1]
  rw[hform];subst c1;simp only[BEq.rfl]at hv;cases c2:inB v 0 99 with
  |false=>rw[c2]at hin;simp[v78,qxu,qxt,qxs,hv,hin]
  |true=>
   rw[c2]at hin
   by_cases c3:ks.length=0
   ·simp[v78,qxu,qxt,qxs,hv,hin,c3]
   ·have b3:((ks.length:Int)==0)=false:=by simp;exact fun h=>c3 (by simp[h])
    simp[v78,qxu,qxt,qxs,hv,hin,b3];exact fun h=>c3 (by simp[h])
 have b1:(f== -1)=false:=by simp[c1]
 rw[b1]at hv;have hh:=qOI l hs f v ks;simp only[qa0,qaa,qCd]at hh;cases c2:qct l f v ks.length with
 |true=>
  have hform:T.form l (.node f v ks)=false:=by simp[T.form,c1,c2]
  rw[hform];rw[c2]at hh;simp[v78,qxu,qxt,qxs,hv,qI3];rw[hh];simp
 |false=>
  have hsy:qen l f=true:=by
   unfold qct at c2
   by_cases h:qen l f=true
   ·exact h
   ·rw[if_neg h]at c2;simp at c2
  have hform:T.form l (.node f v ks)=(qau (fun i=> !T.form l (tAt ks i)||qdX l f ks i) ks.length 0).isNone:=by
   have e:qau (fun i=> !((T.forms l ks)[i]?).getD false||qdX l f ks i) ks.length 0=qau (fun i=> !T.form l (tAt ks i)||qdX l f ks i) ks.length 0:=by
    have key:∀(k i:Nat),i+k=ks.length->qau (fun i=> !((T.forms l ks)[i]?).getD false||qdX l f ks i) k i=qau (fun i=> !T.form l (tAt ks i)||qdX l f ks i) k i:=by
     intro k
     induction k with
     |zero=>intro i _;rfl
     |succ k ih=>
      intro i h;simp only[qau];simp only[T.qqu l ks i (by omega),ih (i+1) (by omega)]
    exact key _ _ (by omega)
   rw[<-e];simp[T.form,c1,c2]
  rw[hform];rw[c2]at hh;have h:=qal (X:=XV) (T:=XV.lin 78) (L:=1) (live:=[0,3,64,65,66]) (b:=qDM) (n:=ks.length) (γ:=Nat) (st:=fun(_:Unit) i=>⟨[(0,.d (sg l)),(3,.ptr 0 0),(64,.d (qaa .sub ks)),(65,.d (.int .i64 ks.length)),(66,.d (.int .i64 i))],qa0 f v ks⟩) (step:=qb8 fun i=> !T.form l (tAt ks i)||qdX l f ks i)
   (F:=fun _=>(.exit 0,⟨[(0,.d (sg l)),(3,.ptr 0 0),(64,.d (qaa .sub ks)),(65,.d (.int .i64 ks.length)),(66,.d (.int .i64 ks.length)),(67,.d (.bool false))],qa0 f v ks⟩)) (R:=fun j=>(.ret,⟨[(4,.d (.bool false))],qa0 f v ks++[some [.d (.int .i64 (tAt ks j).f),.d (.int .i64 (tAt ks j).v),.d (qaa .sub (tAt ks j).kids)]]⟩))
   (fun a=>⟨by simp,by simp[qDM,qFD]⟩)
   (fun a i hi=>by
    have hw:=qai (n:=i) (by omega);have hk:=qRK l hs f v ks hsy i hi hl hbef (hrec _ (qav hi));unfold qb8;simp only[qa0,qaa,List.cons_append,List.nil_append,qCd]at hk
    by_cases hq:(!T.form l (tAt ks i)||qdX l f ks i)=true
    ·rw[if_pos hq]
     rw[hq]at hk;refine⟨by simp,?_⟩;simp[qDM,qFD,qI2,qI1,qAE,hi,hw,cut,qan hi,qa0,splice];rw[hk];simp
    ·rw[if_neg hq]
     have hq':(!T.form l (tAt ks i)||qdX l f ks i)=false:=by simpa using hq
     rw[hq']at hk;refine⟨⟨[(0,.d (sg l)),(3,.ptr 0 0),(64,.d (qaa .sub ks)),(65,.d (.int .i64 ks.length)),(66,.d (.int .i64 (i+1:Nat)))],qa0 f v ks++[some [.d (.int .i64 (tAt ks i).f),.d (.int .i64 (tAt ks i).v),.d (qaa .sub (tAt ks i).kids)]]⟩,?_,by simp[qad,qab,qa0]⟩;simp[qDM,qFD,qI2,qI1,qAE,hi,hw,cut,qan hi,qa0,splice];rw[hk];simp[hw])
   ks.length () 0 ⟨[(0,.d (sg l)),(3,.ptr 0 0),(64,.d (qaa .sub ks)),(65,.d (.int .i64 ks.length)),(66,.d (.int .i64 0))],qa0 f v ks⟩ (by omega) (by simp[qad,qab,qa0])
  rw[qqw]at h;simp only[qa0,qaa,List.cons_append,List.nil_append,qCd]at h;simp[v78,qxu,qxt,qxs,hv,qI3,qMq];rw[hh];simp;rw[h];cases hq:qau (fun i=> !T.form l (tAt ks i)||qdX l f ks i) ks.length 0<;>simp[qG1]
theorem qsd(l:List SymL)(f v:Int)(ks:List T)(c1:f≠-1)(c2:qct l f v ks.length=false):T.form l (.node f v ks)=(qau (fun i=> !T.form l (tAt ks i)||qdX l f ks i) ks.length 0).isNone:=by
 have e:qau (fun i=> !((T.forms l ks)[i]?).getD false||qdX l f ks i) ks.length 0=qau (fun i=> !T.form l (tAt ks i)||qdX l f ks i) ks.length 0:=by
  have key:∀(k i:Nat),i+k=ks.length->qau (fun i=> !((T.forms l ks)[i]?).getD false||qdX l f ks i) k i=qau (fun i=> !T.form l (tAt ks i)||qdX l f ks i) k i:=by
   intro k
   induction k with
   |zero=>intro i _;rfl
   |succ k ih=>
    intro i h;simp only[qau];simp only[T.qqu l ks i (by omega),ih (i+1) (by omega)]
  exact key _ _ (by omega)
 rw[<-e];simp[T.form,c1,c2]
theorem qse(l:List SymL)(hs:l.length<=1099511627776)(t:T)(ht:t.inner<=1099511627776):qac XV 78 [.d (sg l),.d (t.enc .sub)] []=some (.d (.bool (T.form l t)),[]):=by
 match t,ht with
 | .node f v ks,ht=>
  simp only[T.inner]at ht;exact qCJ l hs f v ks (by omega) (fun s s' h h'=>qp5 s s' (by have:=T.qaA h;omega) (by have:=T.qaA h';omega)) (fun s h=>qse l hs s (by have:=T.qaA h;omega))
termination_by t
decreasing_by
 simp_wf
 have:=List.sizeOf_lt_of_mem h;omega
theorem qRJ(l:List SymL)(hs:l.length<=1099511627776)(f v:Int)(ks:List T)(hf:qen l f=true)(i:Nat)(hi:i<ks.length)(hl:ks.length<=1099511627776)
 (hbef:∀s s',s∈ks->s'∈ks->qac XV 84 [.d (s.enc .sub),.d (s'.enc .sub)] []=some (.d (.bool (decide (T.cmp s s'<0))),[]))
 (hrec:qac XV 83 [.d (sg l),.d ((tAt ks i).enc .sub)] []=some (.d (.bool (T.form l (tAt ks i))),[])):
 qay XV (XV.lin 83) (.region true 0 [0,3,5,116] qFx) ⟨[(0,.d (sg l)),(3,.ptr 0 0),(5,.d (.int .i64 i)),(69,.d (.bool true))],qa0 f v ks⟩=
  some (.normal,⟨[(0,.d (sg l)),(3,.ptr 0 0),(5,.d (.int .i64 i)),(116,.d (.bool (!T.form l (tAt ks i)||qdX l f ks i)))],qa0 f v ks⟩):=by
 obtain⟨g1,g2⟩:=qe7 hf;unfold qa0 qdX;cases c2:(qax l f.toNat).ac with
 |false=>
  cases c1:T.form l (tAt ks i)with
  |false=>rw[c1]at hrec;simp[qss,hrec,g1,g2,qaq g2,c2,cut,hi,qan hi]
  |true=>rw[c1]at hrec;simp[qss,hrec,g1,g2,qaq g2,c2,cut,hi,qan hi]
 |true=>
  by_cases c3:(tAt ks i).f=f
  ·have b3:((tAt ks i).f==f)=true:=by simp[c3]
   simp[qss,g1,g2,qaq g2,c2,b3,cut,hi,qan hi];simp[c3]
  ·have b3:((tAt ks i).f==f)=false:=by simp[c3]
   by_cases c4:i=0
   ·subst c4
    cases c1:T.form l (tAt ks 0)with
    |false=>rw[c1]at hrec;simp[qss,hrec,g1,g2,qaq g2,c2,c3,b3,cut,hi,qan hi]
    |true=>rw[c1]at hrec;simp[qss,hrec,g1,g2,qaq g2,c2,c3,b3,cut,hi,qan hi]
   ·obtain⟨j,rfl⟩:∃j,i=j+1:=⟨i-1,by omega⟩
    have hj:j<ks.length:=by omega
    have hb:=hbef _ _ (qav hi) (qav hj);have hw:IntKind.i64.wrap (j:Int)=j:=qki (by omega);have hpos:(0:Int)<((j+1:Nat):Int):=by omega
    have hnat:(((j+1:Nat):Int)).toNat=j+1:=by omega
    simp only[Int.natCast_add,Int.cast_ofNat_Int]at hpos hnat;have hnn:(0:Int)<=(j:Int)+1:=by omega
    by_cases c5:T.cmp (tAt ks (j+1)) (tAt ks j)<0
    ·simp only[c5,decide_true]at hb
     simp[qss,g1,g2,qaq g2,c2,c3,b3,hw,hpos,hnat,hnn,hj,hi,qan hj,qan hi,cut,hb,c5]
    ·simp only[c5,decide_false]at hb
     cases c1:T.form l (tAt ks (j+1))with
     |false=>rw[c1]at hrec;simp[qss,hrec,g1,g2,qaq g2,c2,c3,b3,hw,hpos,hnat,hnn,hj,hi,qan hj,qan hi,cut,hb,c5]
     |true=>rw[c1]at hrec;simp[qss,hrec,g1,g2,qaq g2,c2,c3,b3,hw,hpos,hnat,hnn,hj,hi,qan hj,qan hi,cut,hb,c5]
theorem qx4(l:List SymL)(hs:l.length<=1099511627776)(f v:Int)(ks:List T)(hl:ks.length<=1099511627776)
 (hbef:∀s s',s∈ks->s'∈ks->qac XV 84 [.d (s.enc .sub),.d (s'.enc .sub)] []=some (.d (.bool (decide (T.cmp s s'<0))),[]))
 (hrec:∀s,s∈ks->qac XV 83 [.d (sg l),.d (s.enc .sub)] []=some (.d (.bool (T.form l s)),[])):
 qac XV 83 [.d (sg l),.d ((T.node f v ks).enc .sub)] []=some (.d (.bool (T.form l (.node f v ks))),[]):=by
 rw[qah XV _ _ _ v83 rfl qEi rfl];have hin:=qhp v 0 99
 by_cases c1:f= -1
 ·have hform:T.form l (.node f v ks)=(inB v 0 99&&decide (ks.length=0)):=by simp[T.form,c1]
  rw[hform];subst c1;cases c2:inB v 0 99 with
  |false=>rw[c2]at hin;simp[v83,qxr,qxq,qxp,hin]
  |true=>
   rw[c2]at hin
   by_cases c3:ks.length=0
   ·simp[v83,qxr,qxq,qxp,hin,c3]
   ·have b3:((ks.length:Int)==0)=false:=by simp;exact fun h=>c3 (by simp[h])
    simp[v83,qxr,qxq,qxp,hin,b3];exact fun h=>c3 (by simp[h])
 have b1:(f== -1)=false:=by simp[c1]
 have hh:=qOH l hs f v ks;simp only[qa0,qaa,qCc]at hh;cases c2:qct l f v ks.length with
 |true=>
  have hform:T.form l (.node f v ks)=false:=by simp[T.form,c1,c2]
  rw[hform];rw[c2]at hh;simp[v83,qxr,qxq,qxp,b1,qI0];rw[hh];simp
 |false=>
  have hsy:qen l f=true:=by
   unfold qct at c2
   by_cases h:qen l f=true
   ·exact h
   ·rw[if_neg h]at c2;simp at c2
  rw[qsd l f v ks c1 c2];rw[c2]at hh;have h:=qal (X:=XV) (T:=XV.lin 83) (L:=1) (live:=[0,3,5]) (b:=qDL) (n:=ks.length) (γ:=Nat) (st:=fun(_:Unit) i=>⟨[(0,.d (sg l)),(3,.ptr 0 0),(5,.d (.int .i64 i))],qa0 f v ks⟩) (step:=qb8 fun i=> !T.form l (tAt ks i)||qdX l f ks i)
   (F:=fun _=>(.exit 0,⟨[(0,.d (sg l)),(3,.ptr 0 0),(5,.d (.int .i64 ks.length)),(69,.d (.bool false))],qa0 f v ks⟩)) (R:=fun j=>(.ret,⟨[(4,.d (.bool false))],qa0 f v ks⟩))
   (fun a=>⟨by simp,by simp[qDL,qFy,qa0]⟩)
   (fun a i hi=>by
    have hw:=qai (n:=i) (by omega);have hk:=qRJ l hs f v ks hsy i hi hl hbef (hrec _ (qav hi));unfold qb8;simp only[qa0,qaa,List.cons_append,List.nil_append,qCc]at hk
    by_cases hq:(!T.form l (tAt ks i)||qdX l f ks i)=true
    ·rw[if_pos hq]
     rw[hq]at hk;refine⟨by simp,?_⟩;simp[qDL,qFy,qIZ,qIY,hi,hw,cut,qan hi,qa0,splice];rw[hk];simp
    ·rw[if_neg hq]
     have hq':(!T.form l (tAt ks i)||qdX l f ks i)=false:=by simpa using hq
     rw[hq']at hk;refine⟨⟨[(0,.d (sg l)),(3,.ptr 0 0),(5,.d (.int .i64 (i+1:Nat)))],qa0 f v ks⟩,?_,by simp[qad,qab,qa0]⟩;simp[qDL,qFy,qIZ,qIY,hi,hw,cut,qan hi,qa0,splice];rw[hk];simp[hw])
   ks.length () 0 ⟨[(0,.d (sg l)),(3,.ptr 0 0),(5,.d (.int .i64 0))],qa0 f v ks⟩ (by omega) (by simp[qad,qab,qa0])
  rw[qqw]at h;simp only[qa0,qaa,List.cons_append,List.nil_append,qCc]at h;simp[v83,qxr,qxq,qxp,b1,qI0,qMn];rw[hh];simp;rw[h];cases hq:qau (fun i=> !T.form l (tAt ks i)||qdX l f ks i) ks.length 0<;>simp[qG0]
theorem qoH(l:List SymL)(hs:l.length<=1099511627776)(t:T)(ht:t.inner<=1099511627776):qac XV 83 [.d (sg l),.d (t.enc .sub)] []=some (.d (.bool (T.form l t)),[]):=by
 match t,ht with
 | .node f v ks,ht=>
  simp only[T.inner]at ht;exact qx4 l hs f v ks (by omega) (fun s s' h h'=>qfK s s' (by have:=T.qaA h;omega) (by have:=T.qaA h';omega)) (fun s h=>qoH l hs s (by have:=T.qaA h;omega))
termination_by t
decreasing_by
 simp_wf
 have:=List.sizeOf_lt_of_mem h;omega
mutual
theorem qAk:∀t:T,T.sum (fun _=>1) t=t.inner+1
 | .node f v ks=>by simp only[T.sum,T.inner];rw[qu3 ks];push_cast;omega
theorem qu3:∀l:List T,T.sums (fun _=>1) l=T.inners l+l.length
 | []=>by simp[T.sums,T.inners]
 |t::r=>by simp only[T.sums,T.inners,List.length_cons];rw[qAk t,qu3 r];push_cast;omega
end
theorem qrV(t:T)(ht:t.inner<=1099511627776):IntKind.i64.wrap (T.sum (fun _=>1) t)=(t.inner+1:Nat):=by
 rw[qAk];exact qki (n:=t.inner+1) (by omega)
def qcf(l:List SymL)(t:T):Bool:=qkH l&&(decide (t.inner+1<=60)&&T.form l t)
theorem qhZ(l:List SymL)(hs:l.length<=1099511627776)(hn:∀i,i<l.length->(qax l i).name.size<=1099511627776)(t:T)(ht:t.inner<=1099511627776):qac XV 70 [.d (sg l),.d (t.enc .sub)] []=some (.d (.bool (qcf l t)),[]):=by
 rw[qah XV _ _ _ v70 rfl qEp rfl];have h1:=qr8 l hs hn;have h2:=qr9 t ht;rw[qrV t ht]at h2;have h3:=qse l hs t ht;unfold qcf;cases c1:qkH l with
 |false=>rw[c1]at h1;simp[v70,qFG,qFF,h1]
 |true=>
  rw[c1]at h1
  by_cases c2:t.inner+1<=60
  ·have c2':(((t.inner+1:Nat):Int))<=60:=by omega
   simp only[Int.natCast_add,Int.cast_ofNat_Int]at c2';simp[v70,qFG,qFF,h1,h2,h3,c2,c2']
  ·have c2':¬(((t.inner+1:Nat):Int))<=60:=by omega
   simp only[Int.natCast_add,Int.cast_ofNat_Int]at c2';simp[v70,qFG,qFF,h1,h2,c2,c2']
theorem qhH(l:List SymL)(hs:l.length<=1099511627776)(hn:∀i,i<l.length->(qax l i).name.size<=1099511627776)(t:T)(ht:t.inner<=1099511627776):qac XV 80 [.d (sg l),.d (t.enc .sub)] []=some (.d (.bool (qcf l t)),[]):=by
 rw[qah XV _ _ _ v80 rfl qEk rfl];have h1:=qqW l hs hn;have h2:=qjg t ht;rw[qrV t ht]at h2;have h3:=qoH l hs t ht;unfold qcf;cases c1:qkH l with
 |false=>rw[c1]at h1;simp[v80,qFB,qFA,h1]
 |true=>
  rw[c1]at h1
  by_cases c2:t.inner+1<=60
  ·have c2':(((t.inner+1:Nat):Int))<=60:=by omega
   simp only[Int.natCast_add,Int.cast_ofNat_Int]at c2';simp[v80,qFB,qFA,h1,h2,h3,c2,c2']
  ·have c2':¬(((t.inner+1:Nat):Int))<=60:=by omega
   simp only[Int.natCast_add,Int.cast_ofNat_Int]at c2';simp[v80,qFB,qFA,h1,h2,c2,c2']
structure Bd where
 v:Int
 t:T
def Bd.enc(g:Tag)(b:Bd):DV:= .agg [.int .i64 b.v,.int .i64 b.t.f,.int .i64 b.t.v,qaa g b.t.kids]
def Bd.ok(b:Bd):Prop:=(-9223372036854775808<=b.v/\b.v<=9223372036854775807)/\b.t.ok
abbrev binds(g:Tag)(l:List Bd):DV:= .sl g (l.map (Bd.enc g))
@[simp] theorem Bd.qfC(g:Tag)(x:Bd):(x.enc g).cells=[.int .i64 x.v,.int .i64 x.t.f,.int .i64 x.t.v,qaa g x.t.kids]:=rfl
@[simp] theorem Bd.qja(g:Tag)(x:Bd):(AV.d (x.enc g)).cells=[.d (.int .i64 x.v),.d (.int .i64 x.t.f),.d (.int .i64 x.t.v),.d (qaa g x.t.kids)]:=rfl
@[simp] theorem Bd.qi8(g:Tag)(x:Bd):(x.enc g).isCell=false:=rfl
@[simp] theorem Bd.qPu(g:Tag)(x:Bd):isAgg (x.enc g)=true:=rfl
@[simp] theorem Bd.qfq(g:Tag)(x:Bd):(x.enc g).clr=x.enc .sub:=by
 simp only[Bd.enc,DV.clr,DV.clrs,qaa,DV.qaw,qe2]
@[simp high] theorem Bd.qex(g:Tag)(l:List Bd):(l.map (Bd.enc g)).map DV.clr=l.map (Bd.enc .sub):=by simp[List.map_map,Function.comp_def]
@[simp] theorem Bd.agg_enc(g:Tag)(x:Bd):DV.agg [.int .i64 x.v,.int .i64 x.t.f,.int .i64 x.t.v,qaa g x.t.kids]=x.enc g:=rfl
def bAt(l:List Bd)(i:Nat):Bd:=(l[i]?).getD ⟨0,.node 0 0 []⟩
theorem qcj{l:List Bd}{i:Nat}(h:i<l.length):l[i]=bAt l i:=by simp[bAt,h]
theorem qKS{l:List Bd}{i:Nat}(h:i<l.length):bAt l i∈l:=by rw[<-qcj h];exact List.getElem_mem h
mutual
theorem qqg:∀a b:T,T.cmp a b= -(T.cmp b a)
 | .node f v ks,.node f' v' ks'=>by
  have h:=qwn ks ks';simp only[T.cmp]
  repeat' split
  all_goals first|omega|exact h
theorem qwn:∀a b:List T,T.cmps a b= -(T.cmps b a)
 | [],[]=>rfl
 | [],_::_=>rfl
 |_::_,[]=>rfl
 |x::xs,y::ys=>by
  have h1:=qqg x y;have h2:=qwn xs ys;simp only[T.cmps]
  repeat' split
  all_goals omega
end
mutual
theorem qoY:∀a b:T,T.cmp a b=0->a=b
 | .node f v ks,.node f' v' ks',h=>by
  simp only[T.cmp]at h
  repeat' split at h
  all_goals first|omega|skip
  have h1:=qDo ks ks' (by omega) h;have h2:f=f':=by omega
  have h3:v=v':=by omega
  rw[h1,h2,h3]
theorem qDo:∀a b:List T,a.length=b.length->T.cmps a b=0->a=b
 | [],[],_,_=>rfl
 | [],_::_,h,_=>by simp at h
 |_::_,[],h,_=>by simp at h
 |x::xs,y::ys,hl,h=>by
  simp only[T.cmps]at h;split at h
  ·omega
  ·rename_i h0
   rw[qoY x y (by omega),qDo xs ys (by simpa using hl) h]
end
mutual
theorem qHY:∀a b c:T,T.cmp a b<0->T.cmp b c<0->T.cmp a c<0
 | .node f v ks,.node f' v' ks',.node f2 vw2 ks2,h1,h2=>by
  simp only[T.cmp]at h1 h2⊢
  by_cases e1:f<f'
  ·have:f'<=f2:=by
    apply Classical.byContradiction;intro h
    rw[if_neg (by omega),if_pos (by omega)]at h2;omega
   rw[if_pos (by omega)];omega
  ·have e1':f=f':=by
    apply Classical.byContradiction;intro h
    rw[if_neg e1,if_pos (by omega)]at h1;omega
   subst e1'
   by_cases e2:f<f2
   ·rw[if_pos e2];omega
   ·have e2':f=f2:=by
     apply Classical.byContradiction;intro h
     rw[if_neg e2,if_pos (by omega)]at h2;omega
    subst e2';simp only[Int.lt_irrefl,gt_iff_lt,if_false]at h1 h2⊢
    by_cases e3:v<v'
    ·have:v'<=vw2:=by
      apply Classical.byContradiction;intro h
      rw[if_neg (by omega),if_pos (by omega)]at h2;omega
     rw[if_pos (by omega)];omega
    ·have e3':v=v':=by
      apply Classical.byContradiction;intro h
      rw[if_neg e3,if_pos (by omega)]at h1;omega
     subst e3'
     by_cases e4:v<vw2
     ·rw[if_pos e4];omega
     ·have e4':v=vw2:=by
       apply Classical.byContradiction;intro h
       rw[if_neg e4,if_pos (by omega)]at h2;omega
      subst e4';simp only[Int.lt_irrefl,gt_iff_lt,if_false]at h1 h2⊢
      by_cases e5:ks.length<ks'.length
      ·have:ks'.length<=ks2.length:=by
        apply Classical.byContradiction;intro h
        rw[if_neg (by omega),if_pos (by omega)]at h2;omega
       rw[if_pos (by omega)];omega
      ·have e5':ks.length=ks'.length:=by
        apply Classical.byContradiction;intro h
        rw[if_neg e5,if_pos (by omega)]at h1;omega
       by_cases e6:ks.length<ks2.length
       ·rw[if_pos e6];omega
       ·have e6':ks.length=ks2.length:=by
         apply Classical.byContradiction;intro h
         rw[if_neg (by omega),if_pos (by omega)]at h2;omega
        rw[if_neg (by omega),if_neg (by omega)]at h1 h2⊢
        exact qDp ks ks' ks2 e5' (by omega) h1 h2
theorem qDp:∀a b c:List T,a.length=b.length->b.length=c.length->T.cmps a b<0->T.cmps b c<0->T.cmps a c<0
 | [],[],_,_,_,h,_=>by simp[T.cmps]at h
 | [],_::_,_,h,_,_,_=>by simp at h
 |_::_,[],_,h,_,_,_=>by simp at h
 |x::xs,y::ys,[],_,h,_,_=>by simp at h
 |x::xs,y::ys,z::zs,l1,l2,h1,h2=>by
  simp only[T.cmps]at h1 h2⊢
  have t1:=qHY x y z
  by_cases c1:T.cmp x y=0
  ·have:=qoY x y c1
   subst this
   by_cases c2:T.cmp x z=0
   ·simp only[c1,c2,ne_eq,not_true_eq_false,if_false]at h1 h2⊢
    exact qDp xs ys zs (by simpa using l1) (by simpa using l2) h1 h2
   ·simp only[c2,ne_eq,not_false_eq_true,if_true]at h2⊢
    exact h2
  ·simp only[c1,ne_eq,not_false_eq_true,if_true]at h1
   by_cases c2:T.cmp y z=0
   ·have:=qoY y z c2
    subst this;simp only[c1,ne_eq,not_false_eq_true,if_true];exact h1
   ·simp only[c2,ne_eq,not_false_eq_true,if_true]at h2
    have h3:=t1 h1 h2;have c3:T.cmp x z≠0:=by omega
    simp only[c3,ne_eq,not_false_eq_true,if_true];exact h3
end
def tle(a b:T):Prop:=T.cmp a b<=0
theorem qu0(a:T):tle a a:=by
 have:=qqg a a;unfold tle;omega
theorem qge{a b c:T}(h1:tle a b)(h2:tle b c):tle a c:=by
 unfold tle at*
 by_cases c1:T.cmp a b=0
 ·rw[qoY a b c1];exact h2
 by_cases c2:T.cmp b c=0
 ·rw[<-qoY b c c2];exact h1
 have:=qHY a b c (by omega) (by omega);omega
theorem qqO{a b:T}(h1:tle a b)(h2:tle b a):a=b:=by
 have:=qqg a b;unfold tle at*
 exact qoY a b (by omega)
theorem qcn{a b:T}(h:¬T.cmp a b<0):tle b a:=by
 have:=qqg a b;unfold tle;omega
theorem qft{a b:T}(h:T.cmp a b<0):tle a b:=by unfold tle;omega
def Srt(l:List T):Prop:=l.Pairwise tle
theorem qE6{a b:List T}(h1:Srt a)(h2:Srt b)(h:a.Perm b):a=b:=List.Perm.eq_of_pairwise (fun _ _ _ _=>qqO) h1 h2 h
def qDa(u w:List Bd)(i:Nat):Bool:= !((bAt u i).v==(bAt w i).v&&T.cmp (bAt u i).t (bAt w i).t==0)
def qiC(u w:List Bd):Bool:=decide (u.length=w.length)&&(qau (qDa u w) u.length 0).isNone
theorem qE1(t:T):DV.agg [.int .i64 t.f,.int .i64 t.v,qaa .sub t.kids]=t.enc .sub:=by rw[T.qcJ]
mutual
theorem T.qH4(g:Tag)(hg:g≠.nil):∀t:T,(t.enc g).sh=t.enc .sub
 | .node f v ks=>by
  have:=T.qDZ g hg ks;simp only[T.enc,DV.sh,DV.shs,if_neg hg,this]
theorem T.qDZ(g:Tag)(hg:g≠.nil):∀ts:List T,DV.shs (T.encs g ts)=T.encs .sub ts
 | []=>by simp[T.encs,DV.shs]
 |t::ts=>by simp only[T.encs,DV.shs,T.qH4 g hg t,T.qDZ g hg ts]
end
theorem qpi(g:Tag)(hg:g≠.nil)(ts:List T):(ts.map (T.enc g)).map DV.sh=ts.map (T.enc .sub):=by
 rw[List.map_map];exact List.map_congr_left fun t _=>T.qH4 g hg t
theorem qx5(g:Tag)(t:T):qfm (t.enc g)=true:=by cases t;rfl
theorem qmZ(g:Tag)(hg:g≠.nil)(ts:List T)(i:Nat)(B:qao)(hi:i<ts.length)(hl:ts.length<=1099511627776):
 qac XV 284 [.d (qaa g ts),.d (.int .i64 i)] B=some (.d (qaa .sub (ts.take i++ts.drop (i+1))),B):=by
 rw[qmt XV 284 _ _ qd4 rfl];have h1:(ts.map (T.enc g)).all qfm=true:=by
  rw[List.all_eq_true];intro x hx
  obtain⟨t,_,rfl⟩:=List.mem_map.1 hx;exact qx5 g t
 have h2:(0:Int)<=i/\(i:Int)<(ts.map (T.enc g)).length/\(ts.map (T.enc g)).length*40<=140737488355328:=by
  rw[List.length_map];omega
 simp only[qaF,Option.map_some,Option.bind_some,qd4,qaa];rw[if_pos ⟨h1,h2⟩];simp only[Int.toNat_natCast,<-List.map_take,<-List.map_drop,<-List.map_append,qpi g hg,Option.map_some,Option.bind_some]
def qmA(u:List Bd)(v:Int):Nat:=u.findIdx fun b=>decide (b.v>v)
def qgT(u:List Bd)(v:Int)(t:T):List Bd:=u.take (qmA u v)++⟨v,t⟩::u.drop (qmA u v)
theorem qsz(g:Tag):∀u:List Bd,qkf (u.map (Bd.enc g))=some (u.map Bd.v)
 | []=>rfl
 |b::u=>by
  have h:qKR (b.enc g)=some b.v:=rfl;simp only[List.map_cons,qkf,h,qsz g u,Option.map_some,Option.bind_some]
theorem qPo(g:Tag)(hg:g≠.nil)(b:Bd):(b.enc g).sh=b.enc .sub:=by
 simp only[Bd.enc,qaa,DV.sh,DV.shs,if_neg hg,qfM,qpi g hg]
theorem qBW(g g':Tag)(hg:g≠.nil)(hg':g'≠.nil)(u:List Bd)(v:Int)(t:T)(B:qao)(hl:u.length<=1099511627776):
 qac XV 323 [.d (binds g u),.d (.int .i64 v),.d (t.enc g')] B=some (.d (binds .sub (qgT u v t)),B):=by
 rw[qmt XV 323 _ _ qD4 rfl];have ht:t.enc g'= .agg [.int .i64 t.f,.int .i64 t.v,.sl g' (t.kids.map (T.enc g'))]:=T.qcJ g' t;have hb:(u.map (Bd.enc g)).length+1<=2932031007402:=by rw[List.length_map];omega
 have hb2:((u.map (Bd.enc g)).length+1)*48<=140737488355328:=by omega
 have hk:qy1 (u.map Bd.v) v=qmA u v:=by unfold qy1 qmA;rw[List.findIdx_map];rfl
 rw[ht];simp only[qaF,Option.map_some,Option.bind_some,qD4,binds,qsz];rw[if_pos hb2,hk];have hx:DV.sh (.agg [.int .i64 v,.int .i64 t.f,.int .i64 t.v,.sl g' (t.kids.map (T.enc g'))])=Bd.enc .sub ⟨v,t⟩:=qPo g' hg' ⟨v,t⟩;have hm:∀l:List Bd,(l.map (Bd.enc g)).map DV.sh=l.map (Bd.enc .sub):=fun l=>by
  rw[List.map_map];exact List.map_congr_left fun b _=>qPo g hg b
 simp only[<-List.map_take,<-List.map_drop,List.map_append,List.map_cons,hm,hx,qgT];rfl
structure Gl where
 many:Bool
 f:Int
 ps:List T
 ts:List T
def Gl.enc(g:Tag)(x:Gl):DV:= .agg [.bool x.many,.int .i64 x.f,qaa g x.ps,qaa g x.ts]
abbrev qaO(g:Tag)(l:List Gl):DV:= .sl g (l.map (Gl.enc g))
theorem qRM(g:Tag)(hg:g≠.nil)(x:Gl):(x.enc g).sh=x.enc .sub:=by
 simp only[Gl.enc,qaa,DV.sh,DV.shs,if_neg hg,qfM,qpi g hg]
theorem qul(g g1 g2 g3:Tag)(h1:g1≠.nil)(h2:g2≠.nil)(h3:g3≠.nil)(a b c:List Gl)(B:qao)(hb:0<b.length)(hl:a.length+b.length+c.length<=1099511627776):
 qac XV 328 [.d (.sl g [qaO g1 a,qaO g2 b,qaO g3 c])] B=some (.d (qaO .sub (a++(b++c))),B):=by
 rw[qmt XV 328 _ _ (qD6 4 64) rfl];have hrow:rowsOf [qaO g1 a,qaO g2 b,qaO g3 c]=some [a.map (Gl.enc g1),b.map (Gl.enc g2),c.map (Gl.enc g3)]:=rfl;have hfl:[a.map (Gl.enc g1),b.map (Gl.enc g2),c.map (Gl.enc g3)].flatten=a.map (Gl.enc g1)++(b.map (Gl.enc g2)++c.map (Gl.enc g3)):=by simp
 have ha:∀(g:Tag) (l:List Gl),(l.map (Gl.enc g)).all (fun x=>decide (x.cells.length=4))=true:=fun g l=>by
  rw[List.all_eq_true];intro x hx
  obtain⟨t,_,rfl⟩:=List.mem_map.1 hx;rfl
 have hm:∀(g:Tag),g≠.nil->∀l:List Gl,(l.map (Gl.enc g)).map DV.sh=l.map (Gl.enc .sub):=fun g hg l=>by
  rw[List.map_map];exact List.map_congr_left fun b _=>qRM g hg b
 simp only[qaF,Option.map_some,Option.bind_some,qD6,hrow,hfl];rw[if_pos ⟨by rw[List.all_append,List.all_append,ha,ha,ha];rfl,by simp;omega,by simp;omega⟩];simp only[List.map_append,hm g1 h1,hm g2 h2,hm g3 h3,Option.map_some,qaO]
def qxX(sg ways:DV)(most steps limit:Int)(over:Bool):List AV:=[.d sg,.d ways,.d (.int .i64 most),.d (.int .i64 steps),.d (.int .i64 limit),.d (.bool over)]
theorem qdy(pre:qao)(x:Option (List AV))(r:qao):(pre++x::r).take (pre.length+(r.length+1))=pre++x::r:=List.take_of_length_le (by simp)
theorem qKy(pre r:qao)(sg:DV)(g:Tag)(ws:List DV)(most steps limit:Int)(over:Bool):
 qac XV 319 [.ptr pre.length 0] (pre++some (qxX sg (.sl g ws) most steps limit over)::r)=some (.d (.bool (over||decide ((ws.length:Int)>most))),pre++some (qxX sg (.sl g ws) most steps limit over)::r):=by
 rw[qah XV _ _ _ qKZ rfl qzq rfl];have hn:¬(pre.length+(r.length+1)<=pre.length):=by omega
 cases over
 ·simp[qKZ,qAM,qHV,qxX,get_at,hn,qdy]
 ·simp[qKZ,qAM,qHV,qxX,get_at,hn,qdy]
theorem qp1(l:List T)(fk:Nat)(caps:List AV)(B:qao)(P:T->Bool)(hl:l.length<=1099511627776)(hs:AV.safe.safes B.length caps=true)(hcc:caps.map AV.clr=caps)(hk:¬0∈XV.lin fk)
 (hf:∀s,s∈l->qac XV fk (.d (s.enc .sub)::caps) B=some (.d (.bool (P s)),B)):
 qac XV 281 [.d (qaa .sub l),.fn fk caps] B=some (.d (.int .i64 (qhm (qau (fun i=>P (tAt l i)) l.length 0))),B):=by
 rw[qah XV _ _ _ qK6 rfl qzF rfl];have h:=qal (X:=XV) (T:=XV.lin 281) (L:=B.length) (live:=[0,1,7,8]) (b:=qsG) (n:=l.length) (st:=fun(_:Unit) i=>⟨[(0,.d (qaa .sub l)),(1,.fn fk caps),(7,.d (.int .i64 l.length)),(8,.d (.int .i64 i))],B⟩) (step:=qb8 fun i=>P (tAt l i))
  (F:=fun _=>(.exit 0,⟨[(0,.d (qaa .sub l)),(1,.fn fk caps),(7,.d (.int .i64 l.length)),(8,.d (.int .i64 l.length)),(9,.d (.bool false))],B⟩)) (R:=fun(j:Nat)=>(.ret,⟨[(4,.d (.int .i64 j))],B⟩))
  (fun a=>⟨by simp,by simp[qsG,qnZ,qnY,qnX,qnW,qnV,qnU,qnT,qnS,hcc]⟩)
  (fun a i hi=>by
   have hw:=qai (n:=i) (by omega);have hc:=hf _ (qav hi);unfold qb8
   by_cases hq:P (tAt l i)=true
   ·rw[if_pos hq];rw[hq]at hc
    exact⟨by simp,by simp[qsG,qnZ,qnY,qnX,qnW,qnV,qnU,qnT,qnS,hi,hw,cut,qan hi,hc,hcc,hk]⟩
   ·rw[if_neg hq]
    have hq':P (tAt l i)=false:=by simpa using hq
    rw[hq']at hc;exact⟨_,by simp[qsG,qnZ,qnY,qnX,qnW,qnV,qnU,qnT,qnS,hi,hw,cut,qan hi,hc,hcc,hk];rfl,by simp[qad,qab,hs]⟩)
  l.length () 0 ⟨[(0,.d (qaa .sub l)),(1,.fn fk caps),(7,.d (.int .i64 l.length)),(8,.d (.int .i64 0))],B⟩ (by omega) (by simp[qad,qab,hs])
 rw[qqw]at h;simp only[qJQ]at h;simp[qK6,qnZ,qnY,qnX,qnW,qnV,qnU,qnT,qnS,hcc];rw[h];cases hq:qau (fun i=>P (tAt l i)) l.length 0<;>simp[qhm,qK6,qnZ,qnY,qnX,qnW,qnV,qnU,qnT,qnS]
theorem qAg(x:T)(f v:Int)(ks:List T)(hx:x.inner<=1099511627776)(ht:(T.node f v ks).inner<=1099511627776):
 qac XV 283 [.d (x.enc .sub),.ptr 0 0] [some [.d (.int .i64 f),.d (.int .i64 v),.d (qaa .sub ks)]]=some (.d (.bool (T.cmp x (.node f v ks)==0)),[some [.d (.int .i64 f),.d (.int .i64 v),.d (qaa .sub ks)]]):=by
 rw[qah XV _ _ _ qL0 rfl qzD rfl];have h:=same_eq x (.node f v ks) hx ht;obtain⟨f',v',ks'⟩:=x;simp[qL0,qHh,qHg,h]
def qdO(l:List T)(t:T)(i:Nat):Bool:=T.cmp (tAt l i) t==0
def qbj(l:List T)(j:Nat):List T:=l.take j++l.drop (j+1)
def takeN:List T->List T->List T⊕T
 |l,[]=> .inl l
 |l,t::ts=>match qau (qdO l t) l.length 0 with
  |none=> .inr t
  |some j=>takeN (qbj l j) ts
def qu5(ts:List T)(l:List T)(i:Nat):List T⊕T:=
 match qau (qdO l (tAt ts i)) l.length 0 with
 |some j=> .inl (qbj l j)
 |none=> .inr (tAt ts i)
theorem qMk(ts:List T):∀(k i:Nat) (l:List T),i+k=ts.length->runN (qu5 ts) k l i=takeN l (ts.drop i)
 |0,i,l,h=>by
  have h1:ts.drop i=[]:=List.drop_eq_nil_of_le (by omega);simp[runN,h1,takeN]
 |k+1,i,l,h=>by
  have hlt:i<ts.length:=by omega
  rw[List.drop_eq_getElem_cons hlt,qan hlt];simp only[runN,qu5,takeN];cases qau (qdO l (tAt ts i)) l.length 0 with
  |none=>rfl
  |some j=>exact qMk ts k (i+1) _ (by omega)
theorem qoT{l:List T}{j:Nat}{x:T}(h:x∈qbj l j):x∈l:=by
 unfold qbj at h;rcases List.mem_append.1 h with h|h
 ·exact List.mem_of_mem_take h
 ·exact List.mem_of_mem_drop h
theorem qoU{l:List T}{j:Nat}:(qbj l j).length<=l.length:=by unfold qbj;simp;omega
theorem qE0(l ts:List T)(hl:l.length<=1099511627776)(ht:ts.length<=1099511627776)(bl:∀x,x∈l->x.inner<=1099511627776)(bt:∀x,x∈ts->x.inner<=1099511627776):
 qac XV 282 [.d (qaa .sub l),.d (qaa .sub ts)] []=some (match takeN l ts with| .inl r=> .d (.tup [qaa .sub r,.bool true])| .inr _=> .d (.tup [.sl U [],.bool false]),[]):=by
 rw[qah XV _ _ _ qK5 rfl qzE rfl];have h:=qfw (X:=XV) (T:=XV.lin 282) (L:=0) (live:=[0,9,10,11]) (b:=qsF) (n:=ts.length) (γ:=T) (st:=fun(r:List T) i=>⟨[(0,.d (qaa .sub r)),(9,.d (qaa .sub ts)),(10,.d (.int .i64 ts.length)),(11,.d (.int .i64 i))],[]⟩) (step:=qu5 ts)
  (F:=fun r=>(.exit 0,⟨[(0,.d (qaa .sub r)),(9,.d (qaa .sub ts)),(10,.d (.int .i64 ts.length)),(11,.d (.int .i64 ts.length)),(12,.d (.bool false))],[]⟩)) (R:=fun q=>(.ret,⟨[(4,.d (.sl U [])),(5,.d (.bool false))],[some [.d (.int .i64 q.f),.d (.int .i64 q.v),.d (qaa .sub q.kids)]]⟩))
  (fun r _=>r.length<=1099511627776/\∀x,x∈r->x.inner<=1099511627776)
  (fun a _=>⟨by simp,by simp[qsF,qnR,qnQ,qnP,qnO,qnN,qnM,qnL,qnK,qnJ,qnI]⟩)
  (fun a i hi hinv=>by
   have hw:=qai (n:=i) (by omega);obtain⟨i1,i2⟩:=hinv;have hb:=bt _ (qav hi);generalize hq:tAt ts i=q at*
   obtain⟨f,v,ks⟩:=q;have hc:=qp1 a 283 [.ptr 0 0] [some [.d (.int .i64 f),.d (.int .i64 v),.d (qaa .sub ks)]] (fun x=>T.cmp x (.node f v ks)==0) i1 (by simp) (by simp) (by simp) (fun x hx=>qAg x f v ks (i2 x hx) hb);have hfe:(fun j=>T.cmp (tAt a j) (.node f v ks)==0)=qdO a (.node f v ks):=rfl;rw[hfe]at hc;unfold qu5;rw[hq];cases hfa:qau (qdO a (.node f v ks)) a.length 0 with
   |none=>
    rw[hfa]at hc;exact⟨⟨by simp,by simp[qsF,qnR,qnQ,qnP,qnO,qnN,qnM,qnL,qnK,qnJ,qnI,hi,cut,qan hi,hq,hc,qhm,splice]⟩,fun a' h=>by simp at h⟩
   |some j=>
    rw[hfa]at hc;obtain⟨_,hj,_⟩:=qci _ _ _ _ hfa;have hj0:¬((j:Int)<0):=by omega
    have hw2:=qmZ .sub (by simp) a j [] (by omega) i1;refine⟨⟨_,by simp[qsF,qnR,qnQ,qnP,qnO,qnN,qnM,qnL,qnK,qnJ,qnI,hi,hw,cut,qan hi,hq,hc,qhm,hw2,splice,hj0];rfl,by simp[qad,qab,qbj]⟩,fun a' h=> ?_⟩;simp only[Sum.inl.injEq]at h;subst h;exact⟨Nat.le_trans qoU i1,fun x hx=>i2 x (qoT hx)⟩)
  ts.length l 0 ⟨[(0,.d (qaa .sub l)),(9,.d (qaa .sub ts)),(10,.d (.int .i64 ts.length)),(11,.d (.int .i64 0))],[]⟩ (by omega) ⟨hl,bl⟩ (by simp[qad,qab])
 rw[qMk ts _ _ _ (by omega)]at h;simp only[qJP,List.drop_zero]at h;simp[qK5,qnR,qnQ,qnP,qnO,qnN,qnM,qnL,qnK,qnJ,qnI];rw[h];cases takeN l ts<;>simp[qK5,qnR,qnQ,qnP,qnO,qnN,qnM,qnL,qnK,qnJ,qnI]
abbrev is(l:List Int):DV:= .sl .sub (l.map (.int .i64))
@[simp high] theorem qPk(l:List Int):(l.map (DV.int .i64)).map DV.clr=l.map (DV.int .i64):=by simp[List.map_map,Function.comp_def]
section
variable (X:XEnv)
end
end Go.Proofs.YtbcbkiaineacpaaGreat.VS
