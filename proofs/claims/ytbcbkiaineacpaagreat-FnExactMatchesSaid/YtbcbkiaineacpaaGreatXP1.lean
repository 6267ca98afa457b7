/- Contracts of the program's functions on the evaluator without names, and plain lemmas: part 1. -/
import Derived.Test.YtbcbkiaineacpaaGreatLin
set_option linter.unusedSimpArgs false
set_option linter.unusedVariables false
namespace Go.Proofs.YtbcbkiaineacpaaGreat.VS
inductive T where
 |node (f v:Int) (kids:List T)
 deriving Inhabited
def T.f:T->Int| .node f _ _=>f
def T.v:T->Int| .node _ v _=>v
def T.kids:T->List T| .node _ _ k=>k
mutual
def T.enc(g:Tag):T->DV
 | .node f v ks=> .agg [.int .i64 f,.int .i64 v,.sl g (T.encs g ks)]
def T.encs(g:Tag):List T->List DV
 | []=>[]
 |t::r=>t.enc g::T.encs g r
end
theorem T.qdZ(g:Tag):∀l:List T,T.encs g l=l.map (T.enc g)
 | []=>by unfold T.encs;rfl
 |t::r=>by unfold T.encs;simp[T.qdZ g r]
abbrev qaa(g:Tag)(l:List T):DV:= .sl g (l.map (T.enc g))
theorem T.qbF(g:Tag)(t:T):t.enc g= .agg [.int .i64 t.f,.int .i64 t.v,qaa g t.kids]:=by
 cases t;simp[T.enc,T.qdZ,qaa,T.f,T.v,T.kids]
@[simp] theorem agg_enc(g:Tag)(f v:Int)(ks:List T):DV.agg [.int .i64 f,.int .i64 v,qaa g ks]=(T.node f v ks).enc g:=by
 simp[T.enc,T.qdZ,qaa]
@[simp] theorem T.eta(t:T):T.node t.f t.v t.kids=t:=by cases t;rfl
@[simp] theorem T.qbg(f v:Int)(k:List T):(T.node f v k).f=f:=rfl
@[simp] theorem T.qdQ(f v:Int)(k:List T):(T.node f v k).v=v:=rfl
@[simp] theorem T.qbd(f v:Int)(k:List T):(T.node f v k).kids=k:=rfl
@[simp] theorem T.qeP(g:Tag)(t:T):(t.enc g).cells=[.int .i64 t.f,.int .i64 t.v,qaa g t.kids]:=by rw[T.qbF];rfl
@[simp] theorem T.qi0(g:Tag)(t:T):(AV.d (t.enc g)).cells=[.d (.int .i64 t.f),.d (.int .i64 t.v),.d (qaa g t.kids)]:=by rw[T.qbF];rfl
@[simp] theorem T.qiY(g:Tag)(t:T):(t.enc g).isCell=false:=by rw[T.qbF];rfl
mutual
theorem T.qec(g:Tag):∀t:T,(t.enc g).clr=t.enc .sub
 | .node f v ks=>by simp only[T.enc,DV.clr,DV.clrs,T.qd0 g ks]
theorem T.qd0(g:Tag):∀l:List T,DV.clrs (T.encs g l)=T.encs .sub l
 | []=>by simp only[T.encs,DV.clrs]
 |t::r=>by simp only[T.encs,DV.clrs,T.qec g t,T.qd0 g r]
end
attribute [simp] T.qec
@[simp high] theorem qd9(g:Tag)(l:List T):(l.map (T.enc g)).map DV.clr=l.map (T.enc .sub):=by
 rw[<-T.qdZ,<-T.qdZ,<-DV.qaA,T.qd0]
def tAt(l:List T)(i:Nat):T:=(l[i]?).getD (.node 0 0 [])
theorem qap{l:List T}{i:Nat}(h:i<l.length):l[i]=tAt l i:=by simp[tAt,h]
theorem qav{l:List T}{i:Nat}(h:i<l.length):tAt l i∈l:=by rw[<-qap h];exact List.getElem_mem h
theorem qsq{l:List T}{i:Nat}(h:i<l.length):l[i]?=some (tAt l i):=by simp[tAt,h]
@[simp] theorem qRk(g:Tag){l:List T}{i:Nat}(h:i<l.length):(l.map (T.enc g))[i]?=some ((tAt l i).enc g):=by simp[qsq h]
mutual
def T.inner:T->Nat
 | .node _ _ ks=>ks.length+T.inners ks
def T.inners:List T->Nat
 | []=>0
 |t::r=>t.inner+T.inners r
end
theorem T.qgB(t:T):t.inner=t.kids.length+T.inners t.kids:=by cases t;simp[T.inner]
def leftOf(left:Int)(n:Nat):Int:=if left-n<0 then-1 else left-n
def stepT(l:List T)(left:Int)(i:Nat):Int⊕Unit:=if left-(tAt l i).inner<0 then .inr ()else .inl (left-(tAt l i).inner)
theorem runT(l:List T):∀(k i:Nat) (left:Int),i+k=l.length->0<=left->runN (stepT l) k left i=if left-T.inners (l.drop i)<0 then .inr ()else .inl (left-T.inners (l.drop i))
 |0,i,left,h,h0=>by
  have:l.drop i=[]:=List.drop_eq_nil_of_le (by omega);have h1:¬left<0:=by omega
  simp[runN,this,T.inners,h1]
 |k+1,i,left,h,h0=>by
  have hlt:i<l.length:=by omega
  have hs:T.inners (l.drop i)=(tAt l i).inner+T.inners (l.drop (i+1)):=by
   rw[List.drop_eq_getElem_cons hlt,qap hlt];simp only[T.inners]
  rw[hs];generalize hm:T.inners (l.drop (i+1))=m;have ih:=fun left h0=>runT l k (i+1) left (by omega) h0
  rw[hm]at ih;simp only[runN,stepT]
  by_cases h1:left-(tAt l i).inner<0
  ·have h2:left-((tAt l i).inner+m:Nat)<0:=by omega
   simp only[h1,h2,if_true]
  ·simp only[h1,if_false]
   rw[ih _ (by omega)];have e:left-(tAt l i).inner-(m:Int)=left-((tAt l i).inner+m:Nat):=by omega
   rw[e]
theorem qya(l:List T)(left:Int)(hl:l.length<=maxLen)(h0:0<=left)(h1:left<=1099511627776)
 (hc:∀t,t∈l->∀left,0<=left->left<=1099511627776->qac XV 1 [.d (t.enc .sub),.d (.int .i64 left)] []=some (.d (.int .i64 (leftOf left t.inner)),[])):
 qac XV 9 [.d (qaa .sub l),.d (.int .i64 left)] []=some (.d (.int .i64 (leftOf left (l.length+T.inners l))),[]):=by
 rw[qah XV _ _ _ v9 rfl qMu rfl];have hw:IntKind.i64.wrap (left-l.length)=left-l.length:=wrap_i64 (by unfold maxLen at hl;omega) (by omega)
 by_cases h:left-l.length<0
 ·have h2:leftOf left (l.length+T.inners l)= -1:=by unfold leftOf;rw[if_pos (by omega)]
  simp[v9,qWk,qWj,qWi,qWh,hw,h,h2]
 ·have hloop:=qeF (X:=XV) (T:=[]) (L:=0) (live:=[0,1,5]) (b:=qVm) (n:=l.length) (γ:=Unit) (st:=fun(left:Int) i=>⟨[(0,.d (qaa .sub l)),(1,.d (.int .i64 left)),(5,.d (.int .i64 i))],[]⟩) (step:=stepT l)
   (F:=fun left=>(.exit 0,⟨[(0,.d (qaa .sub l)),(1,.d (.int .i64 left)),(5,.d (.int .i64 l.length)),(15,.d (.bool false))],[]⟩)) (R:=fun _=>(.ret,⟨[(4,.d (.int .i64 (-1)))],[]⟩))
   (fun left _=>0<=left/\left<=1099511627776)
   (fun left _=>⟨by simp,by simp[qVm,qVv]⟩)
   (fun left i hi hinv=>by
    have hw:=qae (n:=i) (by unfold maxLen at hl;omega);have hc':=hc _ (qav hi) left hinv.1 hinv.2;unfold stepT
    by_cases h2:left-(tAt l i).inner<0
    ·have hl':leftOf left (tAt l i).inner= -1:=by unfold leftOf;rw[if_pos h2]
     rw[hl']at hc';simp only[h2,if_true];refine⟨⟨by simp,?_⟩,fun a' h=>by simp at h⟩;simp[qVm,qVv,qWg,qWf,qWe,qWd,hi,cut,qap hi,hc']
    ·have hl':leftOf left (tAt l i).inner=left-(tAt l i).inner:=by unfold leftOf;rw[if_neg h2]
     rw[hl']at hc';simp only[h2,if_false];refine⟨⟨_,by simp[qVm,qVv,qWg,qWf,qWe,qWd,hi,hw,cut,qap hi,hc',h2];rfl,by simp[qad,qab]⟩,fun a' h=>by simp at h;subst h;exact⟨by omega,by omega⟩⟩)
   l.length (left-l.length) 0 ⟨[(0,.d (qaa .sub l)),(1,.d (.int .i64 (left-l.length))),(5,.d (.int .i64 0))],[]⟩ (by omega) ⟨by omega,by omega⟩ (by simp[qad,qab])
  rw[runT l _ _ _ (by omega) (by omega),List.drop_zero]at hloop;simp[v9,qWk,qWj,qWi,qWh,qYg,hw,h];rw[hloop]
  by_cases h3:left-l.length-T.inners l<0
  ·have h4:leftOf left (l.length+T.inners l)= -1:=by unfold leftOf;rw[if_pos (by omega)]
   simp[h3,h4]
  ·have h4:leftOf left (l.length+T.inners l)=left-l.length-T.inners l:=by unfold leftOf;rw[if_neg (by omega)];omega
   simp[h3,h4,qRt]
mutual
def T.ok:T->Prop
 | .node _ _ ks=>ks.length<=maxLen/\T.oks ks
def T.oks:List T->Prop
 | []=>True
 |t::r=>t.ok/\T.oks r
end
theorem T.qph:∀l:List T,T.oks l↔∀t,t∈l->t.ok
 | []=>by simp[T.oks]
 |t::r=>by simp[T.oks,T.qph r]
theorem qj6(t:T)(left:Int)(ht:t.ok)(h0:0<=left)(h1:left<=1099511627776):qac XV 1 [.d (t.enc .sub),.d (.int .i64 left)] []=some (.d (.int .i64 (leftOf left t.inner)),[]):=by
 match t,ht with
 | .node f v ks,ht=>
  simp only[T.ok]at ht;have hc:=qya ks left ht.1 h0 h1 (fun s hs left h0 h1=>qj6 s left ((T.qph ks).1 ht.2 s hs) h0 h1);rw[qah XV _ _ _ v1 rfl qMB rfl];have hi:(T.node f v ks).inner=ks.length+T.inners ks:=by simp[T.inner]
  rw[hi]
  by_cases h:left-(ks.length+T.inners ks:Nat)<0
  ·have h2:leftOf left (ks.length+T.inners ks)= -1:=by unfold leftOf;rw[if_pos h]
   rw[h2]at hc⊢
   simp[v1,qWz,qWy,qWx,qWw,hc]
  ·have h2:leftOf left (ks.length+T.inners ks)=left-(ks.length+T.inners ks:Nat):=by unfold leftOf;rw[if_neg h]
   rw[h2]at hc⊢
   have h3:¬(left-((ks.length:Int)+T.inners ks))<0:=by omega
   simp[v1,qWz,qWy,qWx,qWw,qYL,hc,h3]
termination_by t
decreasing_by
 simp_wf
 have:=List.sizeOf_lt_of_mem hs;omega
theorem qo0(g:Tag)(l:List T):∀x:DV,x∈l.map (T.enc g)->qrk true 3 x:=by
 intro x hx;simp only[List.mem_map]at hx;obtain⟨t,_,rfl⟩:=hx;exact⟨by simp,by simp[qaf,qai],fun _=>⟨_,T.qbF g t⟩,by simp⟩
theorem qiN(g:Tag)(l:List T):∀x:DV,x∈l.map (T.enc g)->x.cells.length=3:=fun x hx=>(qo0 g l x hx).1
def zT:DV:= .agg [.int .i64 0,.int .i64 0,.sl U []]
def qzU(l:List T)(i:Nat):List AV:=qb5 (Go.Proofs.YtbcbkiaineacpaaGreat.VS.filled (l.map (T.enc U)) zT i)
theorem qHJ(l:List T)(i:Nat):(qzU l i).length=l.length*3:=by
 unfold qzU;rw[qja (sz:=3) (qem (qiN U l) rfl i),qgt];simp
theorem qHI(l:List T)(i:Nat)(h:i<l.length):splice (qzU l i) (i*3) [.d (.int .i64 (tAt l i).f),.d (.int .i64 (tAt l i).v),.d (qaa U (tAt l i).kids)]=qzU l (i+1):=by
 have h1:=qmx (sz:=3) (i:=i) (es:=Go.Proofs.YtbcbkiaineacpaaGreat.VS.filled (l.map (T.enc U)) zT i) (e:=(tAt l i).enc U) (qem (qiN U l) rfl i) (by simp) (by rw[qgt];simpa using h);have h2:=qni (l.map (T.enc U)) zT i (by simpa using h);simp only[T.qeP,List.map_cons,List.map_nil]at h1;unfold qzU;rw[h1,<-h2];simp[qap h]
theorem qBK(l:List T):qzU l 0=((List.replicate l.length zT).flatMap DV.cells).map .d:=by
 unfold qzU;rw[qlE];simp[qb5,flat]
theorem qHK(l:List T):qzU l l.length=qb5 (l.map (T.enc U)):=by
 unfold qzU;have:=qnj (l.map (T.enc U)) zT;rw[List.length_map]at this;rw[this]
theorem qx8(l:List T)(hl:l.length<=1099511627776)(hc:∀t,t∈l->qac XV 2 [.d (t.enc .sub)] []=some (.d (t.enc U),[])):
 qac XV 8 [.d (qaa .sub l)] []=some (.d (qaa U l),[]):=by
 rw[qah XV _ _ _ v8 rfl qMv rfl];have hloop:=qag (X:=XV) (T:=XV.lin 8) (L:=1) (live:=[0,3,4]) (b:=qVA) (n:=l.length) (γ:=Unit) (st:=fun(_:Unit) i=>⟨[(0,.d (qaa .sub l)),(3,.bsl [] true 0 3 l.length),(4,.d (.int .i64 i))],[some (qzU l i)]⟩) (step:=fun _ _=> .inl ())
  (F:=fun _=>(.exit 0,⟨[(0,.d (qaa .sub l)),(3,.bsl [] true 0 3 l.length),(4,.d (.int .i64 l.length)),(11,.d (.bool false))],[some (qzU l l.length)]⟩)) (R:=fun _=>(.ret,⟨[],[]⟩))
  (fun _=>⟨by simp,by simp[qVA,qWl]⟩)
  (fun _ i hi=>by
   have hw:=qae (n:=i) (by omega);have hc':=hc _ (qav hi);have hlen:=qHJ l i;have hle:i*3+3<=l.length*3:=by omega
   have hset:=qHI l i hi;refine⟨_,by simp[qVA,qWl,qYj,qYi,hi,hw,cut,qap hi,hc',hlen,hle,hset,qaf,qai,qam,qaC];rfl,by simp[qad,qab]⟩)
  l.length () 0 ⟨[(0,.d (qaa .sub l)),(3,.bsl [] true 0 3 l.length),(4,.d (.int .i64 0))],[some (qzU l 0)]⟩ (by omega) (by simp[qad,qab])
 have hrun:∀k i,runN (fun(_:Unit) (_:Nat)=>(Sum.inl ():Unit⊕Unit)) k () i= .inl ():=by
  intro k;induction k with
  |zero=>intro i;rfl
  |succ k ih=>intro i;simp[runN,ih]
 rw[hrun,qBK]at hloop;have hch:=qcG (l.map (T.enc U)) (qo0 U l);rw[List.length_map]at hch;have hfl:(flat (l.map (T.enc U))).length=l.length*3:=by rw[qck (qiN U l)];simp
 have hall:=qHK l;simp only[zT,qXc]at hloop;have hle2:l.length*40<=140737488355328:=by omega
 have hlt:(l.length:Int)<9223372036854775808:=by omega
 have hlt2:l.length<9223372036854775808:=by omega
 simp[v8,qYm,qYl,qYk,qYh,isAgg,hle2,hlt];rw[hloop];simp[hall,qlJ,hch,hfl,hlt2]
end Go.Proofs.YtbcbkiaineacpaaGreat.VS
namespace Go.Proofs.YtbcbkiaineacpaaGreat.VS
set_option profiler true
set_option profiler.threshold 2000
theorem T.qay:∀{l:List T} {t:T},t∈l->t.inner<=T.inners l
 | [],t,h=>by simp at h
 |s::r,t,h=>by
  simp only[T.inners];rcases List.mem_cons.1 h with rfl|h
  ·omega
  ·have:=T.qay h;omega
theorem qj4(t:T)(hi:t.inner<=1099511627776):qac XV 2 [.d (t.enc .sub)] []=some (.d (t.enc U),[]):=by
 match t,hi with
 | .node f v ks,hi=>
  simp only[T.inner]at hi;have hc:=qx8 ks (by omega) (fun s hs=>qj4 s (by have:=T.qay hs;omega));rw[qah XV _ _ _ v2 rfl qMA rfl];simp[v2,qYK,qYJ,qYI,qYH,qYG,qYF,hc,splice,qak,AV.qaA,qaf,qai,qam,qaC]
termination_by t
decreasing_by
 simp_wf
 have:=List.sizeOf_lt_of_mem hs;omega
theorem qzb(l:List T)(hl:l.length<=1099511627776)(hc:∀t,t∈l->qac XV 5 [.d (t.enc .sub),.d (t.enc .sub)] []=some (.d (.bool true),[])):
 qac XV 7 [.d (qaa .sub l),.d (qaa .sub l)] []=some (.d (.bool true),[]):=by
 rw[qah XV _ _ _ v7 rfl qMw rfl];have hloop:=qag (X:=XV) (T:=[]) (L:=0) (live:=[0,1,5]) (b:=qVB) (n:=l.length) (γ:=Unit) (st:=fun(_:Unit) i=>⟨[(0,.d (qaa .sub l)),(1,.d (qaa .sub l)),(5,.d (.int .i64 i))],[]⟩) (step:=fun _ _=> .inl ())
  (F:=fun _=>(.exit 0,⟨[(0,.d (qaa .sub l)),(1,.d (qaa .sub l)),(5,.d (.int .i64 l.length)),(14,.d (.bool false))],[]⟩)) (R:=fun _=>(.ret,⟨[],[]⟩))
  (fun _=>⟨by simp,by simp[qVB,qWn]⟩)
  (fun _ i hi=>by
   have hw:=qae (n:=i) (by omega);have hc':=hc _ (qav hi);refine⟨_,by simp[qVB,qWn,qYp,qZP,qYo,hi,hw,cut,qap hi,hc'];rfl,by simp[qad,qab]⟩)
  l.length () 0 ⟨[(0,.d (qaa .sub l)),(1,.d (qaa .sub l)),(5,.d (.int .i64 0))],[]⟩ (by omega) (by simp[qad,qab])
 have hrun:∀k i,runN (fun(_:Unit) (_:Nat)=>(Sum.inl ():Unit⊕Unit)) k () i= .inl ():=by
  intro k;induction k with
  |zero=>intro i;rfl
  |succ k ih=>intro i;simp[runN,ih]
 rw[hrun]at hloop;simp[v7,qYt,qYs,qYr,qYq,qYn];rw[hloop];simp
theorem qfu(t:T)(hi:t.inner<=1099511627776):qac XV 5 [.d (t.enc .sub),.d (t.enc .sub)] []=some (.d (.bool true),[]):=by
 match t,hi with
 | .node f v ks,hi=>
  simp only[T.inner]at hi;have hc:=qzb ks (by omega) (fun s hs=>qfu s (by have:=T.qay hs;omega));rw[qah XV _ _ _ v5 rfl qMx rfl];simp[v5,qYB,qYA,qYz,qYy,qYx,qYw,qYv,qYu,hc]
termination_by t
decreasing_by
 simp_wf
 have:=List.sizeOf_lt_of_mem hs;omega
mutual
def T.cmp:T->T->Int
 | .node f v ks,.node f' v' ks'=>
  if f<f' then-1 else if f>f' then 1 else if v<v' then-1 else if v>v' then 1 else
  if ks.length<ks'.length then-1 else if ks.length>ks'.length then 1 else T.cmps ks ks'
def T.cmps:List T->List T->Int
 |a::as,b::bs=>if T.cmp a b≠0 then T.cmp a b else T.cmps as bs
 |_,_=>0
end
def qmh(l m:List T)(_:Unit)(i:Nat):Unit⊕Int:=if T.cmp (tAt l i) (tAt m i)≠0 then .inr (T.cmp (tAt l i) (tAt m i))else .inl ()
theorem qRs(l m:List T)(hl:l.length=m.length):∀(k i:Nat),i+k=l.length->runN (qmh l m) k () i=if T.cmps (l.drop i) (m.drop i)=0 then .inl ()else .inr (T.cmps (l.drop i) (m.drop i))
 |0,i,h=>by
  have h1:l.drop i=[]:=List.drop_eq_nil_of_le (by omega);simp[runN,h1,T.cmps]
 |k+1,i,h=>by
  have hlt:i<l.length:=by omega
  have hlt':i<m.length:=by omega
  rw[List.drop_eq_getElem_cons hlt,List.drop_eq_getElem_cons hlt',qap hlt,qap hlt'];simp only[runN,qmh,T.cmps]
  by_cases hc:T.cmp (tAt l i) (tAt m i)=0
  ·simp only[hc,ne_eq,not_true_eq_false,if_false]
   exact qRs l m hl k (i+1) (by omega)
  ·simp[hc]
def qf4(a b c d e f:Int)(i:Nat):Int×Int:=if i=0 then(a,b)else if i=1 then(c,d)else(e,f)
def qj8(a b c d e f:Int)(_:Unit)(i:Nat):Unit⊕(Int×(Int×Int)):=if(qf4 a b c d e f i).1<(qf4 a b c d e f i).2 then .inr (-1,qf4 a b c d e f i)else if(qf4 a b c d e f i).1>(qf4 a b c d e f i).2 then .inr (1,qf4 a b c d e f i)else .inl ()
def qeR(f v:Int)(ks:List T)(f' v':Int)(ks':List T):qal:=[some [.d (.int .i64 f),.d (.int .i64 v),.d (qaa .sub ks)],some [.d (.int .i64 f'),.d (.int .i64 v'),.d (qaa .sub ks')]]
def qzv(a b c d e f:Int):List DV:=[.agg [.int .i64 a,.int .i64 b],.agg [.int .i64 c,.int .i64 d],.agg [.int .i64 e,.int .i64 f]]
theorem qxo(a b c d e f:Int)(i:Nat)(hi:i<3):(qzv a b c d e f)[i]?=some (.agg [.int .i64 (qf4 a b c d e f i).1,.int .i64 (qf4 a b c d e f i).2]):=by
 match i,hi with
 |0,_=>rfl
 |1,_=>rfl
 |2,_=>rfl
theorem qzq(a b c d e f:Int)(B:qal)(hB:B.length=2):
 qbw XV [] 2 [2,3,26,27,28] qzP ⟨[(2,.ptr 0 0),(3,.ptr 1 0),(26,.d (.sl .sub (qzv a b c d e f))),(27,.d (.int .i64 3)),(28,.d (.int .i64 0))],B⟩=
  some (match runN (qj8 a b c d e f) 3 () 0 with
   | .inl _=>(.exit 0,⟨[(2,.ptr 0 0),(3,.ptr 1 0),(26,.d (.sl .sub (qzv a b c d e f))),(27,.d (.int .i64 3)),(28,.d (.int .i64 3)),(29,.d (.bool false))],B⟩)
   | .inr r=>(.ret,⟨[(4,.d (.int .i64 r.1))],B++[some [.d (.int .i64 r.2.1),.d (.int .i64 r.2.2)]]⟩)):=by
 obtain⟨x0,x1,rfl⟩:∃x0 x1,B=[x0,x1]:=by
  match B,hB with
  | [x0,x1],_=>exact⟨x0,x1,rfl⟩
 have key:=qag (X:=XV) (T:=[]) (L:=2) (live:=[2,3,26,27,28]) (b:=qzP) (n:=3) (γ:=Int×(Int×Int)) (st:=fun(_:Unit) i=>⟨[(2,.ptr 0 0),(3,.ptr 1 0),(26,.d (.sl .sub (qzv a b c d e f))),(27,.d (.int .i64 3)),(28,.d (.int .i64 i))],[x0,x1]⟩) (step:=qj8 a b c d e f)
  (F:=fun _=>(.exit 0,⟨[(2,.ptr 0 0),(3,.ptr 1 0),(26,.d (.sl .sub (qzv a b c d e f))),(27,.d (.int .i64 3)),(28,.d (.int .i64 3)),(29,.d (.bool false))],[x0,x1]⟩)) (R:=fun r=>(.ret,⟨[(4,.d (.int .i64 r.1))],[x0,x1]++[some [.d (.int .i64 r.2.1),.d (.int .i64 r.2.2)]]⟩))
  (fun _=>⟨by simp,by simp[qzP,qH7]⟩)
  (fun _ i hi=>by
   have hw:=qae (n:=i) (by omega);have hi':(i:Int)<3:=by omega
   have hb:=qxo a b c d e f i hi;unfold qj8;generalize qf4 a b c d e f i=q at hb;obtain⟨x,y⟩:=q;simp only at hb⊢
   by_cases h1:x<y
   ·rw[if_pos h1]
    refine⟨by simp,?_⟩;simp[qzP,qH7,qNj,qNi,qNh,hi',hb,cut,h1,qaf,splice,qak,qam,qaC]
   ·rw[if_neg h1]
    by_cases h2:x>y
    ·rw[if_pos h2]
     refine⟨by simp,?_⟩;simp[qzP,qH7,qNj,qNi,qNh,qRN,qRM,hi',hb,cut,h1,h2,qaf,splice,qak,qam,qaC]
    ·rw[if_neg h2]
     refine⟨_,by simp[qzP,qH7,qNj,qNi,qNh,qRN,qRM,qWp,hi',hb,cut,h1,h2,hw,qaf,splice,qak,qam,qaC];rfl,?_⟩;simp[qad,qab])
  3 () 0 ⟨[(2,.ptr 0 0),(3,.ptr 1 0),(26,.d (.sl .sub (qzv a b c d e f))),(27,.d (.int .i64 3)),(28,.d (.int .i64 0))],[x0,x1]⟩ (by omega) (by simp[qad,qab])
 rw[key];cases runN (qj8 a b c d e f) 3 () 0<;>rfl
theorem qzp(f v:Int)(ks:List T)(f' v':Int)(ks':List T)(hl:ks.length<=1099511627776)(hlen:ks.length=ks'.length)
 (hrec:∀s s',s∈ks->s'∈ks'->qac XV 6 [.d (s.enc .sub),.d (s'.enc .sub)] []=some (.d (.int .i64 (T.cmp s s')),[])):
 qbw XV [] 2 [2,3,47,48] qFZ ⟨[(2,.ptr 0 0),(3,.ptr 1 0),(47,.d (.int .i64 ks.length)),(48,.d (.int .i64 0))],qeR f v ks f' v' ks'⟩=
  some (if T.cmps ks ks'=0 then(.exit 3,⟨[(2,.ptr 0 0),(3,.ptr 1 0),(47,.d (.int .i64 ks.length)),(48,.d (.int .i64 ks.length)),(49,.d (.bool false))],qeR f v ks f' v' ks'⟩)else(.ret,⟨[(4,.d (.int .i64 (T.cmps ks ks')))],qeR f v ks f' v' ks'⟩)):=by
 have h:=qag (X:=XV) (T:=[]) (L:=2) (live:=[2,3,47,48]) (b:=qFZ) (n:=ks.length) (γ:=Int) (st:=fun(_:Unit) i=>⟨[(2,.ptr 0 0),(3,.ptr 1 0),(47,.d (.int .i64 ks.length)),(48,.d (.int .i64 i))],qeR f v ks f' v' ks'⟩) (step:=qmh ks ks')
  (F:=fun _=>(.exit 3,⟨[(2,.ptr 0 0),(3,.ptr 1 0),(47,.d (.int .i64 ks.length)),(48,.d (.int .i64 ks.length)),(49,.d (.bool false))],qeR f v ks f' v' ks'⟩)) (R:=fun r=>(.ret,⟨[(4,.d (.int .i64 r))],qeR f v ks f' v' ks'⟩))
  (fun _=>⟨by simp,by simp[qFZ,qsE]⟩)
  (fun _ i hi=>by
   have hw:=qae (n:=i) (by omega);have hi2:i<ks'.length:=by omega
   have hc:=hrec _ _ (qav hi) (qav hi2);unfold qmh qeR
   by_cases h0:T.cmp (tAt ks i) (tAt ks' i)=0
   ·rw[h0]at hc⊢
    simp only[ne_eq,not_true_eq_false,if_false];refine⟨_,by simp[qFZ,qsE,qB4,qI5,qB3,qB2,qB1,hi,hi2,hw,cut,qap hi,qap hi2,hc,qak];rfl,?_⟩;simp[qad,qab]
   ·simp only[ne_eq,h0,not_false_eq_true,if_true]
    have h0':(T.cmp (tAt ks i) (tAt ks' i) !=0)=true:=by simp[h0]
    refine⟨by simp,?_⟩;simp[qFZ,qsE,qB4,qI5,qB3,qB2,qB1,hi,hi2,cut,qap hi,qap hi2,hc,qak,h0'])
  ks.length () 0 ⟨[(2,.ptr 0 0),(3,.ptr 1 0),(47,.d (.int .i64 ks.length)),(48,.d (.int .i64 0))],qeR f v ks f' v' ks'⟩ (by omega) (by simp[qad,qab,qeR])
 rw[qRs ks ks' hlen _ _ (by omega)]at h;simp only[List.drop_zero]at h;rw[h]
 by_cases h0:T.cmps ks ks'=0<;>simp[h0]
def qrw(a b c d e f:Int)(r:Int):Int:=if a<b then-1 else if a>b then 1 else if c<d then-1 else if c>d then 1 else if e<f then-1 else if e>f then 1 else r
theorem qYd(a b c d e f:Int):(runN (qj8 a b c d e f) 3 () 0= .inl ()/\a=b/\c=d/\e=f)\/∃r,runN (qj8 a b c d e f) 3 () 0= .inr r/\∀z,qrw a b c d e f z=r.1:=by
 simp only[runN,qj8,qf4,qrw]
 by_cases c1:a<b
 ·right;refine⟨_,by simp[c1];rfl,fun z=> ?_⟩;simp[c1]
 by_cases c2:a>b
 ·right;refine⟨_,by simp[c1,c2];rfl,fun z=> ?_⟩;simp[c1,c2]
 by_cases c3:c<d
 ·right;refine⟨_,by simp[c1,c2,c3];rfl,fun z=> ?_⟩;simp[c1,c2,c3]
 by_cases c4:c>d
 ·right;refine⟨_,by simp[c1,c2,c3,c4];rfl,fun z=> ?_⟩;simp[c1,c2,c3,c4]
 by_cases c5:e<f
 ·right;refine⟨_,by simp[c1,c2,c3,c4,c5];rfl,fun z=> ?_⟩;simp[c1,c2,c3,c4,c5]
 by_cases c6:e>f
 ·right;refine⟨_,by simp[c1,c2,c3,c4,c5,c6];rfl,fun z=> ?_⟩;simp[c1,c2,c3,c4,c5,c6]
 left;exact⟨by simp[c1,c2,c3,c4,c5,c6],by omega,by omega,by omega⟩
theorem qjU(f v:Int)(ks:List T)(f' v':Int)(ks':List T):T.cmp (.node f v ks) (.node f' v' ks')=qrw f f' v v' ks.length ks'.length (T.cmps ks ks'):=by
 simp only[T.cmp,qrw,Int.ofNat_lt,gt_iff_lt]
theorem qzo(f v:Int)(ks:List T)(f' v':Int)(ks':List T)(hl:ks.length<=1099511627776)(hl':ks'.length<=1099511627776)
 (hrec:∀s s',s∈ks->s'∈ks'->qac XV 6 [.d (s.enc .sub),.d (s'.enc .sub)] []=some (.d (.int .i64 (T.cmp s s')),[])):
 qac XV 6 [.d ((T.node f v ks).enc .sub),.d ((T.node f' v' ks').enc .sub)] []=some (.d (.int .i64 (T.cmp (.node f v ks) (.node f' v' ks'))),[]):=by
 rw[qah XV _ _ _ v6 rfl qAg rfl];have h1:=qzq f f' v v' ks.length ks'.length (qeR f v ks f' v' ks') rfl;simp[v6,qWr,qWq,qaf,qai,qam,qaC,splice,qak,qaX,List.replicate];simp only[qzv,qeR]at h1;rw[h1,qjU];rcases qYd f f' v v' ks.length ks'.length with⟨h3,e1,e2,e3⟩|⟨r,h3,h4⟩
 ·rw[h3]
  have hlen:ks.length=ks'.length:=by omega
  have h2:=qzp f v ks f' v' ks' hl hlen hrec;simp only[qeR]at h2;subst e1;subst e2
  simp[qWo,qak];rw[h2];have h5:qrw f f v v ks.length ks'.length (T.cmps ks ks')=T.cmps ks ks':=by simp[qrw,hlen]
  rw[h5]
  by_cases c7:T.cmps ks ks'=0
  ·simp[c7,qNk]
  ·simp[c7]
 ·rw[h3,h4];simp
theorem qgu(a b:T)(ha:a.inner<=1099511627776)(hb:b.inner<=1099511627776):qac XV 6 [.d (a.enc .sub),.d (b.enc .sub)] []=some (.d (.int .i64 (T.cmp a b)),[]):=by
 match a,b,ha,hb with
 | .node f v ks,.node f' v' ks',ha,hb=>
  simp only[T.inner]at ha hb;exact qzo f v ks f' v' ks' (by omega) (by omega) (fun s s' hs hs'=>qgu s s' (by have:=T.qay hs;omega) (by have:=T.qay hs';omega))
termination_by a
decreasing_by
 simp_wf
 have:=List.sizeOf_lt_of_mem hs;omega
end Go.Proofs.YtbcbkiaineacpaaGreat.VS
namespace Go.Proofs.YtbcbkiaineacpaaGreat.VS
theorem cmp_zero(f v:Int)(ks:List T)(f' v':Int)(ks':List T):T.cmp (.node f v ks) (.node f' v' ks')=0↔f=f'/\v=v'/\ks.length=ks'.length/\T.cmps ks ks'=0:=by
 rw[qjU];unfold qrw
 constructor
 ·intro h
  iterate 6 (split at h;·omega)
  exact⟨by omega,by omega,by omega,h⟩
 ·rintro⟨rfl,rfl,h,h'⟩
  simp[h,h']
theorem qsv(f v:Int)(ks:List T)(f' v':Int)(ks':List T)(hl:ks.length<=1099511627776)(hl':ks'.length<=1099511627776)
 (hrec:∀s s',s∈ks->s'∈ks'->qac XV 3 [.d (s.enc .sub),.d (s'.enc .sub)] []=some (.d (.bool (T.cmp s s'==0)),[])):
 qac XV 3 [.d ((T.node f v ks).enc .sub),.d ((T.node f' v' ks').enc .sub)] []=some (.d (.bool (T.cmp (.node f v ks) (.node f' v' ks')==0)),[]):=by
 rw[qah XV _ _ _ v3 rfl qMz rfl];have hz:=cmp_zero f v ks f' v' ks';have ne:¬(f=f'/\v=v'/\ks.length=ks'.length/\T.cmps ks ks'=0)->(T.cmp (.node f v ks) (.node f' v' ks')==0)=false:=fun h=>by
  rw[<-hz]at h;simpa using h
 by_cases c1:f=f'
 case neg=>
  rw[ne (fun h=>c1 h.1)];have b1:(f !=f')=true:=by simp[c1]
  simp[v3,qSc,qSb,qSa,b1]
 by_cases c2:v=v'
 case neg=>
  rw[ne (fun h=>c2 h.2.1)];have b2:(v !=v')=true:=by simp[c2]
  simp[v3,qSc,qSb,qSa,c1,b2]
 by_cases c3:ks.length=ks'.length
 case neg=>
  rw[ne (fun h=>c3 h.2.2.1)];have b3:((ks.length:Int) !=ks'.length)=true:=by simp;omega
  simp[v3,qSc,qSb,qSa,c1,c2,b3]
 have h:=qag (X:=XV) (T:=[]) (L:=2) (live:=[2,3,5]) (b:=qVn) (n:=ks.length) (γ:=Int) (st:=fun(_:Unit) i=>⟨[(2,.ptr 0 0),(3,.ptr 1 0),(5,.d (.int .i64 i))],qeR f v ks f' v' ks'⟩) (step:=qmh ks ks')
  (F:=fun _=>(.exit 0,⟨[(2,.ptr 0 0),(3,.ptr 1 0),(5,.d (.int .i64 ks.length)),(31,.d (.bool false))],qeR f v ks f' v' ks'⟩)) (R:=fun r=>(.ret,⟨[(4,.d (.bool false))],qeR f v ks f' v' ks'⟩))
  (fun _=>⟨by simp,by simp[qVn,qVw,qeR]⟩)
  (fun _ i hi=>by
   have hw:=qae (n:=i) (by omega);have hi2:i<ks'.length:=by omega
   have hc:=hrec _ _ (qav hi) (qav hi2);unfold qmh qeR
   by_cases h0:T.cmp (tAt ks i) (tAt ks' i)=0
   ·rw[h0]at hc⊢
    simp only[ne_eq,not_true_eq_false,if_false];refine⟨_,by simp[qVn,qVw,qWv,qZi,qWt,hi,hi2,hw,cut,qap hi,qap hi2,hc];rfl,?_⟩;simp[qad,qab]
   ·simp only[ne_eq,h0,not_false_eq_true,if_true]
    have h0':(T.cmp (tAt ks i) (tAt ks' i)==0)=false:=by simp[h0]
    rw[h0']at hc;refine⟨by simp,?_⟩;simp[qVn,qVw,qWv,qZi,qWt,hi,hi2,cut,qap hi,qap hi2,hc])
  ks.length () 0 ⟨[(2,.ptr 0 0),(3,.ptr 1 0),(5,.d (.int .i64 0))],qeR f v ks f' v' ks'⟩ (by omega) (by simp[qad,qab,qeR])
 rw[qRs ks ks' c3 _ _ (by omega)]at h;simp only[List.drop_zero,qeR]at h;simp[v3,qSc,qSb,qSa,qYE,c1,c2,c3];subst c1;subst c2
 rw[c3]at h;rw[h]
 by_cases h0:T.cmps ks ks'=0
 ·have:T.cmp (.node f v ks) (.node f v ks')=0:=hz.2 ⟨rfl,rfl,c3,h0⟩
  simp[h0,qWs,this]
 ·have:¬T.cmp (.node f v ks) (.node f v ks')=0:=fun h=>h0 (hz.1 h).2.2.2
  simp[h0,qWs,this]
theorem qc7(a b:T)(ha:a.inner<=1099511627776)(hb:b.inner<=1099511627776):qac XV 3 [.d (a.enc .sub),.d (b.enc .sub)] []=some (.d (.bool (T.cmp a b==0)),[]):=by
 match a,b,ha,hb with
 | .node f v ks,.node f' v' ks',ha,hb=>
  simp only[T.inner]at ha hb;exact qsv f v ks f' v' ks' (by omega) (by omega) (fun s s' hs hs'=>qc7 s s' (by have:=T.qay hs;omega) (by have:=T.qay hs';omega))
termination_by a
decreasing_by
 simp_wf
 have:=List.sizeOf_lt_of_mem hs;omega
theorem same_eq(a b:T)(ha:a.inner<=1099511627776)(hb:b.inner<=1099511627776):qac XV 4 [.d (a.enc .sub),.d (b.enc .sub)] []=some (.d (.bool (T.cmp a b==0)),[]):=by
 rw[qah XV _ _ _ v4 rfl qMy rfl];have h:=qgu a b ha hb;simp[v4,qYD,qYC,h]
theorem qd1{left:Int}{n:Nat}(h:left-n<0):leftOf left n= -1:=by unfold leftOf;rw[if_pos h]
theorem qeG{left:Int}{n:Nat}(h:¬left-n<0):leftOf left n=left-n:=by unfold leftOf;rw[if_neg h]
def qzW(es:List DV)(z:DV)(i:Nat):List AV:=qb5 (Go.Proofs.YtbcbkiaineacpaaGreat.VS.filled es z i)
theorem qHQ{sz:Nat}{es:List DV}{z:DV}(h:∀x:DV,x∈es->x.cells.length=sz)(hz:z.cells.length=sz)(i:Nat):(qzW es z i).length=es.length*sz:=by
 unfold qzW;rw[qja (qem h hz i),qgt]
theorem qHP{sz:Nat}{es:List DV}{z:DV}(h:∀x:DV,x∈es->x.cells.length=sz)(hz:z.cells.length=sz)(i:Nat)(hi:i<es.length):splice (qzW es z i) (i*sz) (es[i].cells.map .d)=qzW es z (i+1):=by
 have h1:=qmx (i:=i) (qem h hz i) (e:=es[i]) (h _ (List.getElem_mem hi)) (by rw[qgt];exact hi);unfold qzW;rw[h1,qni es z i hi]
theorem qBM(es:List DV)(z:DV):qzW es z 0=((List.replicate es.length z).flatMap DV.cells).map .d:=by
 unfold qzW;rw[qlE];simp[qb5,flat]
theorem qHR(es:List DV)(z:DV):qzW es z es.length=qb5 es:=by
 unfold qzW;rw[qnj]
theorem qdp(k i:Nat):runN (fun(_:Unit) (_:Nat)=>(Sum.inl ():Unit⊕Unit)) k () i= .inl ():=by
 induction k generalizing i with
 |zero=>rfl
 |succ k ih=>simp[runN,ih]
def stepW(w:Nat->Nat)(left:Int)(i:Nat):Int⊕Unit:=if left-w i<0 then .inr ()else .inl (left-w i)
def qzT(w:Nat->Nat):Nat->Nat->Nat
 |_,0=>0
 |i,k+1=>w i+qzT w (i+1) k
theorem qYc(w:Nat->Nat):∀(k i:Nat) (left:Int),0<=left->runN (stepW w) k left i=if left-qzT w i k<0 then .inr ()else .inl (left-qzT w i k)
 |0,i,left,h0=>by
  have h1:¬left<0:=by omega
  simp[runN,qzT,h1]
 |k+1,i,left,h0=>by
  simp only[runN,stepW,qzT]
  by_cases h1:left-w i<0
  ·have h2:left-(w i+qzT w (i+1) k:Nat)<0:=by omega
   simp only[h1,h2,if_true]
  ·simp only[h1,if_false]
   rw[qYc w k _ _ (by omega)];have e:left-w i-(qzT w (i+1) k:Int)=left-(w i+qzT w (i+1) k:Nat):=by omega
   rw[e];rfl
@[simp] theorem qUn(cs:List DV):isAgg (.agg cs)=true:=rfl
@[simp] theorem qUm(k:IntKind)(n:Int):isAgg (.int k n)=false:=rfl
@[simp] theorem qX1(s:SymL):s.enc.cn=s.enc:=by simp[SymL.enc,SymL.cells]
@[simp] theorem qUl(s:SymL):isAgg s.enc=true:=rfl
@[simp] theorem qVz(s:SymL):s.enc.clr=s.enc:=by simp[SymL.enc,SymL.cells]
@[simp] theorem qzz(s:SymL):s.enc.cells=[.str s.name,.int .i64 s.arity,.bool s.ac]:=rfl
@[simp] theorem qPC(s:SymL):(AV.d s.enc).cells=[.d (.str s.name),.d (.int .i64 s.arity),.d (.bool s.ac)]:=rfl
@[simp] theorem qOH(s:SymL):s.enc.isCell=false:=rfl
@[simp] theorem qVD(n:ByteArray)(a:Int)(b:Bool):DV.agg [.str n,.int .i64 a,.bool b]=SymL.enc ⟨n,a,b⟩:=rfl
@[simp high] theorem qVf(l:List SymL):(l.map SymL.enc).map DV.clr=l.map SymL.enc:=by simp[List.map_map,Function.comp_def]
def qax(l:List SymL)(i:Nat):SymL:=(l[i]?).getD ⟨⟨#[]⟩,0,false⟩
theorem qaq{l:List SymL}{i:Nat}(h:i<l.length):l[i]=qax l i:=by simp[qax,h]
theorem qpE{l:List SymL}{i:Nat}(h:i<l.length):qax l i∈l:=by rw[<-qaq h];exact List.getElem_mem h
abbrev sg(l:List SymL):DV:= .sl .sub (l.map SymL.enc)
theorem qHp(s:SymL)(left:Int)(h0:0<=left)(h1:left<=1099511627776)(hs:s.name.size<=maxLen):qac XV 17 [.d s.enc,.d (.int .i64 left)] []=some (.d (.int .i64 (leftOf left s.name.size)),[]):=by
 rw[qah XV _ _ _ v17 rfl qGX rfl];have hw:IntKind.i64.wrap (left-s.name.size)=left-s.name.size:=wrap_i64 (by unfold maxLen at hs;omega) (by omega);unfold leftOf
 by_cases h:left-s.name.size<0
 ·simp[v17,qNG,qNF,qNE,qND,qNC,hw,h]
 ·simp[v17,qNG,qNF,qNE,qND,qNC,hw,h]
def qdh(l:List SymL):Nat:=l.length+qzT (fun i=>(qax l i).name.size) 0 l.length
theorem qBv(l:List SymL)(left:Int)(hl:l.length<=maxLen)(ho:∀s,s∈l->s.ok)(h0:0<=left)(h1:left<=1099511627776):qac XV 11 [.d (sg l),.d (.int .i64 left)] []=some (.d (.int .i64 (leftOf left (qdh l))),[]):=by
 rw[qah XV _ _ _ v11 rfl qG3 rfl];have hw:IntKind.i64.wrap (left-l.length)=left-l.length:=wrap_i64 (by unfold maxLen at hl;omega) (by omega);unfold qdh;generalize hwd:(fun i=>(qax l i).name.size)=w
 by_cases h:left-l.length<0
 ·rw[qd1 (by omega)]
  simp[v11,qNV,qNU,qNT,qNS,qNR,qDM,hw,h]
 ·have hloop:=qeF (X:=XV) (T:=[]) (L:=0) (live:=[0,1,5]) (b:=qF4) (n:=l.length) (γ:=Unit) (st:=fun(left:Int) i=>⟨[(0,.d (sg l)),(1,.d (.int .i64 left)),(5,.d (.int .i64 i))],[]⟩) (step:=stepW w)
   (F:=fun left=>(.exit 0,⟨[(0,.d (sg l)),(1,.d (.int .i64 left)),(5,.d (.int .i64 l.length)),(15,.d (.bool false))],[]⟩)) (R:=fun _=>(.ret,⟨[(4,.d (.int .i64 (-1)))],[]⟩))
   (fun left _=>0<=left/\left<=1099511627776)
   (fun left _=>⟨by simp,by simp[qF4,qIl,qIj,qIi,qIh,qIk]⟩)
   (fun left i hi hinv=>by
    have hw:=qae (n:=i) (by unfold maxLen at hl;omega);have hc':=qHp (qax l i) left hinv.1 hinv.2 (ho _ (qpE hi)).1;subst hwd;unfold stepW;simp only
    by_cases h2:left-(qax l i).name.size<0
    ·rw[qd1 h2]at hc'
     simp only[h2,if_true];refine⟨⟨by simp,?_⟩,fun a' h=>by simp at h⟩;simp[qF4,qIl,qIj,qIi,qIh,qIk,hi,cut,qaq hi,hc']
    ·rw[qeG h2]at hc'
     simp only[h2,if_false];refine⟨⟨_,by simp[qF4,qIl,qIj,qIi,qIh,qIk,hi,hw,cut,qaq hi,hc',h2];rfl,by simp[qad,qab]⟩,fun a' h=>by simp at h;subst h;exact⟨by omega,by omega⟩⟩)
   l.length (left-l.length) 0 ⟨[(0,.d (sg l)),(1,.d (.int .i64 (left-l.length))),(5,.d (.int .i64 0))],[]⟩ (by omega) ⟨by omega,by omega⟩ (by simp[qad,qab])
  rw[qYc _ _ _ _ (by omega)]at hloop;simp[v11,qNV,qNU,qNT,qNS,qNR,qDM,hw,h];rw[hloop]
  by_cases h3:left-l.length-qzT w 0 l.length<0
  ·rw[qd1 (by omega)];simp[h3]
  ·rw[qeG (by omega)]
   simp[h3];omega
theorem qis(l:List SymL):∀x:DV,x∈l.map SymL.enc->qrk true 3 x:=by
 intro x hx;simp only[List.mem_map]at hx;obtain⟨n,_,rfl⟩:=hx;exact⟨rfl,rfl,fun _=>⟨_,rfl⟩,by simp⟩
theorem qHk(s:SymL):qac XV 16 [.d s.enc] []=some (.d s.enc,[]):=by
 rw[qah XV _ _ _ v16 rfl qGY rfl];simp[v16,qSQ,qSP,qSO,qSN,qSM,qSL,splice]
def zS:DV:= .agg [.str ⟨#[]⟩,.int .i64 0,.bool false]
theorem qBk(l:List SymL)(hl:l.length<=1099511627776):qac XV 12 [.d (sg l)] []=some (.d (.sl U (l.map SymL.enc)),[]):=by
 rw[qah XV _ _ _ v12 rfl qG2 rfl];have hcell:∀x:DV,x∈l.map SymL.enc->x.cells.length=3:=fun x hx=>(qis l x hx).1
 have hloop:=qag (X:=XV) (T:=XV.lin 12) (L:=1) (live:=[0,3,4]) (b:=qJv) (n:=l.length) (γ:=Unit) (st:=fun(_:Unit) i=>⟨[(0,.d (sg l)),(3,.bsl [] true 0 3 l.length),(4,.d (.int .i64 i))],[some (qzW (l.map SymL.enc) zS i)]⟩) (step:=fun _ _=> .inl ())
  (F:=fun _=>(.exit 0,⟨[(0,.d (sg l)),(3,.bsl [] true 0 3 l.length),(4,.d (.int .i64 l.length)),(11,.d (.bool false))],[some (qzW (l.map SymL.enc) zS l.length)]⟩)) (R:=fun _=>(.ret,⟨[],[]⟩))
  (fun _=>⟨by simp,by simp[qJv,qNQ,qNO,qNP]⟩)
  (fun _ i hi=>by
   have hw:=qae (n:=i) (by omega);have hlen:=qHQ (z:=zS) hcell rfl i;have hset:=qHP (z:=zS) hcell rfl i (by simpa using hi);simp only[List.getElem_map,qaq hi,qzz,List.map_cons,List.map_nil,List.length_map]at hset hlen;have hle:i*3+3<=l.length*3:=by omega
   have hc':=qHk (qax l i);exact⟨_,by simp[qJv,qNQ,qNO,qNP,hi,hw,cut,qaq hi,hc',hlen,hle,hset];rfl,by simp[qad,qab]⟩)
  l.length () 0 ⟨[(0,.d (sg l)),(3,.bsl [] true 0 3 l.length),(4,.d (.int .i64 0))],[some (qzW (l.map SymL.enc) zS 0)]⟩ (by omega) (by simp[qad,qab])
 rw[qdp,qBM]at hloop;have hch:=qcG (l.map SymL.enc) (qis l);have hfl:(flat (l.map SymL.enc)).length=l.length*3:=by rw[qck hcell];simp
 have hall:=qHR (l.map SymL.enc) zS;rw[List.length_map]at hch hall;simp only[zS,qUi,List.length_map]at hloop hall;have hle2:l.length*32<=140737488355328:=by omega
 have hlt:(l.length:Int)<9223372036854775808:=by omega
 have hlt2:l.length<9223372036854775808:=by omega
 simp[v12,qS4,qS3,qS2,qS1,hle2,hlt];simp at hloop;rw[hloop];simp at hall;simp[hall,qlJ,hch,hfl,hlt2]
theorem qyb(a:ByteArray):qfP a a=true:=by simp[qfP]
@[simp] theorem qUP(a b:ByteArray):qeM .eql (.str a) (.str b)=some (.bool (qfP a b)):=rfl
@[simp] theorem qUO(a b:ByteArray):qeM .neq (.str a) (.str b)=some (.bool !(qfP a b)):=rfl
theorem qzc(s:SymL):qac XV 20 [.d s.enc,.d s.enc] []=some (.d (.bool true),[]):=by
 rw[qah XV _ _ _ v20 rfl qGU rfl];simp[v20,qSF,qSE,qSD,qSC,qSB,qSA,qSz,qSy,qyb]
theorem qt3(l:List SymL)(hl:l.length<=1099511627776):qac XV 15 [.d (sg l),.d (sg l)] []=some (.d (.bool true),[]):=by
 rw[qah XV _ _ _ v15 rfl qGZ rfl];have hloop:=qag (X:=XV) (T:=[]) (L:=0) (live:=[0,1,5]) (b:=qJu) (n:=l.length) (γ:=Unit) (st:=fun(_:Unit) i=>⟨[(0,.d (sg l)),(1,.d (sg l)),(5,.d (.int .i64 i))],[]⟩) (step:=fun _ _=> .inl ())
  (F:=fun _=>(.exit 0,⟨[(0,.d (sg l)),(1,.d (sg l)),(5,.d (.int .i64 l.length)),(14,.d (.bool false))],[]⟩)) (R:=fun _=>(.ret,⟨[],[]⟩))
  (fun _=>⟨by simp,by simp[qJu,qNN,qNK,qNM]⟩)
  (fun _ i hi=>by
   have hw:=qae (n:=i) (by omega);have hc':=qzc (qax l i);exact⟨_,by simp[qJu,qNN,qX0,qNK,qNM,hi,hw,cut,qaq hi,hc'];rfl,by simp[qad,qab]⟩)
  l.length () 0 ⟨[(0,.d (sg l)),(1,.d (sg l)),(5,.d (.int .i64 0))],[]⟩ (by omega) (by simp[qad,qab])
 rw[qdp]at hloop;simp[v15,qSV,qSU,qST,qSS,qSR];rw[hloop];simp
def inB(x lo hi:Int):Bool:=decide (lo<=x)&&decide (x<=hi)
theorem qlz(x lo hi:Int):qac XV 30 [.d (.int .i64 x),.d (.int .i64 lo),.d (.int .i64 hi)] []=some (.d (.bool (inB x lo hi)),[]):=by
 rw[qah XV _ _ _ v30 rfl qGO rfl];unfold inB
 by_cases h:lo<=x
 ·have h':x>=lo:=h
  simp[v30,qNz,qNy,h]
 ·have h':¬x>=lo:=h
  simp[v30,qNz,qNy,h]
theorem qgV(x lo hi:Int):qac XV 31 [.d (.int .i64 x),.d (.int .i64 lo),.d (.int .i64 hi)] []=some (.d (.bool (inB x lo hi)),[]):=by
 rw[qah XV _ _ _ v31 rfl qGN rfl];unfold inB
 by_cases h:lo<=x
 ·simp[v31,qNx,qNw,h]
 ·simp[v31,qNx,qNw,h]
def qdD(l:List SymL)(f:Int):Bool:=inB f 0 (l.length-1)
theorem qeh{l:List SymL}{f:Int}(h:qdD l f=true):0<=f/\f.toNat<l.length:=by
 simp[qdD,inB]at h;omega
theorem qoL(l:List SymL)(hl:l.length<=1099511627776)(f:Int):qac XV 29 [.d (sg l),.d (.int .i64 f)] []=some (.d (.bool (qdD l f)),[]):=by
 rw[qah XV _ _ _ v29 rfl qGP rfl];have hw:IntKind.i64.wrap ((l.length:Int)-1)=l.length-1:=wrap_i64 (by omega) (by omega);have h:=qlz f 0 (l.length-1);simp[v29,qSe,qSd,hw,h,qdD]
def qaM(l:List SymL)(f:Int):Bool:=qdD l f&&(qax l f.toNat).ac
theorem qdv(l:List SymL)(hl:l.length<=1099511627776)(f:Int):qac XV 34 [.d (sg l),.d (.int .i64 f)] []=some (.d (.bool (qaM l f)),[]):=by
 rw[qah XV _ _ _ v34 rfl qGL rfl];have h:=qoL l hl f;unfold qaM;cases hs:qdD l f with
 |false=>
  rw[hs]at h;simp[v34,qNt,qNs,h]
 |true=>
  rw[hs]at h;obtain⟨h1,h2⟩:=qeh hs;simp[v34,qNt,qNs,h,h1,h2,qaq h2,cut]
theorem qei(l:List SymL)(hl:l.length<=1099511627776)(f:Int):qac XV 33 [.d (sg l),.d (.int .i64 f)] []=some (.d (.bool (qaM l f)),[]):=by
 rw[qah XV _ _ _ v33 rfl qGM rfl];have hw:IntKind.i64.wrap ((l.length:Int)-1)=l.length-1:=wrap_i64 (by omega) (by omega);have h:=qgV f 0 (l.length-1);unfold qaM qdD;cases hs:inB f 0 (l.length-1)with
 |false=>
  rw[hs]at h;simp[v33,qNv,qNu,h,hw]
 |true=>
  rw[hs]at h;obtain⟨h1,h2⟩:=qeh (l:=l) (f:=f) hs;simp[v33,qNv,qNu,h,hw,h1,h2,qaq h2,cut]
def qi7(c:Int):Bool:=decide (97<=c)&&decide (c<=122)
def qro(c:Int):Bool:=decide (48<=c)&&decide (c<=57)
theorem qnb(c:Int):qac XV 61 [.d (.int .u8 c)] []=some (.d (.bool (qi7 c)),[]):=by
 rw[qah XV _ _ _ v61 rfl qGI rfl];cases h1:decide (97<=c)<;>simp[v61,qRW,qRV,h1,qi7]
theorem qyZ(c:Int):qac XV 62 [.d (.int .u8 c)] []=some (.d (.bool (qro c)),[]):=by
 rw[qah XV _ _ _ v62 rfl qGH rfl];cases h1:decide (48<=c)<;>simp[v62,qRU,qRT,h1,qro]
def qpm(x:Int)(i:Nat):Prop:=(97<=x/\x<=122)\/(0<i/\48<=x/\x<=57)
instance (x:Int) (i:Nat):Decidable (qpm x i):=by unfold qpm;exact inferInstance
theorem qL6(s:ByteArray)(hs:s.size<=1099511627776)(i:Nat)(hlt:i<s.size)(x:Int)(hb:qlQ s i=some x):
 qau XV [] qF1 ⟨[(0,.d (.str s)),(3,.d (.int .i64 i))],[]⟩=some (if qpm x i then(.normal,⟨[(0,.d (.str s)),(3,.d (.int .i64 (i+1:Nat)))],[]⟩)else(.ret,⟨[(2,.d (.bool false))],[]⟩)):=by
 have hw:=qae (n:=i) (by omega);simp[qF1,qNr,qR6,qR5,qR7,hb,hlt];cases h1:decide (97<=x)
 case true=>
  simp[hb];cases h2:decide (x<=122)
  case true=>
   simp[hw];have:qpm x i:=by simp at h1 h2;exact .inl ⟨h1,h2⟩
   simp[this]
  case false=>
   simp;cases h3:decide (0<i)<;>simp[hb]
   case true=>
    have h4:(48<=x):=by simp at h1;omega
    simp[h4,hb];have h5:¬(x<=57):=by simp at h1;omega
    have:¬qpm x i:=by simp at h1 h2;unfold qpm;omega
    simp[h5,this]
   case false=>
    have:¬qpm x i:=by simp at h1 h2 h3;unfold qpm;omega
    simp[this]
 case false=>
  simp;cases h3:decide (0<i)
  case true=>
   simp[hb];cases h4:decide (48<=x)
   case true=>
    simp[hb];cases h5:decide (x<=57)
    case true=>
     have:qpm x i:=by simp at h1 h3 h4 h5;unfold qpm;omega
     simp[hw,this]
    case false=>
     have:¬qpm x i:=by simp at h1 h3 h4 h5;unfold qpm;omega
     simp[this]
   case false=>
    have:¬qpm x i:=by simp at h1 h3 h4;unfold qpm;omega
    simp[this]
  case false=>
   have:¬qpm x i:=by simp at h1 h3;unfold qpm;omega
   simp[this]
def qIs(s:ByteArray)(i:Nat):Bool:=decide (qpm (chr s i) i)
def qjG(s:ByteArray)(f:ByteArray->Nat->Bool)(i k:Nat):Bool:=(List.range' i k).all (f s)
theorem qnJ(s:ByteArray)(f:ByteArray->Nat->Bool)(i:Nat):qjG s f i 0=true:=rfl
theorem qnK(s:ByteArray)(f:ByteArray->Nat->Bool)(i k:Nat):qjG s f i (k+1)=(f s i&&qjG s f (i+1) k):=by simp[qjG,List.range'_succ]
theorem qF9(s:ByteArray)(f:ByteArray->Nat->Bool)(i k:Nat):qjG s f i k=true↔∀j,i<=j->j<i+k->f s j=true:=by
 simp only[qjG,List.all_eq_true,List.mem_range'_1];exact⟨fun h j h1 h2=>h j ⟨h1,h2⟩,fun h j h1=>h j h1.1 h1.2⟩
theorem qLP(s:ByteArray)(hs:s.size<=1099511627776):∀(k i:Nat),i+k=s.size->
 qbw XV [] 0 [0,3] qF1 ⟨[(0,.d (.str s)),(3,.d (.int .i64 i))],[]⟩=
  some (if qjG s qIs i k then(.exit 0,⟨[(0,.d (.str s)),(3,.d (.int .i64 s.size)),(7,.d (.bool false))],[]⟩)else(.ret,⟨[(2,.d (.bool false))],[]⟩))
 |0,i,hk=>by
  have:i=s.size:=by omega
  subst this;rw[qek];simp[qad,qab,qF1,qNr,qnJ]
 |k+1,i,hk=>by
  have hlt:i<s.size:=by omega
  have ih:=qLP s hs k (i+1) (by omega);rw[qek,qnK]
  by_cases h:qpm (chr s i) i
  ·have h2:qIs s i=true:=by simp[qIs,h]
   rw[h2,Bool.true_and,<-ih];simp[qad,qab,qL6 s hs i hlt _ (qh8 hlt),h]
  ·have h2:qIs s i=false:=by simp[qIs,h]
   simp[qad,qab,qL6 s hs i hlt _ (qh8 hlt),h,h2]
def qhD(s:ByteArray):Bool:=qjG s qIs 0 s.size&&inB s.size 1 8
theorem qnU(s:ByteArray)(hs:s.size<=1099511627776):qac XV 59 [.d (.str s)] []=some (.d (.bool (qhD s)),[]):=by
 rw[qah XV _ _ _ v59 rfl qGK rfl];have h:=qLP s hs s.size 0 (by omega);simp[v59,qR9,qR8,qR4];simp at h;rw[h];cases h1:qjG s qIs 0 s.size
 ·simp[qhD,h1]
 ·simp[qhD,h1,qgV]
def qoB(s:ByteArray)(i:Nat):Bool:=qi7 (chr s i)||qro (chr s i)
theorem qL5(s:ByteArray)(hs:s.size<=1099511627776)(i:Nat)(hlt:i<s.size):
 qau XV [] qF0 ⟨[(0,.d (.str s)),(5,.d (.int .i64 s.size)),(6,.d (.int .i64 i))],[]⟩=some (if qoB s i then(.normal,⟨[(0,.d (.str s)),(5,.d (.int .i64 s.size)),(6,.d (.int .i64 (i+1:Nat)))],[]⟩)else(.ret,⟨[(2,.d (.bool false))],[]⟩)):=by
 have hw:=qae (n:=i) (by omega);have hb:=qh8 hlt;simp[qF0,qNq,qR1,qR0,qRZ,qRY,hb,hlt,qnb];cases h1:qi7 (chr s i)
 ·simp[hb,qyZ]
  cases h2:qro (chr s i)<;>simp[hw,qoB,h1,h2]
 ·simp[hw,qoB,h1]
theorem qLO(s:ByteArray)(hs:s.size<=1099511627776):∀(k i:Nat),i+k=s.size->
 qbw XV [] 0 [0,5,6] qF0 ⟨[(0,.d (.str s)),(5,.d (.int .i64 s.size)),(6,.d (.int .i64 i))],[]⟩=
  some (if qjG s qoB i k then(.exit 0,⟨[(0,.d (.str s)),(5,.d (.int .i64 s.size)),(6,.d (.int .i64 s.size)),(7,.d (.bool false))],[]⟩)else(.ret,⟨[(2,.d (.bool false))],[]⟩))
 |0,i,hk=>by
  have:i=s.size:=by omega
  subst this;rw[qek];simp[qad,qab,qF0,qNq,qnJ]
 |k+1,i,hk=>by
  have hlt:i<s.size:=by omega
  have ih:=qLO s hs k (i+1) (by omega);rw[qek,qnK];cases h:qoB s i
  ·simp[qad,qab,qL5 s hs i hlt,h]
  ·rw[Bool.true_and,<-ih]
   simp[qad,qab,qL5 s hs i hlt,h]
def qlp(s:ByteArray):Bool:=qjG s qoB 0 s.size&&(inB s.size 1 8&&qi7 (chr s 0))
theorem qoQ(s:ByteArray)(hs:s.size<=1099511627776):qac XV 60 [.d (.str s)] []=some (.d (.bool (qlp s)),[]):=by
 rw[qah XV _ _ _ v60 rfl qGJ rfl];have h:=qLO s hs s.size 0 (by omega);simp[v60,qR3,qR2,qRX];simp at h;rw[h];cases h1:qjG s qoB 0 s.size
 ·simp[qlp,h1]
 ·simp[qlp,h1,qlz]
  cases h2:inB s.size 1 8
  ·simp
  ·have h3:0<s.size:=by simp[inB]at h2;omega
   simp[qh8 h3,qnb]
theorem qIr(s:ByteArray)(i:Nat):qIs s i=true↔(97<=chr s i/\chr s i<=122)\/(0<i/\48<=chr s i/\chr s i<=57):=by
 unfold qIs;rw[decide_eq_true_eq];rfl
theorem qDV(s:ByteArray)(i:Nat):qoB s i=true↔(97<=chr s i/\chr s i<=122)\/(48<=chr s i/\chr s i<=57):=by
 simp[qoB,qi7,qro]
theorem qyi(x:Int):qi7 x=true↔97<=x/\x<=122:=by simp[qi7]
theorem qtu(s:ByteArray):qlp s=qhD s:=by
 rw[Bool.eq_iff_iff];simp only[qhD,qlp,Bool.and_eq_true,qF9,qIr,qDV,qyi];constructor
 ·rintro⟨h1,h2,h3⟩
  refine⟨fun j hj hj2=> ?_,h2⟩;have h4:=h1 j hj hj2;rcases Nat.eq_zero_or_pos j with rfl|hp
  ·exact .inl h3
  ·omega
 ·rintro⟨h1,h2⟩
  have h0:0<s.size:=by simp[inB]at h2;omega
  have h5:=h1 0 (Nat.le_refl _) (by omega);refine⟨fun j hj hj2=> ?_,h2,?_⟩
  ·have h4:=h1 j hj hj2
   omega
  ·omega
def qaw(q:Nat->Bool):Nat->Nat->Option Nat
 |0,_=>none
 |k+1,i=>if q i then some i else qaw q k (i+1)
def qb3(q:Nat->Bool)(_:Unit)(i:Nat):Unit⊕Nat:=if q i then .inr i else .inl ()
theorem qpk(q:Nat->Bool):∀(k i:Nat),runN (qb3 q) k () i=match qaw q k i with|some j=> .inr j|none=> .inl ()
 |0,i=>rfl
 |k+1,i=>by
  simp only[runN,qb3,qaw];cases h:q i
  ·simp[qpk q k (i+1)]
  ·simp
def qgQ:Option Nat->Int
 |some j=>j
 |none=> -1
theorem qcd(q:Nat->Bool):∀(k i j:Nat),qaw q k i=some j->i<=j/\j<i+k/\q j=true
 |0,i,j,h=>by simp[qaw]at h
 |k+1,i,j,h=>by
  simp only[qaw]at h;split at h
  ·simp at h;subst h;exact⟨Nat.le_refl _,by omega,by assumption⟩
  ·obtain⟨h1,h2,h3⟩:=qcd q k (i+1) j h;exact⟨by omega,by omega,h3⟩
def qeg(l:List SymL)(name:ByteArray):Int:=qgQ (qaw (fun i=>qfP (qax l i).name name) l.length 0)
theorem qpI(l:List SymL)(name:ByteArray)(hl:l.length<=1099511627776):qac XV 13 [.d (sg l),.d (.str name)] []=some (.d (.int .i64 (qeg l name)),[]):=by
 rw[qah XV _ _ _ v13 rfl qG1 rfl];have h:=qag (X:=XV) (T:=[]) (L:=0) (live:=[0,1,5]) (b:=qF3) (n:=l.length) (st:=fun(_:Unit) i=>⟨[(0,.d (sg l)),(1,.d (.str name)),(5,.d (.int .i64 i))],[]⟩) (step:=qb3 fun i=>qfP (qax l i).name name)
  (F:=fun _=>(.exit 0,⟨[(0,.d (sg l)),(1,.d (.str name)),(5,.d (.int .i64 l.length)),(9,.d (.bool false))],[]⟩)) (R:=fun(j:Nat)=>(.ret,⟨[(4,.d (.int .i64 j))],[]⟩))
  (fun a=>⟨by simp,by simp[qF3,qIg,qIe,qId,qIf]⟩)
  (fun a i hi=>by
   have hw:=qae (n:=i) (by omega);unfold qb3
   by_cases hq:qfP (qax l i).name name=true
   ·rw[if_pos hq];exact⟨by simp,by simp[qF3,qIg,qIe,qId,qIf,hi,cut,qaq hi,hq]⟩
   ·rw[if_neg hq]
    have hq':qfP (qax l i).name name=false:=by simpa using hq
    exact⟨_,by simp[qF3,qIg,qIe,qId,qIf,hi,hw,cut,qaq hi,hq'];rfl,by simp[qad,qab]⟩)
  l.length () 0 ⟨[(0,.d (sg l)),(1,.d (.str name)),(5,.d (.int .i64 0))],[]⟩ (by omega) (by simp[qad,qab])
 rw[qpk]at h;simp[v13,qS0,qSZ,qSY];rw[h];unfold qeg;cases hq:qaw (fun i=>qfP (qax l i).name name) l.length 0<;>simp[qgQ]
theorem qoO(l:List SymL)(fk:Nat)(caps:List AV)(B:qal)(P:SymL->Bool)(hl:l.length<=1099511627776)(hs:AV.safe.safes B.length caps=true)(hcc:caps.map AV.clr=caps)(hk:¬0∈XV.lin fk)
 (hf:∀s,s∈l->qac XV fk (.d s.enc::caps) B=some (.d (.bool (P s)),B)):
 qac XV 19 [.d (sg l),.fn fk caps] B=some (.d (.int .i64 (qgQ (qaw (fun i=>P (qax l i)) l.length 0))),B):=by
 rw[qah XV _ _ _ v19 rfl qGV rfl];have h:=qag (X:=XV) (T:=XV.lin 19) (L:=B.length) (live:=[0,1,7,8]) (b:=qF2) (n:=l.length) (st:=fun(_:Unit) i=>⟨[(0,.d (sg l)),(1,.fn fk caps),(7,.d (.int .i64 l.length)),(8,.d (.int .i64 i))],B⟩) (step:=qb3 fun i=>P (qax l i))
  (F:=fun _=>(.exit 0,⟨[(0,.d (sg l)),(1,.fn fk caps),(7,.d (.int .i64 l.length)),(8,.d (.int .i64 l.length)),(9,.d (.bool false))],B⟩)) (R:=fun(j:Nat)=>(.ret,⟨[(4,.d (.int .i64 j))],B⟩))
  (fun a=>⟨by simp,by simp[qF2,qIc,qIb,qIa,qH9,qH8]⟩)
  (fun a i hi=>by
   have hw:=qae (n:=i) (by omega);have hc:=hf _ (qpE hi);unfold qb3
   by_cases hq:P (qax l i)=true
   ·rw[if_pos hq];rw[hq]at hc
    exact⟨by simp,by simp[qF2,qIc,qIb,qIa,qH9,qH8,hi,cut,qaq hi,hc,hcc,hk]⟩
   ·rw[if_neg hq]
    have hq':P (qax l i)=false:=by simpa using hq
    rw[hq']at hc;exact⟨_,by simp[qF2,qIc,qIb,qIa,qH9,qH8,hi,hw,cut,qaq hi,hc,hcc,hk];rfl,by simp[qad,qab,hs]⟩)
  l.length () 0 ⟨[(0,.d (sg l)),(1,.fn fk caps),(7,.d (.int .i64 l.length)),(8,.d (.int .i64 0))],B⟩ (by omega) (by simp[qad,qab,hs])
 rw[qpk]at h;simp only[qUh]at h;simp[v19,qSI,qSH,qSG];rw[h];cases hq:qaw (fun i=>P (qax l i)) l.length 0<;>simp[qgQ]
theorem qBw(s:SymL)(name:ByteArray):qac XV 18 [.d s.enc,.ptr 0 0] [some [.d (.str name)]]=some (.d (.bool (qfP s.name name)),[some [.d (.str name)]]):=by
 rw[qah XV _ _ _ v18 rfl qGW rfl];simp[v18,qSK,qSJ]
theorem qqU(l:List SymL)(name:ByteArray)(hl:l.length<=1099511627776):qac XV 14 [.d (sg l),.d (.str name)] []=some (.d (.int .i64 (qeg l name)),[]):=by
 rw[qah XV _ _ _ v14 rfl qG0 rfl];have hc:=qoO l 18 [.ptr 0 0] [some [.d (.str name)]] (fun s=>qfP s.name name) hl (by simp) (by simp) (by simp) (fun s _=>qBw s name);simp[v14,qSX,qSW,hc,qeg]
def qeo(l:List SymL)(s:SymL)(i:Nat):Bool:= !qhD s.name|| !(decide (qeg l s.name=i))|| !(inB s.arity 0 3)||(s.ac&& !decide (s.arity=2))
def ttB(s:SymL):Bool:=qfP s.name ⟨#[116,116]⟩&&decide (s.arity=0)
def qj9(l:List SymL):Bool:=(qaw (fun i=>qeo l (qax l i) i) l.length 0).isNone&&(inB l.length 1 8&&ttB (qax l 0))
theorem qBy(w:Nat->Nat):∀(k i j:Nat),i<=j->j<i+k->w j<=qzT w i k
 |0,i,j,h,h'=>by omega
 |k+1,i,j,h,h'=>by
  simp only[qzT];rcases Nat.eq_or_lt_of_le h with rfl|h
  ·omega
  ·have:=qBy w k (i+1) j h (by omega);omega
theorem qN3(l:List SymL)(i:Nat)(hi:i<l.length):(qax l i).name.size<=qdh l:=by
 have:=qBy (fun i=>(qax l i).name.size) l.length 0 i (Nat.zero_le _) (by omega);unfold qdh;omega
theorem qdy(l:List SymL)(s:SymL)(i:Nat):qeo l s i=false↔qhD s.name=true/\qeg l s.name=i/\inB s.arity 0 3=true/\(s.ac=true->s.arity=2):=by
 simp[qeo,and_assoc]
theorem qVj(l:List SymL)(hl:l.length<=1099511627776)(i:Nat)(hi:i<l.length)(hn:(qax l i).name.size<=1099511627776):
 qMI 0 [0,5,6,7] (fun(_:Unit) i=>⟨[(0,.d (sg l)),(5,.d (sg l)),(6,.d (.int .i64 l.length)),(7,.d (.int .i64 i))],[]⟩) (fun(_:Nat)=>(.ret,⟨[(2,.d (.bool false))],[some [.d (.str (qax l i).name),.d (.int .i64 (qax l i).arity),.d (.bool (qax l i).ac)]]⟩)) i
  (qau XV (XV.lin 77) qmm ⟨[(0,.d (sg l)),(5,.d (sg l)),(6,.d (.int .i64 l.length)),(7,.d (.int .i64 i))],[]⟩) (qb3 (fun i=>qeo l (qax l i) i) () i):=by
 have hw:=qae (n:=i) (by omega);have n1:=qoQ (qax l i).name hn;rw[qtu]at n1;have n2:=qqU l (qax l i).name hl;have n3:=qlz (qax l i).arity 0 3;unfold qb3
 by_cases hb:qeo l (qax l i) i=true
 ·rw[if_pos hb]
  refine⟨by simp,?_⟩;cases c1:qhD (qax l i).name with
  |false=>rw[c1]at n1;simp[qmm,qp6,qp5,qp4,qp3,qpZ,hi,cut,qaq hi,n1,splice]
  |true=>
   rw[c1]at n1
   by_cases c2:qeg l (qax l i).name=i
   ·have b2:(qeg l (qax l i).name !=i)=false:=by simp[c2]
    cases c3:inB (qax l i).arity 0 3 with
    |false=>rw[c3]at n3;simp[qmm,qp6,qp5,qp4,qp3,qpZ,hi,cut,qaq hi,n1,n2,b2,n3,splice]
    |true=>
     rw[c3]at n3;have c4:(qax l i).ac=true/\¬(qax l i).arity=2:=by
      have:¬qeo l (qax l i) i=false:=by simp[hb]
      rw[qdy]at this;simp only[c1,c2,c3,true_and]at this;exact Classical.not_imp.1 this
     have b4:((qax l i).arity !=2)=true:=by simp[c4.2]
     simp[qmm,qp6,qp5,qp4,qp3,qpZ,hi,cut,qaq hi,n1,n2,b2,n3,splice,c4.1,b4]
   ·have b2:(qeg l (qax l i).name !=i)=true:=by simp[c2]
    simp[qmm,qp6,qp5,qp4,qp3,qpZ,hi,cut,qaq hi,n1,n2,b2,splice]
 ·have hb':qeo l (qax l i) i=false:=by simpa using hb
  rw[if_neg hb];obtain⟨c1,c2,c3,c4⟩:=(qdy l _ i).1 hb';have b2:(qeg l (qax l i).name !=i)=false:=by simp[c2]
  rw[c1]at n1;rw[c3]at n3
  cases c5:(qax l i).ac with
  |false=>exact⟨_,by simp[qmm,qp6,qp5,qp4,qp3,qpZ,hi,hw,cut,qaq hi,n1,n2,b2,n3,splice,c5];rfl,by simp[qad,qab]⟩
  |true=>
   have b4:((qax l i).arity !=2)=false:=by simp[c4 c5]
   exact⟨_,by simp[qmm,qp6,qp5,qp4,qp3,qpZ,hi,hw,cut,qaq hi,n1,n2,b2,n3,splice,c5,b4];rfl,by simp[qad,qab]⟩
theorem qqV(l:List SymL)(hl:l.length<=1099511627776)(hn:∀i,i<l.length->(qax l i).name.size<=1099511627776):qac XV 77 [.d (sg l)] []=some (.d (.bool (qj9 l)),[]):=by
 rw[qah XV _ _ _ v77 rfl qGD rfl];have h:=qag (X:=XV) (T:=XV.lin 77) (L:=0) (live:=[0,5,6,7]) (b:=qmm) (n:=l.length) (γ:=Nat) (st:=fun(_:Unit) i=>⟨[(0,.d (sg l)),(5,.d (sg l)),(6,.d (.int .i64 l.length)),(7,.d (.int .i64 i))],[]⟩) (step:=qb3 fun i=>qeo l (qax l i) i)
  (F:=fun _=>(.exit 0,⟨[(0,.d (sg l)),(5,.d (sg l)),(6,.d (.int .i64 l.length)),(7,.d (.int .i64 l.length)),(8,.d (.bool false))],[]⟩)) (R:=fun j=>(.ret,⟨[(2,.d (.bool false))],[some [.d (.str (qax l j).name),.d (.int .i64 (qax l j).arity),.d (.bool (qax l j).ac)]]⟩))
  (fun a=>⟨by simp,by simp[qmm,qp6,qp5,qp4,qp3,qpZ]⟩)
  (fun a i hi=>by
   have hb:=qVj l hl i hi (hn i hi);unfold qb3 at hb⊢
   split at hb
   ·rename_i h1;rw[if_pos h1];exact hb
   ·rename_i h1;rw[if_neg h1];exact hb)
  l.length () 0 ⟨[(0,.d (sg l)),(5,.d (sg l)),(6,.d (.int .i64 l.length)),(7,.d (.int .i64 0))],[]⟩ (by omega) (by simp[qad,qab])
 rw[qpk]at h;simp only[qUf]at h;simp[v77,qRJ,qRI,qRH];rw[h];unfold qj9;cases hq:qaw (fun i=>qeo l (qax l i) i) l.length 0 with
 |some j=>simp
 |none=>
  have n3:=qlz l.length 1 8;cases c1:inB l.length 1 8 with
  |false=>rw[c1]at n3;simp[n3]
  |true=>
   rw[c1]at n3;have h0:0<l.length:=by simp[inB]at c1;omega
   unfold ttB;cases c2:qfP (qax l 0).name ⟨#[116,116]⟩with
   |false=>simp[n3,h0,qaq h0,cut,c2]
   |true=>
    by_cases c3:(qax l 0).arity=0
    ·simp[n3,h0,qaq h0,cut,c2,c3]
    ·have b3:((qax l 0).arity==0)=false:=by simp[c3]
     simp[n3,h0,qaq h0,cut,c2,c3,b3]
theorem qpJ(l:List SymL)(hl:l.length<=1099511627776)(hn:∀i,i<l.length->(qax l i).name.size<=1099511627776):qac XV 82 [.d (sg l)] []=some (.d (.bool (qj9 l)),[]):=by
 rw[qah XV _ _ _ v82 rfl qGz rfl];have h:=qag (X:=XV) (T:=XV.lin 82) (L:=0) (live:=[0,3]) (b:=qpa) (n:=l.length) (γ:=Nat) (st:=fun(_:Unit) i=>⟨[(0,.d (sg l)),(3,.d (.int .i64 i))],[]⟩) (step:=qb3 fun i=>qeo l (qax l i) i)
  (F:=fun _=>(.exit 0,⟨[(0,.d (sg l)),(3,.d (.int .i64 l.length)),(7,.d (.bool false))],[]⟩)) (R:=fun j=>(.ret,⟨[(2,.d (.bool false))],[]⟩))
  (fun a=>⟨by simp,by simp[qpa,qpY,qpW,qpV,qpX]⟩)
  (fun a i hi=>by
   have hw:=qae (n:=i) (by omega);have n1:=qnU (qax l i).name (hn i hi);have n2:=qpI l (qax l i).name hl;have n3:=qgV (qax l i).arity 0 3;unfold qb3
   by_cases hb:qeo l (qax l i) i=true
   ·rw[if_pos hb]
    refine⟨by simp,?_⟩;cases c1:qhD (qax l i).name with
    |false=>rw[c1]at n1;simp[qpa,qpY,qpW,qpV,qpX,hi,cut,qaq hi,n1]
    |true=>
     rw[c1]at n1
     by_cases c2:qeg l (qax l i).name=i
     ·have b2:(qeg l (qax l i).name !=i)=false:=by simp[c2]
      cases c3:inB (qax l i).arity 0 3 with
      |false=>rw[c3]at n3;simp[qpa,qpY,qpW,qpV,qpX,hi,cut,qaq hi,n1,n2,b2,n3]
      |true=>
       rw[c3]at n3;have c4:(qax l i).ac=true/\¬(qax l i).arity=2:=by
        have:¬qeo l (qax l i) i=false:=by simp[hb]
        rw[qdy]at this;simp only[c1,c2,c3,true_and]at this;exact Classical.not_imp.1 this
       have b4:((qax l i).arity !=2)=true:=by simp[c4.2]
       simp[qpa,qpY,qpW,qpV,qpX,hi,cut,qaq hi,n1,n2,b2,n3,c4.1,b4]
     ·have b2:(qeg l (qax l i).name !=i)=true:=by simp[c2]
      simp[qpa,qpY,qpW,qpV,qpX,hi,cut,qaq hi,n1,n2,b2]
   ·have hb':qeo l (qax l i) i=false:=by simpa using hb
    rw[if_neg hb];obtain⟨c1,c2,c3,c4⟩:=(qdy l _ i).1 hb';have b2:(qeg l (qax l i).name !=i)=false:=by simp[c2]
    rw[c1]at n1;rw[c3]at n3
    cases c5:(qax l i).ac with
    |false=>exact⟨_,by simp[qpa,qpY,qpW,qpV,qpX,hi,hw,cut,qaq hi,n1,n2,b2,n3,c5];rfl,by simp[qad,qab]⟩
    |true=>
     have b4:((qax l i).arity !=2)=false:=by simp[c4 c5]
     exact⟨_,by simp[qpa,qpY,qpW,qpV,qpX,hi,hw,cut,qaq hi,n1,n2,b2,n3,c5,b4];rfl,by simp[qad,qab]⟩)
  l.length () 0 ⟨[(0,.d (sg l)),(3,.d (.int .i64 0))],[]⟩ (by omega) (by simp[qad,qab])
 rw[qpk]at h;simp only[qUe]at h;simp[v82,qRD,qRC,qRB];rw[h];unfold qj9;cases hq:qaw (fun i=>qeo l (qax l i) i) l.length 0 with
 |some j=>simp
 |none=>
  have n3:=qgV l.length 1 8;cases c1:inB l.length 1 8 with
  |false=>rw[c1]at n3;simp[n3]
  |true=>
   rw[c1]at n3;have h0:0<l.length:=by simp[inB]at c1;omega
   have hnone:∀(q:Nat->Bool) (k i j:Nat),qaw q k i=none->i<=j->j<i+k->q j=false:=by
    intro q k
    induction k with
    |zero=>intro i j _ h1 h2;omega
    |succ k ih=>
     intro i j hf h1 h2;simp only[qaw]at hf;split at hf
     ·simp at hf
     ·rcases Nat.eq_or_lt_of_le h1 with rfl|h1
      ·simpa using ‹¬q i=true›
      ·exact ih (i+1) j hf h1 (by omega)
   have hb0:=hnone _ _ _ 0 hq (Nat.le_refl _) (by omega);obtain⟨_,_,_,c4⟩:=(qdy l (qax l 0) 0).1 hb0;have key:qbx [2,0,1] [.str (qax l 0).name,.int .i64 (qax l 0).arity,.bool (qax l 0).ac] [.str ⟨#[116,116]⟩,.int .i64 0,.bool false]=some (ttB (qax l 0)):=by
    unfold ttB;cases c2:qfP (qax l 0).name ⟨#[116,116]⟩<;>by_cases c3:(qax l 0).arity=0<;>cases c5:(qax l 0).ac<;>simp[qbx,c2,c3]
    have:=c4 c5;omega
   have key2:∀s s':SymL,qE6 false [2,0,1] (some (.d s.enc)) (some (.d s'.enc))=(qbx [2,0,1] [.str s.name,.int .i64 s.arity,.bool s.ac] [.str s'.name,.int .i64 s'.arity,.bool s'.ac]).map fun e=> .d (.bool e):=fun s s'=>by
    show(qbx [2,0,1] s.cells s'.cells).map _=_;simp[SymL.cells]
   simp[n3,h0,qaq h0,cut,key2,key,splice]
mutual
def T.fold{σ:Type}(e:T->σ->σ):T->σ->σ
 | .node f v ks,s=>T.folds e ks (e (.node f v ks) s)
def T.folds{σ:Type}(e:T->σ->σ):List T->σ->σ
 | [],s=>s
 |t::r,s=>T.folds e r (T.fold e t s)
end
theorem qBH{α:Type}(B:List α)(x v:α)(r:List α):(B++x::r).set B.length v=B++v::r:=by simp
theorem get_at{α:Type}(B:List α)(x:α)(r:List α):(B++x::r)[B.length]?=some x:=by simp
theorem take_at{α:Type}(B r:List α):(B++r).take B.length=B:=by simp
theorem qaO{L:Nat}{live:List Nat}{s:XS}{r':List (Nat×AV)}{B e:qal}(h:keep s.r live=r')(hs:qab L r'=true)(hl:B.length=L)(he:s.B=B++e):qad L live s=some ⟨r',B⟩:=by
 unfold qad;rw[h,he,if_pos ⟨hs,by simp;omega⟩,<-hl,take_at]
def qHs{σ:Type}(e:T->σ->σ)(l:List T)(s:σ)(i:Nat):σ⊕Unit:= .inl (T.fold e (tAt l i) s)
theorem qYe{σ:Type}(e:T->σ->σ)(l:List T):∀(k i:Nat) (s:σ),i+k=l.length->runN (qHs e l) k s i= .inl (T.folds e (l.drop i) s)
 |0,i,s,h=>by
  have h1:l.drop i=[]:=List.drop_eq_nil_of_le (by omega);simp[runN,h1,T.folds]
 |k+1,i,s,h=>by
  have hlt:i<l.length:=by omega
  rw[List.drop_eq_getElem_cons hlt,qap hlt];simp only[runN,qHs,T.folds];exact qYe e l k (i+1) _ (by omega)
theorem qO4{σ:Type}(st:σ->qal)(e:T->σ->σ)(k:Nat)(caps:List AV)(m:Nat)(hm:∀s,(st s).length=m)(hcs:∀n,m<=n->AV.safe.safes n caps=true)(hcc:caps.map AV.clr=caps)(hk:¬0∈XV.lin k)
 (f v:Int) (ks:List T) (hl:ks.length<=1099511627776)
 (hf:∀(x:T) (s:σ) (r:qal),qac XV k (.d (x.enc .sub)::caps) (st s++r)=some (.d (.tup []),st (e x s)++r))
 (hrec:∀x,x∈ks->∀(s:σ) (r:qal),qac XV 25 [.d (x.enc .sub),.fn k caps] (st s++r)=some (.d (.tup []),st (T.fold e x s)++r)) (s:σ) (r:qal):
 qac XV 25 [.d ((T.node f v ks).enc .sub),.fn k caps] (st s++r)=some (.d (.tup []),st (T.fold e (.node f v ks) s)++r):=by
 rw[qah XV _ _ _ v25 rfl qGQ rfl];have hf1:=hf (.node f v ks) s (r++[some [.d (.int .i64 f),.d (.int .i64 v),.d (qaa .sub ks)]]);have len:∀s,(st s++r).length=m+r.length:=fun s=>by simp[hm]
 have hloop:=qag (X:=XV) (T:=XV.lin 25) (L:=m+r.length+1) (live:=[1,10,11,12]) (b:=qJs) (n:=ks.length) (γ:=Unit) (st:=fun(s:σ) i=>⟨[(1,.fn k caps),(10,.d (qaa .sub ks)),(11,.d (.int .i64 ks.length)),(12,.d (.int .i64 i))],(st s++r)++[some [.d (.int .i64 f),.d (.int .i64 v),.d (qaa .sub ks)]]⟩) (step:=qHs e ks)
  (F:=fun s=>(.exit 0,⟨[(1,.fn k caps),(10,.d (qaa .sub ks)),(11,.d (.int .i64 ks.length)),(12,.d (.int .i64 ks.length)),(13,.d (.bool false))],(st s++r)++[some [.d (.int .i64 f),.d (.int .i64 v),.d (qaa .sub ks)]]⟩)) (R:=fun _=>(.ret,⟨[],[]⟩))
  (fun s=>⟨by simp,by simp[qJs,qNA]⟩)
  (fun s i hi=>by
   have hw:=qae (n:=i) (by omega);have hr:=hrec _ (qav hi) s (r++[some [.d (.int .i64 f),.d (.int .i64 v),.d (qaa .sub ks)],some [.d (.int .i64 (tAt ks i).f),.d (.int .i64 (tAt ks i).v),.d (qaa .sub (tAt ks i).kids)]]);have hln:=len s;have hln2:=len (T.fold e (tAt ks i) s);simp only[<-yh_]at hr;generalize hB:st s++r=B at hr hln;generalize hB':st (T.fold e (tAt ks i) s)++r=B' at hr hln2;unfold qHs;refine⟨⟨[(1,.fn k caps),(10,.d (qaa .sub ks)),(11,.d (.int .i64 ks.length)),(12,.d (.int .i64 (i+1:Nat)))],B'++[some [.d (.int .i64 f),.d (.int .i64 v),.d (qaa .sub ks)],some [.d (.int .i64 (tAt ks i).f),.d (.int .i64 (tAt ks i).v),.d (qaa .sub (tAt ks i).kids)]]⟩,?_,?_⟩
   ·simp[qJs,qNA,qSi,qSh,qSg,hi,hw,cut,qap hi,hcc,hr,splice]
   ·refine qaO (e:=[some [.d (.int .i64 (tAt ks i).f),.d (.int .i64 (tAt ks i).v),.d (qaa .sub (tAt ks i).kids)]]) (by simp) (by simp[qab,hcs _ (show m<=m+r.length+1 by omega)]) (by simp[hln2,hB']) (by simp[<-hB']))
  ks.length (e (.node f v ks) s) 0 ⟨[(1,.fn k caps),(10,.d (qaa .sub ks)),(11,.d (.int .i64 ks.length)),(12,.d (.int .i64 0))],(st (e (.node f v ks) s)++r)++[some [.d (.int .i64 f),.d (.int .i64 v),.d (qaa .sub ks)]]⟩ (by omega) (qaO (e:=[]) (by simp) (by simp[qab,hcs _ (show m<=m+r.length+1 by omega)]) (by simp[hm];omega) (by simp))
 rw[qYe e ks _ _ _ (by omega)]at hloop;simp only[List.drop_zero]at hloop;have hl0:=len s;have hl1:=len (e (.node f v ks) s);have hl2:(st (T.fold e (.node f v ks) s)++r).length=m+r.length:=len _;have hfin:T.folds e ks (e (.node f v ks) s)=T.fold e (.node f v ks) s:=by simp[T.fold]
 rw[hfin]at hloop;simp only[<-yh_]at hf1;generalize hB0:st s++r=B0 at hf1 hl0;generalize hB1:st (e (.node f v ks) s)++r=B1 at hf1 hl1 hloop;generalize hB2:st (T.fold e (.node f v ks) s)++r=B2 at hl2 hloop;have hlen:B1.length=B0.length:=by omega
 rw[<-hl1]at hloop;simp only[qaa,qUg]at hf1 hloop;simp[v25,qSl,qSk,qSj,hf1,hcc,hk,hlen.symm];rw[hloop];simp[show B1.length=B2.length by omega]
theorem qt5{σ:Type}(st:σ->qal)(e:T->σ->σ)(k:Nat)(caps:List AV)(m:Nat)(hm:∀s,(st s).length=m)(hcs:∀n,m<=n->AV.safe.safes n caps=true)(hcc:caps.map AV.clr=caps)(hk:¬0∈XV.lin k)
 (hf:∀(x:T) (s:σ) (r:qal),qac XV k (.d (x.enc .sub)::caps) (st s++r)=some (.d (.tup []),st (e x s)++r)) (t:T) (ht:t.inner<=1099511627776) (s:σ) (r:qal):
 qac XV 25 [.d (t.enc .sub),.fn k caps] (st s++r)=some (.d (.tup []),st (T.fold e t s)++r):=by
 match t,ht with
 | .node f v ks,ht=>
  simp only[T.inner]at ht;exact qO4 st e k caps m hm hcs hcc hk f v ks (by omega) hf (fun x hx s r=>qt5 st e k caps m hm hcs hcc hk hf x (by have:=T.qay hx;omega) s r) s r
termination_by t
decreasing_by
 simp_wf
 have:=List.sizeOf_lt_of_mem hx;omega
theorem wrap_add(a b:Int):IntKind.i64.wrap (IntKind.i64.wrap a+b)=IntKind.i64.wrap (a+b):=by
 show(if(true&&decide (((if(true&&decide (a%18446744073709551616>=9223372036854775808))=true then a%18446744073709551616-18446744073709551616 else a%18446744073709551616)+b)%18446744073709551616>=9223372036854775808))=true then((if(true&&decide (a%18446744073709551616>=9223372036854775808))=true then a%18446744073709551616-18446744073709551616 else a%18446744073709551616)+b)%18446744073709551616-18446744073709551616 else((if(true&&decide (a%18446744073709551616>=9223372036854775808))=true then a%18446744073709551616-18446744073709551616 else a%18446744073709551616)+b)%18446744073709551616)=(if(true&&decide ((a+b)%18446744073709551616>=9223372036854775808))=true then(a+b)%18446744073709551616-18446744073709551616 else(a+b)%18446744073709551616);simp only[Bool.true_and,decide_eq_true_eq];have:((if a%18446744073709551616>=9223372036854775808 then a%18446744073709551616-18446744073709551616 else a%18446744073709551616)+b)%18446744073709551616=(a+b)%18446744073709551616:=by
  split<;>omega
 rw[this]
theorem qBe(a b:Int):IntKind.i64.wrap (a+IntKind.i64.wrap b)=IntKind.i64.wrap (a+b):=by
 rw[Int.add_comm,wrap_add,Int.add_comm]
mutual
def T.sum(w:T->Int):T->Int
 | .node f v ks=>w (.node f v ks)+T.sums w ks
def T.sums(w:T->Int):List T->Int
 | []=>0
 |t::r=>T.sum w t+T.sums w r
end
def qP2(w:T->Int)(x:T)(n:Int):Int:=IntKind.i64.wrap (n+w x)
mutual
theorem qxg(w:T->Int):∀(t:T) (n:Int),T.fold (qP2 w) t (IntKind.i64.wrap n)=IntKind.i64.wrap (n+T.sum w t)
 | .node f v ks,n=>by
  simp only[T.fold,T.sum,qP2];rw[wrap_add,qq7 w ks,Int.add_assoc]
theorem qq7(w:T->Int):∀(l:List T) (n:Int),T.folds (qP2 w) l (IntKind.i64.wrap n)=IntKind.i64.wrap (n+T.sums w l)
 | [],n=>by simp[T.folds,T.sums]
 |t::r,n=>by
  simp only[T.folds,T.sums];rw[qxg w t,qq7 w r,Int.add_assoc]
end
def qM3(c:T->Int)(l:List T)(n:Int)(i:Nat):Int⊕Unit:= .inl (IntKind.i64.wrap (n+c (tAt l i)))
theorem qYf(w:T->Int)(l:List T):∀(k i:Nat) (n:Int),i+k=l.length->runN (qM3 (fun t=>IntKind.i64.wrap (T.sum w t)) l) k (IntKind.i64.wrap n) i= .inl (IntKind.i64.wrap (n+T.sums w (l.drop i)))
 |0,i,n,h=>by
  have h1:l.drop i=[]:=List.drop_eq_nil_of_le (by omega);simp[runN,h1,T.sums]
 |k+1,i,n,h=>by
  have hlt:i<l.length:=by omega
  rw[List.drop_eq_getElem_cons hlt,qap hlt];simp only[runN,qM3,T.sums];rw[qBe,wrap_add,qYf w l k (i+1) _ (by omega),Int.add_assoc]
theorem qqW(t:T)(ht:t.inner<=1099511627776):qac XV 23 [.d (t.enc .sub)] []=some (.d (.int .i64 (IntKind.i64.wrap (T.sum (fun _=>1) t))),[]):=by
 rw[qah XV _ _ _ v23 rfl qGS rfl];have key:∀(n:Int),qac XV 25 [.d (t.enc .sub),.fn 24 [.ptr 1 0]] ([some [.d (.int .i64 t.f),.d (.int .i64 t.v),.d (qaa .sub t.kids)],some [.d (.int .i64 n)]]++[])=some (.d (.tup []),[some [.d (.int .i64 t.f),.d (.int .i64 t.v),.d (qaa .sub t.kids)],some [.d (.int .i64 (T.fold (qP2 fun _=>1) t n))]]++[]):=fun n=>
  qt5 (fun n:Int=>[some [.d (.int .i64 t.f),.d (.int .i64 t.v),.d (qaa .sub t.kids)],some [.d (.int .i64 n)]]) (qP2 fun _=>1) 24 [.ptr 1 0] 2 (fun _=>rfl) (fun n hn=>by simp;omega) rfl (by simp) (fun x s r=>by
   rw[qah XV _ _ _ v24 rfl qGR rfl];simp[v24,qSn,qSm,splice,qP2]) t ht n []
 have k0:=key 0;have h0:=qxg (fun _=>1) t 0;rw[show IntKind.i64.wrap 0=0 from rfl,Int.zero_add]at h0;rw[h0]at k0;simp only[List.append_nil,qaa]at k0;simp[v23,qSr,qSq,qSp,qSo,splice,k0]
theorem qpK(f v:Int)(ks:List T)(hl:ks.length<=1099511627776)(hrec:∀s,s∈ks->qac XV 22 [.d (s.enc .sub)] []=some (.d (.int .i64 (IntKind.i64.wrap (T.sum (fun _=>1) s))),[])):
 qac XV 22 [.d ((T.node f v ks).enc .sub)] []=some (.d (.int .i64 (IntKind.i64.wrap (T.sum (fun _=>1) (.node f v ks)))),[]):=by
 rw[qah XV _ _ _ v22 rfl qGT rfl];have h:=qag (X:=XV) (T:=[]) (L:=1) (live:=[1,3,4]) (b:=qJt) (n:=ks.length) (γ:=Unit) (st:=fun(n:Int) i=>⟨[(1,.ptr 0 0),(3,.d (.int .i64 n)),(4,.d (.int .i64 i))],[some [.d (.int .i64 f),.d (.int .i64 v),.d (qaa .sub ks)]]⟩) (step:=qM3 (fun t=>IntKind.i64.wrap (T.sum (fun _=>1) t)) ks)
  (F:=fun n=>(.exit 0,⟨[(1,.ptr 0 0),(3,.d (.int .i64 n)),(4,.d (.int .i64 ks.length)),(9,.d (.bool false))],[some [.d (.int .i64 f),.d (.int .i64 v),.d (qaa .sub ks)]]⟩)) (R:=fun r=>(.ret,⟨[],[]⟩))
  (fun _=>⟨by simp,by simp[qJt,qNB]⟩)
  (fun n i hi=>by
   have hw:=qae (n:=i) (by omega);have hc:=hrec _ (qav hi);exact⟨_,by simp[qJt,qNB,qSu,qSt,hi,hw,cut,qap hi,hc];rfl,by simp[qad,qab]⟩)
  ks.length (IntKind.i64.wrap 1) 0 ⟨[(1,.ptr 0 0),(3,.d (.int .i64 1)),(4,.d (.int .i64 0))],[some [.d (.int .i64 f),.d (.int .i64 v),.d (qaa .sub ks)]]⟩ (by omega) (by simp[qad,qab,show IntKind.i64.wrap 1=1 from rfl])
 rw[qYf _ _ _ _ _ (by omega)]at h;simp only[List.drop_zero,qaa]at h;have hs:T.sum (fun _=>1) (T.node f v ks)=1+T.sums (fun _=>1) ks:=by simp[T.sum]
 simp[v22,qSx,qSw,qSv,hs];rw[h];simp[qSs]
theorem qi6(t:T)(ht:t.inner<=1099511627776):qac XV 22 [.d (t.enc .sub)] []=some (.d (.int .i64 (IntKind.i64.wrap (T.sum (fun _=>1) t))),[]):=by
 match t,ht with
 | .node f v ks,ht=>
  simp only[T.inner]at ht;exact qpK f v ks (by omega) (fun s hs=>qi6 s (by have:=T.qay hs;omega))
termination_by t
decreasing_by
 simp_wf
 have:=List.sizeOf_lt_of_mem hs;omega
theorem qdk(t:T):qac XV 75 [.d (t.enc .sub)] []=some (.d (.bool (t.f== -1)),[]):=by
 rw[qah XV _ _ _ v75 rfl qGE rfl];simp[v75,qRL,qRK]
def qbc(f v:Int)(ks:List T):qal:=[some [.d (.int .i64 f),.d (.int .i64 v),.d (qaa .sub ks)]]
theorem qoR(a b:T)(ha:a.inner<=1099511627776)(hb:b.inner<=1099511627776):qac XV 79 [.d (a.enc .sub),.d (b.enc .sub)] []=some (.d (.bool (decide (T.cmp a b<0))),[]):=by
 rw[qah XV _ _ _ v79 rfl qGB rfl];have h:=qgu a b ha hb;simp[v79,qRF,qRE,h]
theorem qnV(f v:Int)(ks:List T)(f' v':Int)(ks':List T)(hl:ks.length<=1099511627776)(hl':ks'.length<=1099511627776)
 (hsame:∀s s',s∈ks->s'∈ks'->qac XV 3 [.d (s.enc .sub),.d (s'.enc .sub)] []=some (.d (.bool (T.cmp s s'==0)),[]))
 (hrec:∀s s',s∈ks->s'∈ks'->qac XV 84 [.d (s.enc .sub),.d (s'.enc .sub)] []=some (.d (.bool (decide (T.cmp s s'<0))),[])):
 qac XV 84 [.d ((T.node f v ks).enc .sub),.d ((T.node f' v' ks').enc .sub)] []=some (.d (.bool (decide (T.cmp (.node f v ks) (.node f' v' ks')<0))),[]):=by
 rw[qah XV _ _ _ v84 rfl qGx rfl];rw[qjU]
 by_cases c1:f=f'
 case neg=>
  have b1:(f !=f')=true:=by simp[c1]
  have e:decide (qrw f f' v v' ks.length ks'.length (T.cmps ks ks')<0)=decide (f<f'):=by
   unfold qrw;by_cases h1:f<f'
   ·simp[h1]
   ·have h2:f>f':=by omega
    simp[h1,h2]
  rw[e];simp[v84,qBZ,qBY,qBV,qBU,qBT,qBS,qBR,qBQ,qpU,b1]
 subst c1
 by_cases c2:v=v'
 case neg=>
  have b2:(v !=v')=true:=by simp[c2]
  have e:decide (qrw f f v v' ks.length ks'.length (T.cmps ks ks')<0)=decide (v<v'):=by
   unfold qrw;by_cases h1:v<v'
   ·simp[h1]
   ·have h2:v>v':=by omega
    simp[h1,h2]
  rw[e];simp[v84,qBZ,qBY,qBV,qBU,qBT,qBS,qBR,qBQ,qpU,b2]
 subst c2
 by_cases c3:ks.length=ks'.length
 case neg=>
  have b3:((ks.length:Int) !=ks'.length)=true:=by simp;omega
  have e:decide (qrw f f v v ks.length ks'.length (T.cmps ks ks')<0)=decide (ks.length<ks'.length):=by
   unfold qrw;by_cases h1:ks.length<ks'.length
   ·simp[h1]
   ·have h2:ks'.length<ks.length:=by omega
    simp[h1,h2]
  rw[e];simp[v84,qBZ,qBY,qBV,qBU,qBT,qBS,qBR,qBQ,qpU,b3]
 have hcp:qrw f f v v ks.length ks'.length (T.cmps ks ks')=T.cmps ks ks':=by simp[qrw,c3]
 rw[hcp];have h:=qag (X:=XV) (T:=[]) (L:=2) (live:=[2,3,5]) (b:=qFW) (n:=ks.length) (γ:=Int) (st:=fun(_:Unit) i=>⟨[(2,.ptr 0 0),(3,.ptr 1 0),(5,.d (.int .i64 i))],qeR f v ks f v ks'⟩) (step:=qmh ks ks')
  (F:=fun _=>(.exit 0,⟨[(2,.ptr 0 0),(3,.ptr 1 0),(5,.d (.int .i64 ks.length)),(44,.d (.bool false))],qeR f v ks f v ks'⟩)) (R:=fun r=>(.ret,⟨[(4,.d (.bool (decide (r<0))))],qeR f v ks f v ks'⟩))
  (fun _=>⟨by simp,by simp[qFW,qHW,qHV,qeR]⟩)
  (fun _ i hi=>by
   have hw:=qae (n:=i) (by omega);have hi2:i<ks'.length:=by omega
   have hs:=hsame _ _ (qav hi) (qav hi2);have hc:=hrec _ _ (qav hi) (qav hi2);unfold qmh qeR
   by_cases h0:T.cmp (tAt ks i) (tAt ks' i)=0
   ·rw[h0]at hs⊢
    simp only[ne_eq,not_true_eq_false,if_false];refine⟨_,by simp[qFW,qHW,qLY,qHV,hi,hi2,hw,cut,qap hi,qap hi2,hs];rfl,?_⟩;simp[qad,qab]
   ·simp only[ne_eq,h0,not_false_eq_true,if_true]
    have h0':(T.cmp (tAt ks i) (tAt ks' i)==0)=false:=by simp[h0]
    rw[h0']at hs;refine⟨by simp,?_⟩;simp[qFW,qHW,qLY,qUW,qHV,hi,hi2,cut,qap hi,qap hi2,hs,hc])
  ks.length () 0 ⟨[(2,.ptr 0 0),(3,.ptr 1 0),(5,.d (.int .i64 0))],qeR f v ks f v ks'⟩ (by omega) (by simp[qad,qab,qeR])
 rw[qRs ks ks' c3 _ _ (by omega)]at h;simp only[List.drop_zero,qeR,qaa]at h;simp[v84,qBZ,qBY,qBV,qBU,qBT,qBS,qBR,qBQ,qpU,c3];rw[c3]at h;rw[h]
 by_cases h0:T.cmps ks ks'=0<;>simp[h0]
theorem qe0(a b:T)(ha:a.inner<=1099511627776)(hb:b.inner<=1099511627776):qac XV 84 [.d (a.enc .sub),.d (b.enc .sub)] []=some (.d (.bool (decide (T.cmp a b<0))),[]):=by
 match a,b,ha,hb with
 | .node f v ks,.node f' v' ks',ha,hb=>
  simp only[T.inner]at ha hb;exact qnV f v ks f' v' ks' (by omega) (by omega) (fun s s' hs hs'=>qc7 s s' (by have:=T.qay hs;omega) (by have:=T.qay hs';omega)) (fun s s' hs hs'=>qe0 s s' (by have:=T.qay hs;omega) (by have:=T.qay hs';omega))
termination_by a
decreasing_by
 simp_wf
 have:=List.sizeOf_lt_of_mem hs;omega
def qcq(l:List SymL)(f v:Int)(n:Nat):Bool:=
 if qdD l f=true then
  if v=0 then(if(qax l f.toNat).ac=true then decide ((n:Int)<2)else !decide ((n:Int)=(qax l f.toNat).arity))
  else true
 else true
def qc9(l:List SymL)(f:Int)(ks:List T)(i:Nat):Bool:=
 if(qax l f.toNat).ac=true then(if(tAt ks i).f=f then true else if i=0 then false else decide (T.cmp (tAt ks i) (tAt ks (i-1))<0))else false
mutual
def T.form(l:List SymL):T->Bool
 | .node f v ks=>
  if f= -1 then inB v 0 99&&decide (ks.length=0)
  else if qcq l f v ks.length=true then false
  else(qaw (fun i=> !((T.forms l ks)[i]?).getD false||qc9 l f ks i) ks.length 0).isNone
def T.forms(l:List SymL):List T->List Bool
 | []=>[]
 |t::r=>T.form l t::T.forms l r
end
theorem T.qr4(l:List SymL):∀ks:List T,T.forms l ks=ks.map (T.form l)
 | []=>by simp[T.forms]
 |t::r=>by simp[T.forms,T.qr4 l r]
theorem T.qpj(l:List SymL)(ks:List T)(i:Nat)(hi:i<ks.length):((T.forms l ks)[i]?).getD false=T.form l (tAt ks i):=by
 rw[T.qr4];simp[qsq hi]
theorem qUr(l:List SymL)(hs:l.length<=1099511627776)(f v:Int)(ks:List T):qau XV (XV.lin 78) (.region true 0 [0,3,62] qH4) ⟨[(0,.d (sg l)),(3,.ptr 0 0),(8,.d (.bool false))],qbc f v ks⟩=some (.normal,⟨[(0,.d (sg l)),(3,.ptr 0 0),(62,.d (.bool (qcq l f v ks.length)))],qbc f v ks⟩):=by
 have hsy:=qoL l hs f;unfold qcq qbc;cases c1:qdD l f with
 |false=>rw[c1]at hsy;simp[qFh,hsy]
 |true=>
  rw[c1]at hsy;obtain⟨g1,g2⟩:=qeh c1
  by_cases c2:v=0
  ·cases c3:(qax l f.toNat).ac with
   |true=>simp[qFh,hsy,c2,g1,g2,qaq g2,cut,c3]
   |false=>
    by_cases c4:(ks.length:Int)=(qax l f.toNat).arity
    ·simp[qFh,hsy,c2,g1,g2,qaq g2,cut,c3,c4]
    ·have b4:((ks.length:Int) !=(qax l f.toNat).arity)=true:=by simp[c4]
     simp[qFh,hsy,c2,g1,g2,qaq g2,cut,c3,c4,b4]
  ·have b2:(v !=0)=true:=by simp[c2]
   simp[qFh,hsy,c2,b2]
theorem qUq(l:List SymL)(hs:l.length<=1099511627776)(f v:Int)(ks:List T):qau XV (XV.lin 83) (.region true 0 [0,3,64] qHZ) ⟨[(0,.d (sg l)),(3,.ptr 0 0),(8,.d (.bool false))],qbc f v ks⟩=some (.normal,⟨[(0,.d (sg l)),(3,.ptr 0 0),(64,.d (.bool (qcq l f v ks.length)))],qbc f v ks⟩):=by
 have hsy:=qgV f 0 (l.length-1);have hw:IntKind.i64.wrap ((l.length:Int)-1)=l.length-1:=wrap_i64 (by omega) (by omega);unfold qcq qbc;cases c1:qdD l f with
 |false=>unfold qdD at c1;rw[c1]at hsy;simp[qFf,hsy,hw]
 |true=>
  obtain⟨g1,g2⟩:=qeh c1;unfold qdD at c1;rw[c1]at hsy
  by_cases c2:v=0
  ·cases c3:(qax l f.toNat).ac with
   |true=>simp[qFf,hsy,hw,c2,g1,g2,qaq g2,cut,c3]
   |false=>
    by_cases c4:(ks.length:Int)=(qax l f.toNat).arity
    ·simp[qFf,hsy,hw,c2,g1,g2,qaq g2,cut,c3,c4]
    ·have b4:((ks.length:Int) !=(qax l f.toNat).arity)=true:=by simp[c4]
     simp[qFf,hsy,hw,c2,g1,g2,qaq g2,cut,c3,c4,b4]
  ·have b2:(v !=0)=true:=by simp[c2]
   simp[qFf,hsy,hw,c2,b2]
theorem qXI(l:List SymL)(hs:l.length<=1099511627776)(f v:Int)(ks:List T)(hf:qdD l f=true)(i:Nat)(hi:i<ks.length)(hl:ks.length<=1099511627776)
 (hbef:∀s s',s∈ks->s'∈ks->qac XV 79 [.d (s.enc .sub),.d (s'.enc .sub)] []=some (.d (.bool (decide (T.cmp s s'<0))),[]))
 (hrec:qac XV 78 [.d (sg l),.d ((tAt ks i).enc .sub)] []=some (.d (.bool (T.form l (tAt ks i))),[])):
 qau XV (XV.lin 78) (.region true 0 [0,3,64,65,66,103] qH2) ⟨[(0,.d (sg l)),(3,.ptr 0 0),(5,.d (.int .i64 i)),(6,.ptr 1 0),(64,.d (qaa .sub ks)),(65,.d (.int .i64 ks.length)),(66,.d (.int .i64 i))],qbc f v ks++[some [.d (.int .i64 (tAt ks i).f),.d (.int .i64 (tAt ks i).v),.d (qaa .sub (tAt ks i).kids)]]⟩=
  some (.normal,⟨[(0,.d (sg l)),(3,.ptr 0 0),(64,.d (qaa .sub ks)),(65,.d (.int .i64 ks.length)),(66,.d (.int .i64 i)),(103,.d (.bool (!T.form l (tAt ks i)||qc9 l f ks i)))],qbc f v ks++[some [.d (.int .i64 (tAt ks i).f),.d (.int .i64 (tAt ks i).v),.d (qaa .sub (tAt ks i).kids)]]⟩):=by
 obtain⟨g1,g2⟩:=qeh hf;unfold qbc qc9;cases c1:T.form l (tAt ks i)with
 |false=>rw[c1]at hrec;simp[qFg,hrec]
 |true=>
  rw[c1]at hrec;cases c2:(qax l f.toNat).ac with
  |false=>simp[qFg,hrec,g1,g2,qaq g2,c2,cut]
  |true=>
   by_cases c3:(tAt ks i).f=f
   ·have b3:((tAt ks i).f==f)=true:=by simp[c3]
    simp[qFg,hrec,g1,g2,qaq g2,c2,b3,cut];simp[c3]
   ·have b3:((tAt ks i).f==f)=false:=by simp[c3]
    by_cases c4:i=0
    ·subst c4;simp[qFg,hrec,g1,g2,qaq g2,c2,c3,b3,cut]
    ·obtain⟨j,rfl⟩:∃j,i=j+1:=⟨i-1,by omega⟩
     have hj:j<ks.length:=by omega
     have hb:=hbef _ _ (qav hi) (qav hj);have hw:IntKind.i64.wrap (j:Int)=j:=qjI (by omega);have hpos:(0:Int)<((j+1:Nat):Int):=by omega
     simp only[Int.natCast_add,Int.cast_ofNat_Int]at hpos;simp[qFg,hrec,g1,g2,qaq g2,c2,c3,b3,hw,hpos,hj,qap hj,cut,hb]
theorem qEK(l:List SymL)(hs:l.length<=1099511627776)(f v:Int)(ks:List T)(hl:ks.length<=1099511627776)
 (hbef:∀s s',s∈ks->s'∈ks->qac XV 79 [.d (s.enc .sub),.d (s'.enc .sub)] []=some (.d (.bool (decide (T.cmp s s'<0))),[]))
 (hrec:∀s,s∈ks->qac XV 78 [.d (sg l),.d (s.enc .sub)] []=some (.d (.bool (T.form l s)),[])):
 qac XV 78 [.d (sg l),.d ((T.node f v ks).enc .sub)] []=some (.d (.bool (T.form l (.node f v ks))),[]):=by
 rw[qah XV _ _ _ v78 rfl qGC rfl];have hv:=qdk (.node f v ks);have hin:=qlz v 0 99;simp only[T.qbg]at hv
 by_cases c1:f= -1
 ·have hform:T.form l (.node f v ks)=(inB v 0 99&&decide (ks.length=0)):=by simp[T.form,c1]
  rw[hform];subst c1;simp only[BEq.rfl]at hv;cases c2:inB v 0 99 with
  |false=>rw[c2]at hin;simp[v78,qyx,qyw,qyv,hv,hin]
  |true=>
   rw[c2]at hin
   by_cases c3:ks.length=0
   ·simp[v78,qyx,qyw,qyv,hv,hin,c3]
   ·have b3:((ks.length:Int)==0)=false:=by simp;exact fun h=>c3 (by simp[h])
    simp[v78,qyx,qyw,qyv,hv,hin,b3];exact fun h=>c3 (by simp[h])
 have b1:(f== -1)=false:=by simp[c1]
 rw[b1]at hv;have hh:=qUr l hs f v ks;simp only[qbc,qaa,qD7]at hh;cases c2:qcq l f v ks.length with
 |true=>
  have hform:T.form l (.node f v ks)=false:=by simp[T.form,c1,c2]
  rw[hform];rw[c2]at hh;simp[v78,qyx,qyw,qyv,hv,qNg];rw[hh];simp
 |false=>
  have hsy:qdD l f=true:=by
   unfold qcq at c2
   by_cases h:qdD l f=true
   ·exact h
   ·rw[if_neg h]at c2;simp at c2
  have hform:T.form l (.node f v ks)=(qaw (fun i=> !T.form l (tAt ks i)||qc9 l f ks i) ks.length 0).isNone:=by
   have e:qaw (fun i=> !((T.forms l ks)[i]?).getD false||qc9 l f ks i) ks.length 0=qaw (fun i=> !T.form l (tAt ks i)||qc9 l f ks i) ks.length 0:=by
    have key:∀(k i:Nat),i+k=ks.length->qaw (fun i=> !((T.forms l ks)[i]?).getD false||qc9 l f ks i) k i=qaw (fun i=> !T.form l (tAt ks i)||qc9 l f ks i) k i:=by
     intro k
     induction k with
     |zero=>intro i _;rfl
     |succ k ih=>
      intro i h;simp only[qaw];simp only[T.qpj l ks i (by omega),ih (i+1) (by omega)]
    exact key _ _ (by omega)
   rw[<-e];simp[T.form,c1,c2]
  rw[hform];rw[c2]at hh;have h:=qag (X:=XV) (T:=XV.lin 78) (L:=1) (live:=[0,3,64,65,66]) (b:=qFY) (n:=ks.length) (γ:=Nat) (st:=fun(_:Unit) i=>⟨[(0,.d (sg l)),(3,.ptr 0 0),(64,.d (qaa .sub ks)),(65,.d (.int .i64 ks.length)),(66,.d (.int .i64 i))],qbc f v ks⟩) (step:=qb3 fun i=> !T.form l (tAt ks i)||qc9 l f ks i)
   (F:=fun _=>(.exit 0,⟨[(0,.d (sg l)),(3,.ptr 0 0),(64,.d (qaa .sub ks)),(65,.d (.int .i64 ks.length)),(66,.d (.int .i64 ks.length)),(67,.d (.bool false))],qbc f v ks⟩)) (R:=fun j=>(.ret,⟨[(4,.d (.bool false))],qbc f v ks++[some [.d (.int .i64 (tAt ks j).f),.d (.int .i64 (tAt ks j).v),.d (qaa .sub (tAt ks j).kids)]]⟩))
   (fun a=>⟨by simp,by simp[qFY,qH3]⟩)
   (fun a i hi=>by
    have hw:=qae (n:=i) (by omega);have hk:=qXI l hs f v ks hsy i hi hl hbef (hrec _ (qav hi));unfold qb3;simp only[qbc,qaa,List.cons_append,List.nil_append,qD7]at hk
    by_cases hq:(!T.form l (tAt ks i)||qc9 l f ks i)=true
    ·rw[if_pos hq]
     rw[hq]at hk;refine⟨by simp,?_⟩;simp[qFY,qH3,qNf,qNe,qB0,hi,cut,qap hi,qbc,splice];rw[hk];simp
    ·rw[if_neg hq]
     have hq':(!T.form l (tAt ks i)||qc9 l f ks i)=false:=by simpa using hq
     rw[hq']at hk;refine⟨⟨[(0,.d (sg l)),(3,.ptr 0 0),(64,.d (qaa .sub ks)),(65,.d (.int .i64 ks.length)),(66,.d (.int .i64 (i+1:Nat)))],qbc f v ks++[some [.d (.int .i64 (tAt ks i).f),.d (.int .i64 (tAt ks i).v),.d (qaa .sub (tAt ks i).kids)]]⟩,?_,by simp[qad,qab,qbc]⟩;simp[qFY,qH3,qNf,qNe,qB0,hi,cut,qap hi,qbc,splice];rw[hk];simp[hw])
   ks.length () 0 ⟨[(0,.d (sg l)),(3,.ptr 0 0),(64,.d (qaa .sub ks)),(65,.d (.int .i64 ks.length)),(66,.d (.int .i64 0))],qbc f v ks⟩ (by omega) (by simp[qad,qab,qbc])
  rw[qpk]at h;simp only[qbc,qaa,List.cons_append,List.nil_append,qD7]at h;simp[v78,qyx,qyw,qyv,hv,qNg,qRG];rw[hh];simp;rw[h];cases hq:qaw (fun i=> !T.form l (tAt ks i)||qc9 l f ks i) ks.length 0<;>simp[qJH]
theorem qq5(l:List SymL)(f v:Int)(ks:List T)(c1:f≠-1)(c2:qcq l f v ks.length=false):T.form l (.node f v ks)=(qaw (fun i=> !T.form l (tAt ks i)||qc9 l f ks i) ks.length 0).isNone:=by
 have e:qaw (fun i=> !((T.forms l ks)[i]?).getD false||qc9 l f ks i) ks.length 0=qaw (fun i=> !T.form l (tAt ks i)||qc9 l f ks i) ks.length 0:=by
  have key:∀(k i:Nat),i+k=ks.length->qaw (fun i=> !((T.forms l ks)[i]?).getD false||qc9 l f ks i) k i=qaw (fun i=> !T.form l (tAt ks i)||qc9 l f ks i) k i:=by
   intro k
   induction k with
   |zero=>intro i _;rfl
   |succ k ih=>
    intro i h;simp only[qaw];simp only[T.qpj l ks i (by omega),ih (i+1) (by omega)]
  exact key _ _ (by omega)
 rw[<-e];simp[T.form,c1,c2]
theorem qq6(l:List SymL)(hs:l.length<=1099511627776)(t:T)(ht:t.inner<=1099511627776):qac XV 78 [.d (sg l),.d (t.enc .sub)] []=some (.d (.bool (T.form l t)),[]):=by
 match t,ht with
 | .node f v ks,ht=>
  simp only[T.inner]at ht;exact qEK l hs f v ks (by omega) (fun s s' h h'=>qoR s s' (by have:=T.qay h;omega) (by have:=T.qay h';omega)) (fun s h=>qq6 l hs s (by have:=T.qay h;omega))
termination_by t
decreasing_by
 simp_wf
 have:=List.sizeOf_lt_of_mem h;omega
theorem qXH(l:List SymL)(hs:l.length<=1099511627776)(f v:Int)(ks:List T)(hf:qdD l f=true)(i:Nat)(hi:i<ks.length)(hl:ks.length<=1099511627776)
 (hbef:∀s s',s∈ks->s'∈ks->qac XV 84 [.d (s.enc .sub),.d (s'.enc .sub)] []=some (.d (.bool (decide (T.cmp s s'<0))),[]))
 (hrec:qac XV 83 [.d (sg l),.d ((tAt ks i).enc .sub)] []=some (.d (.bool (T.form l (tAt ks i))),[])):
 qau XV (XV.lin 83) (.region true 0 [0,3,5,116] qHX) ⟨[(0,.d (sg l)),(3,.ptr 0 0),(5,.d (.int .i64 i)),(69,.d (.bool true))],qbc f v ks⟩=
  some (.normal,⟨[(0,.d (sg l)),(3,.ptr 0 0),(5,.d (.int .i64 i)),(116,.d (.bool (!T.form l (tAt ks i)||qc9 l f ks i)))],qbc f v ks⟩):=by
 obtain⟨g1,g2⟩:=qeh hf;unfold qbc qc9;cases c2:(qax l f.toNat).ac with
 |false=>
  cases c1:T.form l (tAt ks i)with
  |false=>rw[c1]at hrec;simp[qrq,hrec,g1,g2,qaq g2,c2,cut,hi,qap hi]
  |true=>rw[c1]at hrec;simp[qrq,hrec,g1,g2,qaq g2,c2,cut,hi,qap hi]
 |true=>
  by_cases c3:(tAt ks i).f=f
  ·have b3:((tAt ks i).f==f)=true:=by simp[c3]
   simp[qrq,g1,g2,qaq g2,c2,b3,cut,hi,qap hi];simp[c3]
  ·have b3:((tAt ks i).f==f)=false:=by simp[c3]
   by_cases c4:i=0
   ·subst c4
    cases c1:T.form l (tAt ks 0)with
    |false=>rw[c1]at hrec;simp[qrq,hrec,g1,g2,qaq g2,c2,c3,b3,cut,hi,qap hi]
    |true=>rw[c1]at hrec;simp[qrq,hrec,g1,g2,qaq g2,c2,c3,b3,cut,hi,qap hi]
   ·obtain⟨j,rfl⟩:∃j,i=j+1:=⟨i-1,by omega⟩
    have hj:j<ks.length:=by omega
    have hb:=hbef _ _ (qav hi) (qav hj);have hw:IntKind.i64.wrap (j:Int)=j:=qjI (by omega);have hpos:(0:Int)<((j+1:Nat):Int):=by omega
    have hnat:(((j+1:Nat):Int)).toNat=j+1:=by omega
    simp only[Int.natCast_add,Int.cast_ofNat_Int]at hpos hnat;have hnn:(0:Int)<=(j:Int)+1:=by omega
    by_cases c5:T.cmp (tAt ks (j+1)) (tAt ks j)<0
    ·simp only[c5,decide_true]at hb
     simp[qrq,g1,g2,qaq g2,c2,c3,b3,hw,hpos,hnat,hnn,hj,hi,qap hj,qap hi,cut,hb,c5]
    ·simp only[c5,decide_false]at hb
     cases c1:T.form l (tAt ks (j+1))with
     |false=>rw[c1]at hrec;simp[qrq,hrec,g1,g2,qaq g2,c2,c3,b3,hw,hpos,hnat,hnn,hj,hi,qap hj,qap hi,cut,hb,c5]
     |true=>rw[c1]at hrec;simp[qrq,hrec,g1,g2,qaq g2,c2,c3,b3,hw,hpos,hnat,hnn,hj,hi,qap hj,qap hi,cut,hb,c5]
theorem qyU(l:List SymL)(hs:l.length<=1099511627776)(f v:Int)(ks:List T)(hl:ks.length<=1099511627776)
 (hbef:∀s s',s∈ks->s'∈ks->qac XV 84 [.d (s.enc .sub),.d (s'.enc .sub)] []=some (.d (.bool (decide (T.cmp s s'<0))),[]))
 (hrec:∀s,s∈ks->qac XV 83 [.d (sg l),.d (s.enc .sub)] []=some (.d (.bool (T.form l s)),[])):
 qac XV 83 [.d (sg l),.d ((T.node f v ks).enc .sub)] []=some (.d (.bool (T.form l (.node f v ks))),[]):=by
 rw[qah XV _ _ _ v83 rfl qGy rfl];have hin:=qgV v 0 99
 by_cases c1:f= -1
 ·have hform:T.form l (.node f v ks)=(inB v 0 99&&decide (ks.length=0)):=by simp[T.form,c1]
  rw[hform];subst c1;cases c2:inB v 0 99 with
  |false=>rw[c2]at hin;simp[v83,qyu,qyt,qys,hin]
  |true=>
   rw[c2]at hin
   by_cases c3:ks.length=0
   ·simp[v83,qyu,qyt,qys,hin,c3]
   ·have b3:((ks.length:Int)==0)=false:=by simp;exact fun h=>c3 (by simp[h])
    simp[v83,qyu,qyt,qys,hin,b3];exact fun h=>c3 (by simp[h])
 have b1:(f== -1)=false:=by simp[c1]
 have hh:=qUq l hs f v ks;simp only[qbc,qaa,qD6]at hh;cases c2:qcq l f v ks.length with
 |true=>
  have hform:T.form l (.node f v ks)=false:=by simp[T.form,c1,c2]
  rw[hform];rw[c2]at hh;simp[v83,qyu,qyt,qys,b1,qNd];rw[hh];simp
 |false=>
  have hsy:qdD l f=true:=by
   unfold qcq at c2
   by_cases h:qdD l f=true
   ·exact h
   ·rw[if_neg h]at c2;simp at c2
  rw[qq5 l f v ks c1 c2];rw[c2]at hh;have h:=qag (X:=XV) (T:=XV.lin 83) (L:=1) (live:=[0,3,5]) (b:=qFX) (n:=ks.length) (γ:=Nat) (st:=fun(_:Unit) i=>⟨[(0,.d (sg l)),(3,.ptr 0 0),(5,.d (.int .i64 i))],qbc f v ks⟩) (step:=qb3 fun i=> !T.form l (tAt ks i)||qc9 l f ks i)
   (F:=fun _=>(.exit 0,⟨[(0,.d (sg l)),(3,.ptr 0 0),(5,.d (.int .i64 ks.length)),(69,.d (.bool false))],qbc f v ks⟩)) (R:=fun j=>(.ret,⟨[(4,.d (.bool false))],qbc f v ks⟩))
   (fun a=>⟨by simp,by simp[qFX,qHY,qbc]⟩)
   (fun a i hi=>by
    have hw:=qae (n:=i) (by omega);have hk:=qXH l hs f v ks hsy i hi hl hbef (hrec _ (qav hi));unfold qb3;simp only[qbc,qaa,qD6]at hk
    by_cases hq:(!T.form l (tAt ks i)||qc9 l f ks i)=true
    ·rw[if_pos hq]
     rw[hq]at hk;refine⟨by simp,?_⟩;simp[qFX,qHY,qNc,qNb,hi,qbc];rw[hk];simp
    ·rw[if_neg hq]
     have hq':(!T.form l (tAt ks i)||qc9 l f ks i)=false:=by simpa using hq
     rw[hq']at hk;refine⟨⟨[(0,.d (sg l)),(3,.ptr 0 0),(5,.d (.int .i64 (i+1:Nat)))],qbc f v ks⟩,?_,by simp[qad,qab,qbc]⟩;simp[qFX,qHY,qNc,qNb,hi,qbc];rw[hk];simp[hw])
   ks.length () 0 ⟨[(0,.d (sg l)),(3,.ptr 0 0),(5,.d (.int .i64 0))],qbc f v ks⟩ (by omega) (by simp[qad,qab,qbc])
  rw[qpk]at h;simp only[qbc,qaa,qD6]at h;simp[v83,qyu,qyt,qys,b1,qNd,qRA];rw[hh];simp;rw[h];cases hq:qaw (fun i=> !T.form l (tAt ks i)||qc9 l f ks i) ks.length 0<;>simp[qJG]
theorem qna(l:List SymL)(hs:l.length<=1099511627776)(t:T)(ht:t.inner<=1099511627776):qac XV 83 [.d (sg l),.d (t.enc .sub)] []=some (.d (.bool (T.form l t)),[]):=by
 match t,ht with
 | .node f v ks,ht=>
  simp only[T.inner]at ht;exact qyU l hs f v ks (by omega) (fun s s' h h'=>qe0 s s' (by have:=T.qay h;omega) (by have:=T.qay h';omega)) (fun s h=>qna l hs s (by have:=T.qay h;omega))
termination_by t
decreasing_by
 simp_wf
 have:=List.sizeOf_lt_of_mem h;omega
mutual
theorem qBx:∀t:T,T.sum (fun _=>1) t=t.inner+1
 | .node f v ks=>by simp only[T.sum,T.inner];rw[quL ks];push_cast;omega
theorem quL:∀l:List T,T.sums (fun _=>1) l=T.inners l+l.length
 | []=>by simp[T.sums,T.inners]
 |t::r=>by simp only[T.sums,T.inners,List.length_cons];rw[qBx t,quL r];push_cast;omega
end
theorem qqE(t:T)(ht:t.inner<=1099511627776):IntKind.i64.wrap (T.sum (fun _=>1) t)=(t.inner+1:Nat):=by
 rw[qBx];exact qjI (n:=t.inner+1) (by omega)
def qcb(l:List SymL)(t:T):Bool:=qj9 l&&(decide (t.inner+1<=60)&&T.form l t)
theorem qhM(l:List SymL)(hs:l.length<=1099511627776)(hn:∀i,i<l.length->(qax l i).name.size<=1099511627776)(t:T)(ht:t.inner<=1099511627776):qac XV 70 [.d (sg l),.d (t.enc .sub)] []=some (.d (.bool (qcb l t)),[]):=by
 rw[qah XV _ _ _ v70 rfl qGF rfl];have h1:=qqV l hs hn;have h2:=qqW t ht;rw[qqE t ht]at h2;have h3:=qq6 l hs t ht;unfold qcb;cases c1:qj9 l with
 |false=>rw[c1]at h1;simp[v70,qH6,qH5,h1]
 |true=>
  rw[c1]at h1
  by_cases c2:t.inner+1<=60
  ·have c2':(((t.inner+1:Nat):Int))<=60:=by omega
   simp only[Int.natCast_add,Int.cast_ofNat_Int]at c2';simp[v70,qH6,qH5,h1,h2,h3,c2,c2']
  ·have c2':¬(((t.inner+1:Nat):Int))<=60:=by omega
   simp only[Int.natCast_add,Int.cast_ofNat_Int]at c2';simp[v70,qH6,qH5,h1,h2,c2,c2']
theorem qhd(l:List SymL)(hs:l.length<=1099511627776)(hn:∀i,i<l.length->(qax l i).name.size<=1099511627776)(t:T)(ht:t.inner<=1099511627776):qac XV 80 [.d (sg l),.d (t.enc .sub)] []=some (.d (.bool (qcb l t)),[]):=by
 rw[qah XV _ _ _ v80 rfl qGA rfl];have h1:=qpJ l hs hn;have h2:=qi6 t ht;rw[qqE t ht]at h2;have h3:=qna l hs t ht;unfold qcb;cases c1:qj9 l with
 |false=>rw[c1]at h1;simp[v80,qH1,qH0,h1]
 |true=>
  rw[c1]at h1
  by_cases c2:t.inner+1<=60
  ·have c2':(((t.inner+1:Nat):Int))<=60:=by omega
   simp only[Int.natCast_add,Int.cast_ofNat_Int]at c2';simp[v80,qH1,qH0,h1,h2,h3,c2,c2']
  ·have c2':¬(((t.inner+1:Nat):Int))<=60:=by omega
   simp only[Int.natCast_add,Int.cast_ofNat_Int]at c2';simp[v80,qH1,qH0,h1,h2,c2,c2']
structure Bd where
 v:Int
 t:T
def Bd.enc(g:Tag)(b:Bd):DV:= .agg [.int .i64 b.v,.int .i64 b.t.f,.int .i64 b.t.v,qaa g b.t.kids]
def Bd.ok(b:Bd):Prop:=(-9223372036854775808<=b.v/\b.v<=9223372036854775807)/\b.t.ok
abbrev binds(g:Tag)(l:List Bd):DV:= .sl g (l.map (Bd.enc g))
@[simp] theorem Bd.qeP(g:Tag)(x:Bd):(x.enc g).cells=[.int .i64 x.v,.int .i64 x.t.f,.int .i64 x.t.v,qaa g x.t.kids]:=rfl
@[simp] theorem Bd.qi0(g:Tag)(x:Bd):(AV.d (x.enc g)).cells=[.d (.int .i64 x.v),.d (.int .i64 x.t.f),.d (.int .i64 x.t.v),.d (qaa g x.t.kids)]:=rfl
@[simp] theorem Bd.qiY(g:Tag)(x:Bd):(x.enc g).isCell=false:=rfl
@[simp] theorem Bd.qVr(g:Tag)(x:Bd):isAgg (x.enc g)=true:=rfl
@[simp] theorem Bd.qec(g:Tag)(x:Bd):(x.enc g).clr=x.enc .sub:=by
 simp only[Bd.enc,DV.clr,DV.clrs,qaa,DV.qaA,qd9]
@[simp high] theorem Bd.qd0(g:Tag)(l:List Bd):(l.map (Bd.enc g)).map DV.clr=l.map (Bd.enc .sub):=by simp[List.map_map,Function.comp_def]
@[simp] theorem Bd.agg_enc(g:Tag)(x:Bd):DV.agg [.int .i64 x.v,.int .i64 x.t.f,.int .i64 x.t.v,qaa g x.t.kids]=x.enc g:=rfl
def bAt(l:List Bd)(i:Nat):Bd:=(l[i]?).getD ⟨0,.node 0 0 []⟩
theorem qbR{l:List Bd}{i:Nat}(h:i<l.length):l[i]=bAt l i:=by simp[bAt,h]
theorem qFV{l:List Bd}{i:Nat}(h:i<l.length):bAt l i∈l:=by rw[<-qbR h];exact List.getElem_mem h
theorem qun(g:Tag)(l:List Bd):∀x:DV,x∈l.map (Bd.enc g)->qrk true 4 x:=by
 intro x hx;simp only[List.mem_map]at hx;obtain⟨n,_,rfl⟩:=hx;exact⟨by simp,by simp[qaf,qai],fun _=>⟨_,rfl⟩,by simp⟩
theorem qt4(b:Bd)(hb:b.t.inner<=1099511627776):qac XV 86 [.d (b.enc .sub),.d (b.enc .sub)] []=some (.d (.bool true),[]):=by
 rw[qah XV _ _ _ v86 rfl qGw rfl];have t1:=qfu b.t hb;simp[v86,qRz,qRy,qRx,qRw,qRv,qRu,t1,qaf,qai,qam,qaC,qak]
theorem qrh(l:List Bd)(hl:l.length<=1099511627776)(hb:∀i,i<l.length->(bAt l i).t.inner<=1099511627776):qac XV 69 [.d (binds .sub l),.d (binds .sub l)] []=some (.d (.bool true),[]):=by
 rw[qah XV _ _ _ v69 rfl qGG rfl];have hloop:=qag (X:=XV) (T:=[]) (L:=0) (live:=[0,1,5]) (b:=qJr) (n:=l.length) (γ:=Unit) (st:=fun(_:Unit) i=>⟨[(0,.d (binds .sub l)),(1,.d (binds .sub l)),(5,.d (.int .i64 i))],[]⟩) (step:=fun _ _=> .inl ())
  (F:=fun _=>(.exit 0,⟨[(0,.d (binds .sub l)),(1,.d (binds .sub l)),(5,.d (.int .i64 l.length)),(14,.d (.bool false))],[]⟩)) (R:=fun _=>(.ret,⟨[],[]⟩))
  (fun _=>⟨by simp,by simp[qJr,qNp,qNm,qNo]⟩)
  (fun _ i hi=>by
   have hw:=qae (n:=i) (by omega);have hc':=qt4 (bAt l i) (hb i hi);exact⟨_,by simp[qJr,qNp,qXZ,qNm,qNo,hi,hw,cut,qbR hi,hc'];rfl,by simp[qad,qab]⟩)
  l.length () 0 ⟨[(0,.d (binds .sub l)),(1,.d (binds .sub l)),(5,.d (.int .i64 0))],[]⟩ (by omega) (by simp[qad,qab])
 rw[qdp]at hloop;simp[v69,qRS,qRR,qRQ,qRP,qRO];rw[hloop];simp
mutual
theorem qo4:∀a b:T,T.cmp a b= -(T.cmp b a)
 | .node f v ks,.node f' v' ks'=>by
  have h:=qxn ks ks';simp only[T.cmp]
  repeat' split
  all_goals first|omega|exact h
theorem qxn:∀a b:List T,T.cmps a b= -(T.cmps b a)
 | [],[]=>rfl
 | [],_::_=>rfl
 |_::_,[]=>rfl
 |x::xs,y::ys=>by
  have h1:=qo4 x y;have h2:=qxn xs ys;simp only[T.cmps]
  repeat' split
  all_goals omega
end
mutual
theorem qnr:∀a b:T,T.cmp a b=0->a=b
 | .node f v ks,.node f' v' ks',h=>by
  simp only[T.cmp]at h
  repeat' split at h
  all_goals first|omega|skip
  have h1:=qFw ks ks' (by omega) h;have h2:f=f':=by omega
  have h3:v=v':=by omega
  rw[h1,h2,h3]
theorem qFw:∀a b:List T,a.length=b.length->T.cmps a b=0->a=b
 | [],[],_,_=>rfl
 | [],_::_,h,_=>by simp at h
 |_::_,[],h,_=>by simp at h
 |x::xs,y::ys,hl,h=>by
  simp only[T.cmps]at h;split at h
  ·omega
  ·rename_i h0
   rw[qnr x y (by omega),qFw xs ys (by simpa using hl) h]
end
mutual
theorem qL3:∀a b c:T,T.cmp a b<0->T.cmp b c<0->T.cmp a c<0
 | .node f v ks,.node f' v' ks',.node f2 vw2 ks2,h1,h2=>by
  simp only[T.cmp]at h1 h2⊢
  by_cases e1:f<f'
  ·have:f'<=f2:=by
    apply Classical.byContradiction;intro h
    rw[if_neg (by omega),if_pos (by omega)]at h2;omega
   rw[if_pos (by omega)];omega
  ·have e1':f=f':=by
    apply Classical.byContradiction;intro h
    rw[if_neg e1,if_pos (by omega)]at h1;omega
   subst e1'
   by_cases e2:f<f2
   ·rw[if_pos e2];omega
   ·have e2':f=f2:=by
     apply Classical.byContradiction;intro h
     rw[if_neg e2,if_pos (by omega)]at h2;omega
    subst e2';simp only[Int.lt_irrefl,gt_iff_lt,if_false]at h1 h2⊢
    by_cases e3:v<v'
    ·have:v'<=vw2:=by
      apply Classical.byContradiction;intro h
      rw[if_neg (by omega),if_pos (by omega)]at h2;omega
     rw[if_pos (by omega)];omega
    ·have e3':v=v':=by
      apply Classical.byContradiction;intro h
      rw[if_neg e3,if_pos (by omega)]at h1;omega
     subst e3'
     by_cases e4:v<vw2
     ·rw[if_pos e4];omega
     ·have e4':v=vw2:=by
       apply Classical.byContradiction;intro h
       rw[if_neg e4,if_pos (by omega)]at h2;omega
      subst e4';simp only[Int.lt_irrefl,gt_iff_lt,if_false]at h1 h2⊢
      by_cases e5:ks.length<ks'.length
      ·have:ks'.length<=ks2.length:=by
        apply Classical.byContradiction;intro h
        rw[if_neg (by omega),if_pos (by omega)]at h2;omega
       rw[if_pos (by omega)];omega
      ·have e5':ks.length=ks'.length:=by
        apply Classical.byContradiction;intro h
        rw[if_neg e5,if_pos (by omega)]at h1;omega
       by_cases e6:ks.length<ks2.length
       ·rw[if_pos e6];omega
       ·have e6':ks.length=ks2.length:=by
         apply Classical.byContradiction;intro h
         rw[if_neg (by omega),if_pos (by omega)]at h2;omega
        rw[if_neg (by omega),if_neg (by omega)]at h1 h2⊢
        exact qFx ks ks' ks2 e5' (by omega) h1 h2
theorem qFx:∀a b c:List T,a.length=b.length->b.length=c.length->T.cmps a b<0->T.cmps b c<0->T.cmps a c<0
 | [],[],_,_,_,h,_=>by simp[T.cmps]at h
 | [],_::_,_,h,_,_,_=>by simp at h
 |_::_,[],_,h,_,_,_=>by simp at h
 |x::xs,y::ys,[],_,h,_,_=>by simp at h
 |x::xs,y::ys,z::zs,l1,l2,h1,h2=>by
  simp only[T.cmps]at h1 h2⊢
  have t1:=qL3 x y z
  by_cases c1:T.cmp x y=0
  ·have:=qnr x y c1
   subst this
   by_cases c2:T.cmp x z=0
   ·simp only[c1,c2,ne_eq,not_true_eq_false,if_false]at h1 h2⊢
    exact qFx xs ys zs (by simpa using l1) (by simpa using l2) h1 h2
   ·simp only[c2,ne_eq,not_false_eq_true,if_true]at h2⊢
    exact h2
  ·simp only[c1,ne_eq,not_false_eq_true,if_true]at h1
   by_cases c2:T.cmp y z=0
   ·have:=qnr y z c2
    subst this;simp only[c1,ne_eq,not_false_eq_true,if_true];exact h1
   ·simp only[c2,ne_eq,not_false_eq_true,if_true]at h2
    have h3:=t1 h1 h2;have c3:T.cmp x z≠0:=by omega
    simp only[c3,ne_eq,not_false_eq_true,if_true];exact h3
end
def tle(a b:T):Prop:=T.cmp a b<=0
theorem quH(a:T):tle a a:=by
 have:=qo4 a a;unfold tle;omega
theorem qfU{a b c:T}(h1:tle a b)(h2:tle b c):tle a c:=by
 unfold tle at*
 by_cases c1:T.cmp a b=0
 ·rw[qnr a b c1];exact h2
 by_cases c2:T.cmp b c=0
 ·rw[<-qnr b c c2];exact h1
 have:=qL3 a b c (by omega) (by omega);omega
theorem qpz{a b:T}(h1:tle a b)(h2:tle b a):a=b:=by
 have:=qo4 a b;unfold tle at*
 exact qnr a b (by omega)
theorem qci{a b:T}(h:¬T.cmp a b<0):tle b a:=by
 have:=qo4 a b;unfold tle;omega
theorem qez{a b:T}(h:T.cmp a b<0):tle a b:=by unfold tle;omega
def Srt(l:List T):Prop:=l.Pairwise tle
theorem qHt{a b:List T}(h1:Srt a)(h2:Srt b)(h:a.Perm b):a=b:=List.Perm.eq_of_pairwise (fun _ _ _ _=>qpz) h1 h2 h
def qFc(u w:List Bd)(i:Nat):Bool:= !((bAt u i).v==(bAt w i).v&&T.cmp (bAt u i).t (bAt w i).t==0)
def qix(u w:List Bd):Bool:=decide (u.length=w.length)&&(qaw (qFc u w) u.length 0).isNone
mutual
theorem T.qL9(g:Tag)(hg:g≠.nil):∀t:T,(t.enc g).sh=t.enc .sub
 | .node f v ks=>by
  have:=T.qGd g hg ks;simp only[T.enc,DV.sh,DV.shs,if_neg hg,this]
theorem T.qGd(g:Tag)(hg:g≠.nil):∀ts:List T,DV.shs (T.encs g ts)=T.encs .sub ts
 | []=>by simp[T.encs,DV.shs]
 |t::ts=>by simp only[T.encs,DV.shs,T.qL9 g hg t,T.qGd g hg ts]
end
theorem qnQ(g:Tag)(hg:g≠.nil)(ts:List T):(ts.map (T.enc g)).map DV.sh=ts.map (T.enc .sub):=by
 rw[List.map_map];exact List.map_congr_left fun t _=>T.qL9 g hg t
theorem qyV(g:Tag)(t:T):qet (t.enc g)=true:=by cases t;rfl
theorem qms(g:Tag)(hg:g≠.nil)(ts:List T)(i:Nat)(B:qal)(hi:i<ts.length)(hl:ts.length<=1099511627776):
 qac XV 284 [.d (qaa g ts),.d (.int .i64 i)] B=some (.d (qaa .sub (ts.take i++ts.drop (i+1))),B):=by
 rw[qlP XV 284 _ _ qdg rfl];have h1:(ts.map (T.enc g)).all qet=true:=by
  rw[List.all_eq_true];intro x hx
  obtain⟨t,_,rfl⟩:=List.mem_map.1 hx;exact qyV g t
 have h2:(0:Int)<=i/\(i:Int)<(ts.map (T.enc g)).length/\(ts.map (T.enc g)).length*40<=140737488355328:=by
  rw[List.length_map];omega
 simp only[qaG,Option.map_some,Option.bind_some,qdg,qaa];rw[if_pos ⟨h1,h2⟩];simp only[Int.toNat_natCast,<-List.map_take,<-List.map_drop,<-List.map_append,qnQ g hg,Option.map_some]
def qlV(u:List Bd)(v:Int):Nat:=u.findIdx fun b=>decide (b.v>v)
def qgp(u:List Bd)(v:Int)(t:T):List Bd:=u.take (qlV u v)++⟨v,t⟩::u.drop (qlV u v)
theorem qrB(g:Tag):∀u:List Bd,qjE (u.map (Bd.enc g))=some (u.map Bd.v)
 | []=>rfl
 |b::u=>by
  have h:qPF (b.enc g)=some b.v:=rfl;simp only[List.map_cons,qjE,h,qrB g u,Option.map_some,Option.bind_some]
theorem qVk(g:Tag)(hg:g≠.nil)(b:Bd):(b.enc g).sh=b.enc .sub:=by
 simp only[Bd.enc,qaa,DV.sh,DV.shs,if_neg hg,qe2,qnQ g hg]
theorem qDN(g g':Tag)(hg:g≠.nil)(hg':g'≠.nil)(u:List Bd)(v:Int)(t:T)(B:qal)(hl:u.length<=1099511627776):
 qac XV 323 [.d (binds g u),.d (.int .i64 v),.d (t.enc g')] B=some (.d (binds .sub (qgp u v t)),B):=by
 rw[qlP XV 323 _ _ qGj rfl];have ht:t.enc g'= .agg [.int .i64 t.f,.int .i64 t.v,.sl g' (t.kids.map (T.enc g'))]:=T.qbF g' t;have hb:(u.map (Bd.enc g)).length+1<=2932031007402:=by rw[List.length_map];omega
 have hb2:((u.map (Bd.enc g)).length+1)*48<=140737488355328:=by omega
 have hk:qzZ (u.map Bd.v) v=qlV u v:=by unfold qzZ qlV;rw[List.findIdx_map];rfl
 rw[ht];simp only[qaG,Option.map_some,Option.bind_some,qGj,binds,qrB];rw[if_pos hb2,hk];have hx:DV.sh (.agg [.int .i64 v,.int .i64 t.f,.int .i64 t.v,.sl g' (t.kids.map (T.enc g'))])=Bd.enc .sub ⟨v,t⟩:=qVk g' hg' ⟨v,t⟩;have hm:∀l:List Bd,(l.map (Bd.enc g)).map DV.sh=l.map (Bd.enc .sub):=fun l=>by
  rw[List.map_map];exact List.map_congr_left fun b _=>qVk g hg b
 simp only[<-List.map_take,<-List.map_drop,List.map_append,List.map_cons,hm,hx,qgp];rfl
structure Gl where
 many:Bool
 f:Int
 ps:List T
 ts:List T
def Gl.enc(g:Tag)(x:Gl):DV:= .agg [.bool x.many,.int .i64 x.f,qaa g x.ps,qaa g x.ts]
abbrev qaU(g:Tag)(l:List Gl):DV:= .sl g (l.map (Gl.enc g))
theorem qXJ(g:Tag)(hg:g≠.nil)(x:Gl):(x.enc g).sh=x.enc .sub:=by
 simp only[Gl.enc,qaa,DV.sh,DV.shs,if_neg hg,qe2,qnQ g hg]
theorem qtQ(g g1 g2 g3:Tag)(h1:g1≠.nil)(h2:g2≠.nil)(h3:g3≠.nil)(a b c:List Gl)(B:qal)(hb:0<b.length)(hl:a.length+b.length+c.length<=1099511627776):
 qac XV 328 [.d (.sl g [qaU g1 a,qaU g2 b,qaU g3 c])] B=some (.d (qaU .sub (a++(b++c))),B):=by
 rw[qlP XV 328 _ _ (qGl 4 64) rfl];have hrow:rowsOf [qaU g1 a,qaU g2 b,qaU g3 c]=some [a.map (Gl.enc g1),b.map (Gl.enc g2),c.map (Gl.enc g3)]:=rfl;have hfl:[a.map (Gl.enc g1),b.map (Gl.enc g2),c.map (Gl.enc g3)].flatten=a.map (Gl.enc g1)++(b.map (Gl.enc g2)++c.map (Gl.enc g3)):=by simp
 have ha:∀(g:Tag) (l:List Gl),(l.map (Gl.enc g)).all (fun x=>decide (x.cells.length=4))=true:=fun g l=>by
  rw[List.all_eq_true];intro x hx
  obtain⟨t,_,rfl⟩:=List.mem_map.1 hx;rfl
 have hm:∀(g:Tag),g≠.nil->∀l:List Gl,(l.map (Gl.enc g)).map DV.sh=l.map (Gl.enc .sub):=fun g hg l=>by
  rw[List.map_map];exact List.map_congr_left fun b _=>qXJ g hg b
 simp only[qaG,Option.map_some,Option.bind_some,qGl,hrow,hfl];rw[if_pos ⟨by rw[List.all_append,List.all_append,ha,ha,ha];rfl,by simp;omega,by simp;omega⟩];simp only[List.map_append,hm g1 h1,hm g2 h2,hm g3 h3,Option.map_some,qaU]
def qyN(sg ways:DV)(most steps limit:Int)(over:Bool):List AV:=[.d sg,.d ways,.d (.int .i64 most),.d (.int .i64 steps),.d (.int .i64 limit),.d (.bool over)]
theorem qdo(pre:qal)(x:Option (List AV))(r:qal):(pre++x::r).take (pre.length+(r.length+1))=pre++x::r:=List.take_of_length_le (by simp)
theorem qPa(pre r:qal)(sg:DV)(g:Tag)(ws:List DV)(most steps limit:Int)(over:Bool):
 qac XV 319 [.ptr pre.length 0] (pre++some (qyN sg (.sl g ws) most steps limit over)::r)=some (.d (.bool (over||decide ((ws.length:Int)>most))),pre++some (qyN sg (.sl g ws) most steps limit over)::r):=by
 rw[qah XV _ _ _ qPN rfl qAk rfl];have hn:¬(pre.length+(r.length+1)<=pre.length):=by omega
 cases over
 ·simp[qPN,qCa,qLZ,qyN,hn,qdo]
 ·simp[qPN,qCa,qLZ,qyN,hn,qdo]
theorem qoN(l:List T)(fk:Nat)(caps:List AV)(B:qal)(P:T->Bool)(hl:l.length<=1099511627776)(hs:AV.safe.safes B.length caps=true)(hcc:caps.map AV.clr=caps)(hk:¬0∈XV.lin fk)
 (hf:∀s,s∈l->qac XV fk (.d (s.enc .sub)::caps) B=some (.d (.bool (P s)),B)):
 qac XV 281 [.d (qaa .sub l),.fn fk caps] B=some (.d (.int .i64 (qgQ (qaw (fun i=>P (tAt l i)) l.length 0))),B):=by
 rw[qah XV _ _ _ qQU rfl qAF rfl];have h:=qag (X:=XV) (T:=XV.lin 281) (L:=B.length) (live:=[0,1,7,8]) (b:=qrI) (n:=l.length) (st:=fun(_:Unit) i=>⟨[(0,.d (qaa .sub l)),(1,.fn fk caps),(7,.d (.int .i64 l.length)),(8,.d (.int .i64 i))],B⟩) (step:=qb3 fun i=>P (tAt l i))
  (F:=fun _=>(.exit 0,⟨[(0,.d (qaa .sub l)),(1,.fn fk caps),(7,.d (.int .i64 l.length)),(8,.d (.int .i64 l.length)),(9,.d (.bool false))],B⟩)) (R:=fun(j:Nat)=>(.ret,⟨[(4,.d (.int .i64 j))],B⟩))
  (fun a=>⟨by simp,by simp[qrI,qvS,qvR,qvQ,qvP,qvO]⟩)
  (fun a i hi=>by
   have hw:=qae (n:=i) (by omega);have hc:=hf _ (qav hi);unfold qb3
   by_cases hq:P (tAt l i)=true
   ·rw[if_pos hq];rw[hq]at hc
    exact⟨by simp,by simp[qrI,qvS,qvR,qvQ,qvP,qvO,hi,cut,qap hi,hc,hcc,hk]⟩
   ·rw[if_neg hq]
    have hq':P (tAt l i)=false:=by simpa using hq
    rw[hq']at hc;exact⟨_,by simp[qrI,qvS,qvR,qvQ,qvP,qvO,hi,hw,cut,qap hi,hc,hcc,hk];rfl,by simp[qad,qab,hs]⟩)
  l.length () 0 ⟨[(0,.d (qaa .sub l)),(1,.fn fk caps),(7,.d (.int .i64 l.length)),(8,.d (.int .i64 0))],B⟩ (by omega) (by simp[qad,qab,hs])
 rw[qpk]at h;simp only[qOn]at h;simp[qQU,qKo,qKn,qKm];rw[h];cases hq:qaw (fun i=>P (tAt l i)) l.length 0<;>simp[qgQ]
theorem qBr(x:T)(f v:Int)(ks:List T)(hx:x.inner<=1099511627776)(ht:(T.node f v ks).inner<=1099511627776):
 qac XV 283 [.d (x.enc .sub),.ptr 0 0] [some [.d (.int .i64 f),.d (.int .i64 v),.d (qaa .sub ks)]]=some (.d (.bool (T.cmp x (.node f v ks)==0)),[some [.d (.int .i64 f),.d (.int .i64 v),.d (qaa .sub ks)]]):=by
 rw[qah XV _ _ _ qQS rfl qAD rfl];have h:=same_eq x (.node f v ks) hx ht;obtain⟨f',v',ks'⟩:=x;simp[qQS,qKi,qKh,h]
def qcW(l:List T)(t:T)(i:Nat):Bool:=T.cmp (tAt l i) t==0
def qbr(l:List T)(j:Nat):List T:=l.take j++l.drop (j+1)
def takeN:List T->List T->List T⊕T
 |l,[]=> .inl l
 |l,t::ts=>match qaw (qcW l t) l.length 0 with
  |none=> .inr t
  |some j=>takeN (qbr l j) ts
def quN(ts:List T)(l:List T)(i:Nat):List T⊕T:=
 match qaw (qcW l (tAt ts i)) l.length 0 with
 |some j=> .inl (qbr l j)
 |none=> .inr (tAt ts i)
theorem qRr(ts:List T):∀(k i:Nat) (l:List T),i+k=ts.length->runN (quN ts) k l i=takeN l (ts.drop i)
 |0,i,l,h=>by
  have h1:ts.drop i=[]:=List.drop_eq_nil_of_le (by omega);simp[runN,h1,takeN]
 |k+1,i,l,h=>by
  have hlt:i<ts.length:=by omega
  rw[List.drop_eq_getElem_cons hlt,qap hlt];simp only[runN,quN,takeN];cases qaw (qcW l (tAt ts i)) l.length 0 with
  |none=>rfl
  |some j=>exact qRr ts k (i+1) _ (by omega)
theorem qnm{l:List T}{j:Nat}{x:T}(h:x∈qbr l j):x∈l:=by
 unfold qbr at h;rcases List.mem_append.1 h with h|h
 ·exact List.mem_of_mem_take h
 ·exact List.mem_of_mem_drop h
theorem qnn{l:List T}{j:Nat}:(qbr l j).length<=l.length:=by unfold qbr;simp;omega
theorem qHn(l ts:List T)(hl:l.length<=1099511627776)(ht:ts.length<=1099511627776)(bl:∀x,x∈l->x.inner<=1099511627776)(bt:∀x,x∈ts->x.inner<=1099511627776):
 qac XV 282 [.d (qaa .sub l),.d (qaa .sub ts)] []=some (match takeN l ts with| .inl r=> .d (.tup [qaa .sub r,.bool true])| .inr _=> .d (.tup [.sl U [],.bool false]),[]):=by
 rw[qah XV _ _ _ qQT rfl qAE rfl];have h:=qeF (X:=XV) (T:=XV.lin 282) (L:=0) (live:=[0,9,10,11]) (b:=qrH) (n:=ts.length) (γ:=T) (st:=fun(r:List T) i=>⟨[(0,.d (qaa .sub r)),(9,.d (qaa .sub ts)),(10,.d (.int .i64 ts.length)),(11,.d (.int .i64 i))],[]⟩) (step:=quN ts)
  (F:=fun r=>(.exit 0,⟨[(0,.d (qaa .sub r)),(9,.d (qaa .sub ts)),(10,.d (.int .i64 ts.length)),(11,.d (.int .i64 ts.length)),(12,.d (.bool false))],[]⟩)) (R:=fun q=>(.ret,⟨[(4,.d (.sl U [])),(5,.d (.bool false))],[some [.d (.int .i64 q.f),.d (.int .i64 q.v),.d (qaa .sub q.kids)]]⟩))
  (fun r _=>r.length<=1099511627776/\∀x,x∈r->x.inner<=1099511627776)
  (fun a _=>⟨by simp,by simp[qrH,qvN,qvM,qvL,qvK,qvJ,qvI,qvH]⟩)
  (fun a i hi hinv=>by
   have hw:=qae (n:=i) (by omega);obtain⟨i1,i2⟩:=hinv;have hb:=bt _ (qav hi);generalize hq:tAt ts i=q at*
   obtain⟨f,v,ks⟩:=q;have hc:=qoN a 283 [.ptr 0 0] [some [.d (.int .i64 f),.d (.int .i64 v),.d (qaa .sub ks)]] (fun x=>T.cmp x (.node f v ks)==0) i1 (by simp) (by simp) (by simp) (fun x hx=>qBr x f v ks (i2 x hx) hb);have hfe:(fun j=>T.cmp (tAt a j) (.node f v ks)==0)=qcW a (.node f v ks):=rfl;rw[hfe]at hc;unfold quN;rw[hq];cases hfa:qaw (qcW a (.node f v ks)) a.length 0 with
   |none=>
    rw[hfa]at hc;exact⟨⟨by simp,by simp[qrH,qvN,qvM,qvL,qvK,qvJ,qvI,qvH,hi,cut,qap hi,hq,hc,qgQ,splice]⟩,fun a' h=>by simp at h⟩
   |some j=>
    rw[hfa]at hc;obtain⟨_,hj,_⟩:=qcd _ _ _ _ hfa;have hj0:¬((j:Int)<0):=by omega
    have hw2:=qms .sub (by simp) a j [] (by omega) i1;refine⟨⟨_,by simp[qrH,qvN,qvM,qvL,qvK,qvJ,qvI,qvH,hi,hw,cut,qap hi,hq,hc,qgQ,hw2,splice,hj0];rfl,by simp[qad,qab,qbr]⟩,fun a' h=> ?_⟩;simp only[Sum.inl.injEq]at h;subst h;exact⟨Nat.le_trans qnn i1,fun x hx=>i2 x (qnm hx)⟩)
  ts.length l 0 ⟨[(0,.d (qaa .sub l)),(9,.d (qaa .sub ts)),(10,.d (.int .i64 ts.length)),(11,.d (.int .i64 0))],[]⟩ (by omega) ⟨hl,bl⟩ (by simp[qad,qab])
 rw[qRr ts _ _ _ (by omega)]at h;simp only[qOm,List.drop_zero]at h;simp[qQT,qKl,qKk,qKj];rw[h];cases takeN l ts<;>simp
abbrev is(l:List Int):DV:= .sl .sub (l.map (.int .i64))
@[simp high] theorem qVg(l:List Int):(l.map (DV.int .i64)).map DV.clr=l.map (DV.int .i64):=by simp[List.map_map,Function.comp_def]
section
variable (X:XEnv)
end
end Go.Proofs.YtbcbkiaineacpaaGreat.VS
