/- Contracts of the program's functions on the evaluator without names, and plain lemmas: part 1. -/
import Derived.Test.YtfiakfiocdfpbaaLin
set_option linter.unusedSimpArgs false
set_option linter.unusedVariables false
namespace Go.Proofs.Ytfiakfiocdfpbaa.VS
inductive T where
 |node (f v:Int) (kids:List T)
 deriving Inhabited
def T.f:T->Int| .node f _ _=>f
def T.v:T->Int| .node _ v _=>v
def T.kids:T->List T| .node _ _ k=>k
mutual
def T.enc(g:Tag):T->DV
 | .node f v ks=> .agg [.int .i64 f,.int .i64 v,.sl g (T.encs g ks)]
def T.encs(g:Tag):List T->List DV
 | []=>[]
 |t::r=>t.enc g::T.encs g r
end
theorem T.qeb(g:Tag):∀l:List T,T.encs g l=l.map (T.enc g)
 | []=>by unfold T.encs;rfl
 |t::r=>by unfold T.encs;simp[T.qeb g r]
abbrev qak(g:Tag)(l:List T):DV:= .sl g (l.map (T.enc g))
theorem T.qc0(g:Tag)(t:T):t.enc g= .agg [.int .i64 t.f,.int .i64 t.v,qak g t.kids]:=by
 cases t;simp[T.enc,T.qeb,qak,T.f,T.v,T.kids]
@[simp] theorem agg_enc(g:Tag)(f v:Int)(ks:List T):DV.agg [.int .i64 f,.int .i64 v,qak g ks]=(T.node f v ks).enc g:=by
 simp[T.enc,T.qeb,qak]
@[simp] theorem T.eta(t:T):T.node t.f t.v t.kids=t:=by cases t;rfl
@[simp] theorem T.qdq(f v:Int)(k:List T):(T.node f v k).f=f:=rfl
@[simp] theorem T.qfk(f v:Int)(k:List T):(T.node f v k).v=v:=rfl
@[simp] theorem T.qbb(f v:Int)(k:List T):(T.node f v k).kids=k:=rfl
@[simp] theorem T.qnv(g:Tag)(t:T):(t.enc g).cells=[.int .i64 t.f,.int .i64 t.v,qak g t.kids]:=by rw[T.qc0];rfl
@[simp] theorem T.qkO(g:Tag)(t:T):(AV.d (t.enc g)).cells=[.d (.int .i64 t.f),.d (.int .i64 t.v),.d (qak g t.kids)]:=by rw[T.qc0];rfl
@[simp] theorem T.qkN(g:Tag)(t:T):(t.enc g).isCell=false:=by rw[T.qc0];rfl
mutual
theorem T.qeP(g:Tag):∀t:T,(t.enc g).clr=t.enc .sub
 | .node f v ks=>by simp only[T.enc,DV.clr,DV.clrs,T.qed g ks]
theorem T.qed(g:Tag):∀l:List T,DV.clrs (T.encs g l)=T.encs .sub l
 | []=>by simp only[T.encs,DV.clrs]
 |t::r=>by simp only[T.encs,DV.clrs,T.qeP g t,T.qed g r]
end
attribute [simp] T.qeP
@[simp high] theorem qcB(g:Tag)(l:List T):(l.map (T.enc g)).map DV.clr=l.map (T.enc .sub):=by
 rw[<-T.qeb,<-T.qeb,<-DV.qav,T.qed]
def tAt(l:List T)(i:Nat):T:=(l[i]?).getD (.node 0 0 [])
theorem qaF{l:List T}{i:Nat}(h:i<l.length):l[i]=tAt l i:=by simp[tAt,h]
theorem qaT{l:List T}{i:Nat}(h:i<l.length):tAt l i∈l:=by rw[<-qaF h];exact List.getElem_mem h
theorem qtM{l:List T}{i:Nat}(h:i<l.length):l[i]?=some (tAt l i):=by simp[tAt,h]
@[simp] theorem qD6(g:Tag){l:List T}{i:Nat}(h:i<l.length):(l.map (T.enc g))[i]?=some ((tAt l i).enc g):=by simp[qtM h]
mutual
def T.inner:T->Nat
 | .node _ _ ks=>ks.length+T.inners ks
def T.inners:List T->Nat
 | []=>0
 |t::r=>t.inner+T.inners r
end
theorem T.qgG(t:T):t.inner=t.kids.length+T.inners t.kids:=by cases t;simp[T.inner]
end Go.Proofs.Ytfiakfiocdfpbaa.VS
namespace Go.Proofs.Ytfiakfiocdfpbaa.VS
mutual
def T.ok:T->Prop
 | .node _ _ ks=>ks.length<=maxLen/\T.oks ks
def T.oks:List T->Prop
 | []=>True
 |t::r=>t.ok/\T.oks r
end
end Go.Proofs.Ytfiakfiocdfpbaa.VS
namespace Go.Proofs.Ytfiakfiocdfpbaa.VS
set_option profiler true
set_option profiler.threshold 2000
theorem T.qaD:∀{l:List T} {t:T},t∈l->t.inner<=T.inners l
 | [],t,h=>by simp at h
 |s::r,t,h=>by
  simp only[T.inners];rcases List.mem_cons.1 h with rfl|h
  ·omega
  ·have:=T.qaD h;omega
mutual
def T.cmp:T->T->Int
 | .node f v ks,.node f' v' ks'=>
  if f<f' then-1 else if f>f' then 1 else if v<v' then-1 else if v>v' then 1 else
  if ks.length<ks'.length then-1 else if ks.length>ks'.length then 1 else T.cmps ks ks'
def T.cmps:List T->List T->Int
 |a::as,b::bs=>if T.cmp a b≠0 then T.cmp a b else T.cmps as bs
 |_,_=>0
end
def qmg(l m:List T)(_:Unit)(i:Nat):Unit⊕Int:=if T.cmp (tAt l i) (tAt m i)≠0 then .inr (T.cmp (tAt l i) (tAt m i))else .inl ()
theorem qG7(l m:List T)(hl:l.length=m.length):∀(k i:Nat),i+k=l.length->runN (qmg l m) k () i=if T.cmps (l.drop i) (m.drop i)=0 then .inl ()else .inr (T.cmps (l.drop i) (m.drop i))
 |0,i,h=>by
  have h1:l.drop i=[]:=List.drop_eq_nil_of_le (by omega);simp[runN,h1,T.cmps]
 |k+1,i,h=>by
  have hlt:i<l.length:=by omega
  have hlt':i<m.length:=by omega
  rw[List.drop_eq_getElem_cons hlt,List.drop_eq_getElem_cons hlt',qaF hlt,qaF hlt'];simp only[runN,qmg,T.cmps]
  by_cases hc:T.cmp (tAt l i) (tAt m i)=0
  ·simp only[hc,ne_eq,not_true_eq_false,if_false]
   exact qG7 l m hl k (i+1) (by omega)
  ·simp[hc]
def qfd(a b c d e f:Int)(i:Nat):Int×Int:=if i=0 then(a,b)else if i=1 then(c,d)else(e,f)
def qnQ(a b c d e f:Int)(_:Unit)(i:Nat):Unit⊕(Int×(Int×Int)):=if(qfd a b c d e f i).1<(qfd a b c d e f i).2 then .inr (-1,qfd a b c d e f i)else if(qfd a b c d e f i).1>(qfd a b c d e f i).2 then .inr (1,qfd a b c d e f i)else .inl ()
def qgH(f v:Int)(ks:List T)(f' v':Int)(ks':List T):qaj:=[some [.d (.int .i64 f),.d (.int .i64 v),.d (qak .sub ks)],some [.d (.int .i64 f'),.d (.int .i64 v'),.d (qak .sub ks')]]
def qCK(a b c d e f:Int):List DV:=[.agg [.int .i64 a,.int .i64 b],.agg [.int .i64 c,.int .i64 d],.agg [.int .i64 e,.int .i64 f]]
theorem qyY(a b c d e f:Int)(i:Nat)(hi:i<3):(qCK a b c d e f)[i]?=some (.agg [.int .i64 (qfd a b c d e f i).1,.int .i64 (qfd a b c d e f i).2]):=by
 match i,hi with
 |0,_=>rfl
 |1,_=>rfl
 |2,_=>rfl
theorem qr8(a b c d e f:Int)(B:qaj)(hB:B.length=2):
 qdM XV [] 2 [2,3,26,27,28] qCT ⟨[(2,.ptr 0 0),(3,.ptr 1 0),(26,.d (.sl .sub (qCK a b c d e f))),(27,.d (.int .i64 3)),(28,.d (.int .i64 0))],B⟩=
  some (match runN (qnQ a b c d e f) 3 () 0 with
   | .inl _=>(.exit 0,⟨[(2,.ptr 0 0),(3,.ptr 1 0),(26,.d (.sl .sub (qCK a b c d e f))),(27,.d (.int .i64 3)),(28,.d (.int .i64 3)),(29,.d (.bool false))],B⟩)
   | .inr r=>(.ret,⟨[(4,.d (.int .i64 r.1))],B++[some [.d (.int .i64 r.2.1),.d (.int .i64 r.2.2)]]⟩)):=by
 obtain⟨x0,x1,rfl⟩:∃x0 x1,B=[x0,x1]:=by
  match B,hB with
  | [x0,x1],_=>exact⟨x0,x1,rfl⟩
 have key:=qaA (X:=XV) (T:=[]) (L:=2) (live:=[2,3,26,27,28]) (b:=qCT) (n:=3) (γ:=Int×(Int×Int)) (st:=fun(_:Unit) i=>⟨[(2,.ptr 0 0),(3,.ptr 1 0),(26,.d (.sl .sub (qCK a b c d e f))),(27,.d (.int .i64 3)),(28,.d (.int .i64 i))],[x0,x1]⟩) (step:=qnQ a b c d e f)
  (F:=fun _=>(.exit 0,⟨[(2,.ptr 0 0),(3,.ptr 1 0),(26,.d (.sl .sub (qCK a b c d e f))),(27,.d (.int .i64 3)),(28,.d (.int .i64 3)),(29,.d (.bool false))],[x0,x1]⟩)) (R:=fun r=>(.ret,⟨[(4,.d (.int .i64 r.1))],[x0,x1]++[some [.d (.int .i64 r.2.1),.d (.int .i64 r.2.2)]]⟩))
  (fun _=>⟨by simp,by simp[qCT,qEr]⟩)
  (fun _ i hi=>by
   have hw:=qax (n:=i) (by omega);have hi':(i:Int)<3:=by omega
   have hb:=qyY a b c d e f i hi;unfold qnQ;generalize qfd a b c d e f i=q at hb;obtain⟨x,y⟩:=q;simp only at hb⊢
   by_cases h1:x<y
   ·rw[if_pos h1]
    refine⟨by simp,?_⟩;simp[qCT,qEr,qHb,qHa,qG9,hi',hb,cut,h1,qad,splice,qae,qan,qaI]
   ·rw[if_neg h1]
    by_cases h2:x>y
    ·rw[if_pos h2]
     refine⟨by simp,?_⟩;simp[qCT,qEr,qHb,qHa,qG9,qIx,qIw,hi',hb,cut,h1,h2,qad,splice,qae,qan,qaI]
    ·rw[if_neg h2]
     refine⟨_,by simp[qCT,qEr,qHb,qHa,qG9,qIx,qIw,qKJ,hi',hb,cut,h1,h2,hw,qad,splice,qae,qan,qaI];rfl,?_⟩;simp[qai,qab])
  3 () 0 ⟨[(2,.ptr 0 0),(3,.ptr 1 0),(26,.d (.sl .sub (qCK a b c d e f))),(27,.d (.int .i64 3)),(28,.d (.int .i64 0))],[x0,x1]⟩ (by omega) (by simp[qai,qab])
 rw[key];cases runN (qnQ a b c d e f) 3 () 0<;>rfl
theorem qr7(f v:Int)(ks:List T)(f' v':Int)(ks':List T)(hl:ks.length<=1099511627776)(hlen:ks.length=ks'.length)
 (hrec:∀s s',s∈ks->s'∈ks'->qac XV 6 [.d (s.enc .sub),.d (s'.enc .sub)] []=some (.d (.int .i64 (T.cmp s s')),[])):
 qdM XV [] 2 [2,3,47,48] qDn ⟨[(2,.ptr 0 0),(3,.ptr 1 0),(47,.d (.int .i64 ks.length)),(48,.d (.int .i64 0))],qgH f v ks f' v' ks'⟩=
  some (if T.cmps ks ks'=0 then(.exit 3,⟨[(2,.ptr 0 0),(3,.ptr 1 0),(47,.d (.int .i64 ks.length)),(48,.d (.int .i64 ks.length)),(49,.d (.bool false))],qgH f v ks f' v' ks'⟩)else(.ret,⟨[(4,.d (.int .i64 (T.cmps ks ks')))],qgH f v ks f' v' ks'⟩)):=by
 have h:=qaA (X:=XV) (T:=[]) (L:=2) (live:=[2,3,47,48]) (b:=qDn) (n:=ks.length) (γ:=Int) (st:=fun(_:Unit) i=>⟨[(2,.ptr 0 0),(3,.ptr 1 0),(47,.d (.int .i64 ks.length)),(48,.d (.int .i64 i))],qgH f v ks f' v' ks'⟩) (step:=qmg ks ks')
  (F:=fun _=>(.exit 3,⟨[(2,.ptr 0 0),(3,.ptr 1 0),(47,.d (.int .i64 ks.length)),(48,.d (.int .i64 ks.length)),(49,.d (.bool false))],qgH f v ks f' v' ks'⟩)) (R:=fun r=>(.ret,⟨[(4,.d (.int .i64 r))],qgH f v ks f' v' ks'⟩))
  (fun _=>⟨by simp,by simp[qDn,qyp]⟩)
  (fun _ i hi=>by
   have hw:=qax (n:=i) (by omega);have hi2:i<ks'.length:=by omega
   have hc:=hrec _ _ (qaT hi) (qaT hi2);unfold qmg qgH
   by_cases h0:T.cmp (tAt ks i) (tAt ks' i)=0
   ·rw[h0]at hc⊢
    simp only[ne_eq,not_true_eq_false,if_false];refine⟨_,by simp[qDn,qyp,qBI,qGH,qBG,qBF,qBE,hi,hi2,hw,cut,qaF hi,qaF hi2,hc,qae];rfl,?_⟩;simp[qai,qab]
   ·simp only[ne_eq,h0,not_false_eq_true,if_true]
    have h0':(T.cmp (tAt ks i) (tAt ks' i) !=0)=true:=by simp[h0]
    refine⟨by simp,?_⟩;simp[qDn,qyp,qBI,qGH,qBG,qBF,qBE,hi,hi2,hw,cut,qaF hi,qaF hi2,hc,qae,h0'])
  ks.length () 0 ⟨[(2,.ptr 0 0),(3,.ptr 1 0),(47,.d (.int .i64 ks.length)),(48,.d (.int .i64 0))],qgH f v ks f' v' ks'⟩ (by omega) (by simp[qai,qab,qgH])
 rw[qG7 ks ks' hlen _ _ (by omega)]at h;simp only[List.drop_zero]at h;rw[h]
 by_cases h0:T.cmps ks ks'=0<;>simp[h0]
def qoI(a b c d e f:Int)(r:Int):Int:=if a<b then-1 else if a>b then 1 else if c<d then-1 else if c>d then 1 else if e<f then-1 else if e>f then 1 else r
theorem qLG(a b c d e f:Int):(runN (qnQ a b c d e f) 3 () 0= .inl ()/\a=b/\c=d/\e=f)\/∃r,runN (qnQ a b c d e f) 3 () 0= .inr r/\∀z,qoI a b c d e f z=r.1:=by
 simp only[runN,qnQ,qfd,qoI]
 by_cases c1:a<b
 ·right;refine⟨_,by simp[c1];rfl,fun z=> ?_⟩;simp[c1]
 by_cases c2:a>b
 ·right;refine⟨_,by simp[c1,c2];rfl,fun z=> ?_⟩;simp[c1,c2]
 by_cases c3:c<d
 ·right;refine⟨_,by simp[c1,c2,c3];rfl,fun z=> ?_⟩;simp[c1,c2,c3]
 by_cases c4:c>d
 ·right;refine⟨_,by simp[c1,c2,c3,c4];rfl,fun z=> ?_⟩;simp[c1,c2,c3,c4]
 by_cases c5:e<f
 ·right;refine⟨_,by simp[c1,c2,c3,c4,c5];rfl,fun z=> ?_⟩;simp[c1,c2,c3,c4,c5]
 by_cases c6:e>f
 ·right;refine⟨_,by simp[c1,c2,c3,c4,c5,c6];rfl,fun z=> ?_⟩;simp[c1,c2,c3,c4,c5,c6]
 left;exact⟨by simp[c1,c2,c3,c4,c5,c6],by omega,by omega,by omega⟩
theorem qlQ(f v:Int)(ks:List T)(f' v':Int)(ks':List T):T.cmp (.node f v ks) (.node f' v' ks')=qoI f f' v v' ks.length ks'.length (T.cmps ks ks'):=by
 simp only[T.cmp,qoI,Int.ofNat_lt,gt_iff_lt]
theorem qr6(f v:Int)(ks:List T)(f' v':Int)(ks':List T)(hl:ks.length<=1099511627776)(hl':ks'.length<=1099511627776)
 (hrec:∀s s',s∈ks->s'∈ks'->qac XV 6 [.d (s.enc .sub),.d (s'.enc .sub)] []=some (.d (.int .i64 (T.cmp s s')),[])):
 qac XV 6 [.d ((T.node f v ks).enc .sub),.d ((T.node f' v' ks').enc .sub)] []=some (.d (.int .i64 (T.cmp (.node f v ks) (.node f' v' ks'))),[]):=by
 rw[qar XV _ _ _ v6 rfl qAX rfl];have h1:=qr8 f f' v v' ks.length ks'.length (qgH f v ks f' v' ks') rfl;simp[v6,qKL,qKK,qad,qal,qan,qaI,splice,qae,qaK,List.replicate];simp only[qCK,qgH]at h1;rw[h1,qlQ];rcases qLG f f' v v' ks.length ks'.length with⟨h3,e1,e2,e3⟩|⟨r,h3,h4⟩
 ·rw[h3]
  have hlen:ks.length=ks'.length:=by omega
  have h2:=qr7 f v ks f' v' ks' hl hlen hrec;simp only[qgH]at h2;subst e1;subst e2
  simp[qKI,qae];rw[h2];have h5:qoI f f v v ks.length ks'.length (T.cmps ks ks')=T.cmps ks ks':=by simp[qoI,hlen]
  rw[h5]
  by_cases c7:T.cmps ks ks'=0
  ·simp[c7,qEs]
  ·simp[c7]
 ·rw[h3,h4];simp
theorem qhg(a b:T)(ha:a.inner<=1099511627776)(hb:b.inner<=1099511627776):qac XV 6 [.d (a.enc .sub),.d (b.enc .sub)] []=some (.d (.int .i64 (T.cmp a b)),[]):=by
 match a,b,ha,hb with
 | .node f v ks,.node f' v' ks',ha,hb=>
  simp only[T.inner]at ha hb;exact qr6 f v ks f' v' ks' (by omega) (by omega) (fun s s' hs hs'=>qhg s s' (by have:=T.qaD hs;omega) (by have:=T.qaD hs';omega))
termination_by a
decreasing_by
 simp_wf
 have:=List.sizeOf_lt_of_mem hs;omega
end Go.Proofs.Ytfiakfiocdfpbaa.VS
namespace Go.Proofs.Ytfiakfiocdfpbaa.VS
theorem cmp_zero(f v:Int)(ks:List T)(f' v':Int)(ks':List T):T.cmp (.node f v ks) (.node f' v' ks')=0↔f=f'/\v=v'/\ks.length=ks'.length/\T.cmps ks ks'=0:=by
 rw[qlQ];unfold qoI
 constructor
 ·intro h
  iterate 6 (split at h;·omega)
  exact⟨by omega,by omega,by omega,h⟩
 ·rintro⟨rfl,rfl,h,h'⟩
  simp[h,h']
theorem qnW(f v:Int)(ks:List T)(f' v':Int)(ks':List T)(hl:ks.length<=1099511627776)(hl':ks'.length<=1099511627776)
 (hrec:∀s s',s∈ks->s'∈ks'->qac XV 3 [.d (s.enc .sub),.d (s'.enc .sub)] []=some (.d (.bool (T.cmp s s'==0)),[])):
 qac XV 3 [.d ((T.node f v ks).enc .sub),.d ((T.node f' v' ks').enc .sub)] []=some (.d (.bool (T.cmp (.node f v ks) (.node f' v' ks')==0)),[]):=by
 rw[qar XV _ _ _ v3 rfl qAZ rfl];have hz:=cmp_zero f v ks f' v' ks';have ne:¬(f=f'/\v=v'/\ks.length=ks'.length/\T.cmps ks ks'=0)->(T.cmp (.node f v ks) (.node f' v' ks')==0)=false:=fun h=>by
  rw[<-hz]at h;simpa using h
 have hlc:(ks.length:Int)=ks'.length↔ks.length=ks'.length:=by omega
 by_cases c1:f=f'
 case neg=>
  rw[ne (fun h=>c1 h.1)];have b1:(f !=f')=true:=by simp[c1]
  simp[v3,qEQ,qEP,qEO,b1]
 by_cases c2:v=v'
 case neg=>
  rw[ne (fun h=>c2 h.2.1)];have b2:(v !=v')=true:=by simp[c2]
  simp[v3,qEQ,qEP,qEO,c1,b2]
 by_cases c3:ks.length=ks'.length
 case neg=>
  rw[ne (fun h=>c3 h.2.2.1)];have b3:((ks.length:Int) !=ks'.length)=true:=by simp;omega
  simp[v3,qEQ,qEP,qEO,c1,c2,b3]
 have h:=qaA (X:=XV) (T:=[]) (L:=2) (live:=[2,3,5]) (b:=qGT) (n:=ks.length) (γ:=Int) (st:=fun(_:Unit) i=>⟨[(2,.ptr 0 0),(3,.ptr 1 0),(5,.d (.int .i64 i))],qgH f v ks f' v' ks'⟩) (step:=qmg ks ks')
  (F:=fun _=>(.exit 0,⟨[(2,.ptr 0 0),(3,.ptr 1 0),(5,.d (.int .i64 ks.length)),(31,.d (.bool false))],qgH f v ks f' v' ks'⟩)) (R:=fun r=>(.ret,⟨[(4,.d (.bool false))],qgH f v ks f' v' ks'⟩))
  (fun _=>⟨by simp,by simp[qGT,qHc,qgH]⟩)
  (fun _ i hi=>by
   have hw:=qax (n:=i) (by omega);have hi2:i<ks'.length:=by omega
   have hc:=hrec _ _ (qaT hi) (qaT hi2);unfold qmg qgH
   by_cases h0:T.cmp (tAt ks i) (tAt ks' i)=0
   ·rw[h0]at hc⊢
    simp only[ne_eq,not_true_eq_false,if_false];refine⟨_,by simp[qGT,qHc,qIB,qLo,qIz,hi,hi2,hw,cut,qaF hi,qaF hi2,hc];rfl,?_⟩;simp[qai,qab]
   ·simp only[ne_eq,h0,not_false_eq_true,if_true]
    have h0':(T.cmp (tAt ks i) (tAt ks' i)==0)=false:=by simp[h0]
    rw[h0']at hc;refine⟨by simp,?_⟩;simp[qGT,qHc,qIB,qLo,qIz,hi,hi2,hw,cut,qaF hi,qaF hi2,hc])
  ks.length () 0 ⟨[(2,.ptr 0 0),(3,.ptr 1 0),(5,.d (.int .i64 0))],qgH f v ks f' v' ks'⟩ (by omega) (by simp[qai,qab,qgH])
 rw[qG7 ks ks' c3 _ _ (by omega)]at h;simp only[List.drop_zero,qgH]at h;simp[v3,qEQ,qEP,qEO,qKO,c1,c2,hlc,c3];subst c1;subst c2
 rw[c3]at h;rw[h]
 by_cases h0:T.cmps ks ks'=0
 ·have:T.cmp (.node f v ks) (.node f v ks')=0:=hz.2 ⟨rfl,rfl,c3,h0⟩
  simp[h0,qIy,this]
 ·have:¬T.cmp (.node f v ks) (.node f v ks')=0:=fun h=>h0 (hz.1 h).2.2.2
  simp[h0,qIy,this]
theorem qit(a b:T)(ha:a.inner<=1099511627776)(hb:b.inner<=1099511627776):qac XV 3 [.d (a.enc .sub),.d (b.enc .sub)] []=some (.d (.bool (T.cmp a b==0)),[]):=by
 match a,b,ha,hb with
 | .node f v ks,.node f' v' ks',ha,hb=>
  simp only[T.inner]at ha hb;exact qnW f v ks f' v' ks' (by omega) (by omega) (fun s s' hs hs'=>qit s s' (by have:=T.qaD hs;omega) (by have:=T.qaD hs';omega))
termination_by a
decreasing_by
 simp_wf
 have:=List.sizeOf_lt_of_mem hs;omega
theorem same_eq(a b:T)(ha:a.inner<=1099511627776)(hb:b.inner<=1099511627776):qac XV 4 [.d (a.enc .sub),.d (b.enc .sub)] []=some (.d (.bool (T.cmp a b==0)),[]):=by
 rw[qar XV _ _ _ v4 rfl qAY rfl];have h:=qhg a b ha hb;simp[v4,qKN,qKM,h]
end Go.Proofs.Ytfiakfiocdfpbaa.VS
namespace Go.Proofs.Ytfiakfiocdfpbaa.VS
theorem qzo(k i:Nat):runN (fun(_:Unit) (_:Nat)=>(Sum.inl ():Unit⊕Unit)) k () i= .inl ():=by
 induction k generalizing i with
 |zero=>rfl
 |succ k ih=>simp[runN,ih]
@[simp] theorem qF6(cs:List DV):isAgg (.agg cs)=true:=rfl
@[simp] theorem qF5(k:IntKind)(n:Int):isAgg (.int k n)=false:=rfl
@[simp] theorem qKy(s:SymL):s.enc.cn=s.enc:=by simp[SymL.enc,SymL.cells]
@[simp] theorem qF4(s:SymL):isAgg s.enc=true:=rfl
@[simp] theorem qHP(s:SymL):s.enc.clr=s.enc:=by simp[SymL.enc,SymL.cells]
@[simp] theorem qDm(s:SymL):s.enc.cells=[.str s.name,.int .i64 s.arity,.bool s.ac]:=rfl
@[simp] theorem qCQ(s:SymL):(AV.d s.enc).cells=[.d (.str s.name),.d (.int .i64 s.arity),.d (.bool s.ac)]:=rfl
@[simp] theorem qCj(s:SymL):s.enc.isCell=false:=rfl
@[simp] theorem qHS(n:ByteArray)(a:Int)(b:Bool):DV.agg [.str n,.int .i64 a,.bool b]=SymL.enc ⟨n,a,b⟩:=rfl
@[simp high] theorem qjA(l:List SymL):(l.map SymL.enc).map DV.clr=l.map SymL.enc:=by simp[List.map_map,Function.comp_def]
def qaz(l:List SymL)(i:Nat):SymL:=(l[i]?).getD ⟨⟨#[]⟩,0,false⟩
theorem qau{l:List SymL}{i:Nat}(h:i<l.length):l[i]=qaz l i:=by simp[qaz,h]
theorem qme{l:List SymL}{i:Nat}(h:i<l.length):qaz l i∈l:=by rw[<-qau h];exact List.getElem_mem h
abbrev sg(l:List SymL):DV:= .sl .sub (l.map SymL.enc)
@[simp] theorem qGz(a b:ByteArray):qeI .eql (.str a) (.str b)=some (.bool (qe6 a b)):=rfl
@[simp] theorem qGy(a b:ByteArray):qeI .neq (.str a) (.str b)=some (.bool !(qe6 a b)):=rfl
def inB(x lo hi:Int):Bool:=decide (lo<=x)&&decide (x<=hi)
theorem qjo(x lo hi:Int):qac XV 30 [.d (.int .i64 x),.d (.int .i64 lo),.d (.int .i64 hi)] []=some (.d (.bool (inB x lo hi)),[]):=by
 rw[qar XV _ _ _ v30 rfl qxz rfl];unfold inB
 by_cases h:lo<=x
 ·have h':x>=lo:=h
  simp[v30,qBS,qBR,h]
 ·have h':¬x>=lo:=h
  simp[v30,qBS,qBR,h]
theorem qg5(x lo hi:Int):qac XV 31 [.d (.int .i64 x),.d (.int .i64 lo),.d (.int .i64 hi)] []=some (.d (.bool (inB x lo hi)),[]):=by
 rw[qar XV _ _ _ v31 rfl qxy rfl];unfold inB
 by_cases h:lo<=x
 ·simp[v31,qBQ,qBP,h]
 ·simp[v31,qBQ,qBP,h]
def qek(l:List SymL)(f:Int):Bool:=inB f 0 (l.length-1)
theorem qeR{l:List SymL}{f:Int}(h:qek l f=true):0<=f/\f.toNat<l.length:=by
 simp[qek,inB]at h;omega
theorem qpV(l:List SymL)(hl:l.length<=1099511627776)(f:Int):qac XV 29 [.d (sg l),.d (.int .i64 f)] []=some (.d (.bool (qek l f)),[]):=by
 rw[qar XV _ _ _ v29 rfl qxA rfl];have hw:IntKind.i64.wrap ((l.length:Int)-1)=l.length-1:=wrap_i64 (by omega) (by omega);have h:=qjo f 0 (l.length-1);simp[v29,qES,qER,hw,h,qek]
def qcT(l:List SymL)(f:Int):Bool:=qek l f&&(qaz l f.toNat).ac
theorem qmV(l:List SymL)(hl:l.length<=1099511627776)(f:Int):qac XV 34 [.d (sg l),.d (.int .i64 f)] []=some (.d (.bool (qcT l f)),[]):=by
 rw[qar XV _ _ _ v34 rfl qxw rfl];have h:=qpV l hl f;unfold qcT;cases hs:qek l f with
 |false=>
  rw[hs]at h;simp[v34,qBM,qBL,h]
 |true=>
  rw[hs]at h;obtain⟨h1,h2⟩:=qeR hs;simp[v34,qBM,qBL,h,h1,h2,qau h2,cut]
theorem qhu(l:List SymL)(hl:l.length<=1099511627776)(f:Int):qac XV 33 [.d (sg l),.d (.int .i64 f)] []=some (.d (.bool (qcT l f)),[]):=by
 rw[qar XV _ _ _ v33 rfl qxx rfl];have hw:IntKind.i64.wrap ((l.length:Int)-1)=l.length-1:=wrap_i64 (by omega) (by omega);have h:=qg5 f 0 (l.length-1);unfold qcT qek;cases hs:inB f 0 (l.length-1)with
 |false=>
  rw[hs]at h;simp[v33,qBO,qBN,h,hw]
 |true=>
  rw[hs]at h;obtain⟨h1,h2⟩:=qeR (l:=l) (f:=f) hs;simp[v33,qBO,qBN,h,hw,h1,h2,qau h2,cut]
end Go.Proofs.Ytfiakfiocdfpbaa.VS
namespace Go.Proofs.Ytfiakfiocdfpbaa.VS
def qqv(x:Int):Int:=IntKind.i64.wrap ((BitVec.ofInt 64 x&&&BitVec.ofInt 64 255).toNat:Int)
def qLv(x y:Int):Int:=IntKind.i64.wrap ((BitVec.ofInt 64 x^^^BitVec.ofInt 64 y).toNat:Int)
theorem qhQ(x:Int):qdl .and .i64 x 255=some (.int .i64 (qqv x)):=rfl
theorem qm8(x y:Int):qdl .xor .i64 x y=some (.int .i64 (qLv x y)):=rfl
theorem qju(x:Int):qdl .shr .i64 x 33=some (.int .i64 (x.fdiv 8589934592)):=rfl
theorem qjt(x:Int):qdl .shr .i64 x 45=some (.int .i64 (x.fdiv 35184372088832)):=rfl
theorem qnr(x:Int):0<=qqv x/\qqv x<=255:=by
 have h:(BitVec.ofInt 64 x&&&BitVec.ofInt 64 255).toNat<=255:=by
  rw[BitVec.toNat_and];exact Nat.le_trans Nat.and_le_right (by decide)
 unfold qqv;generalize (BitVec.ofInt 64 x&&&BitVec.ofInt 64 255).toNat=n at*
 rw[wrap_i64 (by omega) (by omega)];omega
def qbi(bs:List Int)(pos st:Int):List AV:=[.d (.sl .sub (bs.map (.int .u8))),.d (.int .i64 pos),.d (.int .i64 st)]
theorem qqm{B:qaj}{i:Nat}{c:List AV}(h:i<B.length):qaV (B.set i (some c)) i=some c:=by simp[qaV,h]
theorem qwx{B:qaj}{i:Nat}{c:List AV}(h:qaV B i=some c):i<B.length:=by
 rcases Nat.lt_or_ge i B.length with h1|h1
 ·exact h1
 ·simp[qaV,List.getElem?_eq_none h1]at h
theorem qc8{B:qaj}{i:Nat}{c:List AV}(h:qaV B i=some c):B[i]?=some (some c):=by
 unfold qaV at h;split at h
 ·rename_i c' hc;rw[hc];simpa using h
 ·simp at h
theorem qvc(bs:List Int)(hl:bs.length<=1099511627776)(B:qaj)(i:Nat)(pos st:Int)(hB:qaV B i=some (qbi bs pos st))(hp:0<=pos/\pos<=bs.length):
 ∃b pos' st':Int,(0<=b/\b<=255)/\(0<=pos'/\pos'<=bs.length)/\qac XV 165 [.ptr i 0] B=some (.d (.int .i64 b),B.set i (some (qbi bs pos' st'))):=by
 have hi:=qwx hB;have hnl:¬B.length<=i:=by omega
 have htake:∀c:Option (List AV),List.take B.length (B.set i c)=B.set i c:=fun c=>List.take_of_length_le (by simp)
 have hset:∀c:Option (List AV),(B.set i c)[i]?=some c:=fun c=>by simp[hi]
 rw[qar XV _ _ _ qBj rfl qs5 rfl];have hB:=qc8 hB;unfold qbi at hB⊢
 by_cases c:pos<bs.length
 ·have hw:IntKind.i64.wrap (pos+1)=pos+1:=wrap_i64 (by omega) (by omega)
  have hlt:pos.toNat<bs.length:=by omega
  refine⟨_,_,_,?_,?_,by simp[qBj,quC,quB,qAu,qAt,qAs,qux,quw,qae,hB,hset,splice,qhQ,qm8,qju,qjt,qm9,hnl,c,hp,hlt,hw,cut,qad,qal,qan,qaI,qbh,htake];exact⟨rfl,rfl⟩⟩
  ·exact qnr _
  ·exact⟨by omega,by omega⟩
 ·refine⟨_,_,_,?_,?_,by simp[qBj,quC,quB,qAu,qAt,qAs,qux,quw,qae,hB,hset,splice,qhQ,qm8,qju,qjt,qm9,hnl,c,cut,qad,qal,qan,qaI,qbh,htake];exact⟨rfl,rfl⟩⟩
  ·exact qnr _
  ·exact hp
def qcd(bs:List Int)(i:Nat)(B B':qaj):Prop:=∃pos st:Int,(0<=pos/\pos<=bs.length)/\B'=B.set i (some (qbi bs pos st))
def qcE(bs:List Int)(i:Nat)(B:qaj):Prop:=∃pos st:Int,(0<=pos/\pos<=bs.length)/\qaV B i=some (qbi bs pos st)
theorem qcd.at{bs:List Int}{i:Nat}{B B':qaj}(hi:i<B.length)(h:qcd bs i B B'):qcE bs i B':=by
 obtain⟨pos,st,hp,rfl⟩:=h;exact⟨pos,st,hp,qqm hi⟩
theorem qcd.len{bs:List Int}{i:Nat}{B B':qaj}(h:qcd bs i B B'):B'.length=B.length:=by
 obtain⟨pos,st,hp,rfl⟩:=h;simp
theorem qcd.trans{bs:List Int}{i:Nat}{B B' B'':qaj}(h:qcd bs i B B')(h':qcd bs i B' B''):qcd bs i B B'':=by
 obtain⟨pos,st,hp,rfl⟩:=h;obtain⟨pos',st',hp',rfl⟩:=h';exact⟨pos',st',hp',by simp⟩
theorem qcE.lt{bs:List Int}{i:Nat}{B:qaj}(h:qcE bs i B):i<B.length:=by
 obtain⟨_,_,_,h⟩:=h;exact qwx h
theorem qvd(bs:List Int)(hl:bs.length<=1099511627776)(B:qaj)(i:Nat)(h:qcE bs i B):∃(b:Int) (B':qaj),(0<=b/\b<=255)/\qcd bs i B B'/\qac XV 165 [.ptr i 0] B=some (.d (.int .i64 b),B'):=by
 obtain⟨pos,st,hp,hB⟩:=h;obtain⟨b,pos',st',h1,h2,h3⟩:=qvc bs hl B i pos st hB hp;exact⟨b,_,h1,⟨pos',st',h2,rfl⟩,h3⟩
theorem qrU(x n:Int)(h:n≠0):qdl .rem .i64 x n=some (.int .i64 (x.tmod n)):=by simp[qdl,h]
theorem qcp(bs:List Int)(hl:bs.length<=1099511627776)(B:qaj)(i:Nat)(h:qcE bs i B)(n:Int)(hn:0<n)(hn2:n<=256):∃(r:Int) (B':qaj),(0<=r/\r<n)/\qcd bs i B B'/\qac XV 159 [.ptr i 0,.d (.int .i64 n)] B=some (.d (.int .i64 r),B'):=by
 obtain⟨b,B',hb,hT,hc⟩:=qvd bs hl B i h;have hi:=h.lt;have hlen:=hT.len;have hm:b.tmod n=b%n:=Int.tmod_eq_emod_of_nonneg hb.1;have hr:=qrU b n (by omega);have htake:List.take B.length B'=B':=List.take_of_length_le (by omega);refine⟨b%n,B',⟨Int.emod_nonneg _ (by omega),Int.emod_lt_of_pos _ hn⟩,hT,?_⟩;rw[qar XV _ _ _ qC7 rfl qtb rfl];have c1:¬n<=0:=by omega
 simp[qC7,qzK,qzJ,qzI,qzH,qzG,qzF,qzE,qzD,qzC,qzB,c1,hn2,hc,hr,hm,htake,hi]
theorem qeB(bs:List Int)(hl:bs.length<=1099511627776)(B:qaj)(i:Nat)(h:qcE bs i B)(l:List Int)(h0:0<l.length)(h1:l.length<=256):∃(j:Nat) (hj:j<l.length) (B':qaj),qcd bs i B B'/\qac XV 160 [.ptr i 0,.d (.sl .sub (l.map (.int .i64)))] B=some (.d (.int .i64 l[j]),B'):=by
 obtain⟨r,B',hr,hT,hc⟩:=qcp bs hl B i h l.length (by omega) (by omega);have hi:=h.lt;have hlen:=hT.len;have htake:List.take B.length B'=B':=List.take_of_length_le (by omega);refine⟨r.toNat,by omega,B',hT,?_⟩;rw[qar XV _ _ _ qC6 rfl qta rfl];have hlt:r.toNat<l.length:=by omega
 simp[qC6,qzA,qzz,hc,hr,hlt,htake,hi,cut]
def qHR(x:Int):Int:=IntKind.i64.wrap ((BitVec.ofInt 64 x&&&BitVec.ofInt 64 1073741823).toNat:Int)
theorem qrV(x:Int):qdl .and .i64 x 1073741823=some (.int .i64 (qHR x)):=rfl
def qzn(bs:List Int)(s:Int)(i:Nat):Int⊕Unit:= .inl (qHR (IntKind.i64.wrap (IntKind.i64.wrap (IntKind.i64.wrap (s*131)+IntKind.i64.wrap ((bs[i]?).getD 0))+7)))
theorem qo0{β:Type}(f:β->Nat->β):∀(k:Nat) (a:β) (i:Nat),∃b,runN (fun a i=>(.inl (f a i):β⊕Unit)) k a i= .inl b
 |0,a,i=>⟨a,rfl⟩
 |k+1,a,i=>by simp only[runN];exact qo0 f k _ _
theorem qyD(bs:List Int)(hl:bs.length<=1099511627776)(B:qaj):∃st:Int,qac XV 156 [.d (.sl .sub (bs.map (.int .u8)))] B=some (.ptr B.length 0,B++[some (qbi bs 0 st)]):=by
 have hn:min bs.length 4000<=bs.length:=Nat.min_le_left _ _;have h:=qaA (X:=XV) (T:=XV.lin 156) (L:=B.length) (live:=[0,3,4]) (b:=qnp) (n:=min bs.length 4000) (γ:=Unit) (st:=fun(s:Int) i=>⟨[(0,.d (.sl .sub (bs.map (.int .u8)))),(3,.d (.int .i64 s)),(4,.d (.int .i64 i))],B⟩) (step:=qzn bs)
  (F:=fun s=>(.exit 0,⟨[(0,.d (.sl .sub (bs.map (.int .u8)))),(3,.d (.int .i64 s)),(4,.d (.int .i64 (min bs.length 4000:Nat))),(15,.d (.bool false))],B⟩)) (R:=fun _=>(.ret,⟨[],B⟩))
  (fun s=>⟨by simp,by
   by_cases c:bs.length<=4000
   ·rw[Nat.min_eq_left c];simp[qnp,qmw,qmv,qmu,qpA,qpy,qpz,qmt]
   ·have c1:(4000:Int)<bs.length:=by omega
    rw[Nat.min_eq_right (by omega)];simp[qnp,qmw,qmv,qmu,qpA,qpy,qpz,qmt,c1,show¬bs.length<=4000 from c]⟩)
  (fun s i hi=>by
   have hw:=qax (n:=i) (by omega);have h1:i<bs.length:=by omega
   have h2:(i:Int)<4000:=by omega
   refine⟨_,by simp[qnp,qmw,qmv,qmu,qpA,qpy,qpz,qmt,h1,h2,hw,cut,qrV];rfl,by simp[qai,qab,h1]⟩)
  (min bs.length 4000) (IntKind.i64.wrap (27064+bs.length)) 0 ⟨[(0,.d (.sl .sub (bs.map (.int .u8)))),(3,.d (.int .i64 (IntKind.i64.wrap (27064+bs.length)))),(4,.d (.int .i64 0))],B⟩ (by omega) (by simp[qai,qab])
 obtain⟨st,hst⟩:=qo0 (fun(s:Int) (i:Nat)=>qHR (IntKind.i64.wrap (IntKind.i64.wrap (IntKind.i64.wrap (s*131)+IntKind.i64.wrap ((bs[i]?).getD 0))+7))) (min bs.length 4000) (IntKind.i64.wrap (27064+bs.length)) 0;rw[show qzn bs=fun s i=>(.inl (qHR (IntKind.i64.wrap (IntKind.i64.wrap (IntKind.i64.wrap (s*131)+IntKind.i64.wrap ((bs[i]?).getD 0))+7))):Int⊕Unit)from rfl,hst]at h;refine⟨st,?_⟩;rw[qar XV _ _ _ qC8 rfl qtc rfl];simp[qC8,qmw,qmv,qmu];simp only[qCa]at h;rw[h];simp[qmt,qbi,qad,qal,qan,qaI,splice,qae]
end Go.Proofs.Ytfiakfiocdfpbaa.VS
namespace Go.Proofs.Ytfiakfiocdfpbaa.VS
mutual
def T.fold{σ:Type}(e:T->σ->σ):T->σ->σ
 | .node f v ks,s=>T.folds e ks (e (.node f v ks) s)
def T.folds{σ:Type}(e:T->σ->σ):List T->σ->σ
 | [],s=>s
 |t::r,s=>T.folds e r (T.fold e t s)
end
theorem qoY{α:Type}(B:List α)(x v:α)(r:List α):(B++x::r).set B.length v=B++v::r:=by simp
theorem get_at{α:Type}(B:List α)(x:α)(r:List α):(B++x::r)[B.length]?=some x:=by simp
theorem qtT{α:Type}(B:List α)(x y v:α)(r:List α):(B++x::y::r).set (B.length+1) v=B++x::v::r:=by
 rw[List.set_append_right _ _ (by omega),show B.length+1-B.length=1 by omega];rfl
theorem qvp{α:Type}(B:List α)(x y:α)(r:List α):(B++x::y::r)[B.length+1]?=some y:=by
 rw[List.getElem?_append_right (by omega),show B.length+1-B.length=1 by omega];rfl
theorem take_at{α:Type}(B r:List α):(B++r).take B.length=B:=by simp
theorem qdu{L:Nat}{live:List Nat}{s:XS}{r':List (Nat×AV)}{B e:qaj}(h:keep s.r live=r')(hs:qab L r'=true)(hl:B.length=L)(he:s.B=B++e):qai L live s=some ⟨r',B⟩:=by
 unfold qai;rw[h,he,if_pos ⟨hs,by simp;omega⟩,<-hl,take_at]
def qkX{σ:Type}(e:T->σ->σ)(l:List T)(s:σ)(i:Nat):σ⊕Unit:= .inl (T.fold e (tAt l i) s)
theorem qG6{σ:Type}(e:T->σ->σ)(l:List T):∀(k i:Nat) (s:σ),i+k=l.length->runN (qkX e l) k s i= .inl (T.folds e (l.drop i) s)
 |0,i,s,h=>by
  have h1:l.drop i=[]:=List.drop_eq_nil_of_le (by omega);simp[runN,h1,T.folds]
 |k+1,i,s,h=>by
  have hlt:i<l.length:=by omega
  rw[List.drop_eq_getElem_cons hlt,qaF hlt];simp only[runN,qkX,T.folds];exact qG6 e l k (i+1) _ (by omega)
theorem qCv{σ:Type}(st:σ->qaj)(e:T->σ->σ)(k:Nat)(caps:List AV)(m:Nat)(hm:∀s,(st s).length=m)(hcs:∀n,m<=n->AV.safe.safes n caps=true)(hcc:caps.map AV.clr=caps)(hk:¬0∈XV.lin k)
 (f v:Int) (ks:List T) (hl:ks.length<=1099511627776)
 (hf:∀(x:T) (s:σ) (r:qaj),qac XV k (.d (x.enc .sub)::caps) (st s++r)=some (.d (.tup []),st (e x s)++r))
 (hrec:∀x,x∈ks->∀(s:σ) (r:qaj),qac XV 25 [.d (x.enc .sub),.fn k caps] (st s++r)=some (.d (.tup []),st (T.fold e x s)++r)) (s:σ) (r:qaj):
 qac XV 25 [.d ((T.node f v ks).enc .sub),.fn k caps] (st s++r)=some (.d (.tup []),st (T.fold e (.node f v ks) s)++r):=by
 rw[qar XV _ _ _ v25 rfl qoS rfl];have hf1:=hf (.node f v ks) s (r++[some [.d (.int .i64 f),.d (.int .i64 v),.d (qak .sub ks)]]);have len:∀s,(st s++r).length=m+r.length:=fun s=>by simp[hm]
 have hloop:=qaA (X:=XV) (T:=XV.lin 25) (L:=m+r.length+1) (live:=[1,10,11,12]) (b:=qoL) (n:=ks.length) (γ:=Unit) (st:=fun(s:σ) i=>⟨[(1,.fn k caps),(10,.d (qak .sub ks)),(11,.d (.int .i64 ks.length)),(12,.d (.int .i64 i))],(st s++r)++[some [.d (.int .i64 f),.d (.int .i64 v),.d (qak .sub ks)]]⟩) (step:=qkX e ks)
  (F:=fun s=>(.exit 0,⟨[(1,.fn k caps),(10,.d (qak .sub ks)),(11,.d (.int .i64 ks.length)),(12,.d (.int .i64 ks.length)),(13,.d (.bool false))],(st s++r)++[some [.d (.int .i64 f),.d (.int .i64 v),.d (qak .sub ks)]]⟩)) (R:=fun _=>(.ret,⟨[],[]⟩))
  (fun s=>⟨by simp,by simp[qoL,qun,hcc]⟩)
  (fun s i hi=>by
   have hw:=qax (n:=i) (by omega);have hr:=hrec _ (qaT hi) s (r++[some [.d (.int .i64 f),.d (.int .i64 v),.d (qak .sub ks)],some [.d (.int .i64 (tAt ks i).f),.d (.int .i64 (tAt ks i).v),.d (qak .sub (tAt ks i).kids)]]);have hln:=len s;have hln2:=len (T.fold e (tAt ks i) s);simp only[<-List.append_assoc]at hr;generalize hB:st s++r=B at hr hln;generalize hB':st (T.fold e (tAt ks i) s)++r=B' at hr hln2;unfold qkX;refine⟨⟨[(1,.fn k caps),(10,.d (qak .sub ks)),(11,.d (.int .i64 ks.length)),(12,.d (.int .i64 (i+1:Nat)))],B'++[some [.d (.int .i64 f),.d (.int .i64 v),.d (qak .sub ks)],some [.d (.int .i64 (tAt ks i).f),.d (.int .i64 (tAt ks i).v),.d (qak .sub (tAt ks i).kids)]]⟩,?_,?_⟩
   ·simp[qoL,qun,qBV,qBU,qBT,hi,hw,cut,qaF hi,hcc,hr,qoY,get_at,qtT,qvp,splice]
   ·refine qdu (e:=[some [.d (.int .i64 (tAt ks i).f),.d (.int .i64 (tAt ks i).v),.d (qak .sub (tAt ks i).kids)]]) (by simp) (by simp[qab,hcs _ (show m<=m+r.length+1 by omega)]) (by simp[hln2,hB']) (by simp[<-hB']))
  ks.length (e (.node f v ks) s) 0 ⟨[(1,.fn k caps),(10,.d (qak .sub ks)),(11,.d (.int .i64 ks.length)),(12,.d (.int .i64 0))],(st (e (.node f v ks) s)++r)++[some [.d (.int .i64 f),.d (.int .i64 v),.d (qak .sub ks)]]⟩ (by omega) (qdu (e:=[]) (by simp) (by simp[qab,hcs _ (show m<=m+r.length+1 by omega)]) (by simp[hm];omega) (by simp))
 rw[qG6 e ks _ _ _ (by omega)]at hloop;simp only[List.drop_zero]at hloop;have hl0:=len s;have hl1:=len (e (.node f v ks) s);have hl2:(st (T.fold e (.node f v ks) s)++r).length=m+r.length:=len _;have hfin:T.folds e ks (e (.node f v ks) s)=T.fold e (.node f v ks) s:=by simp[T.fold]
 rw[hfin]at hloop;simp only[<-List.append_assoc]at hf1;generalize hB0:st s++r=B0 at hf1 hl0;generalize hB1:st (e (.node f v ks) s)++r=B1 at hf1 hl1 hloop;generalize hB2:st (T.fold e (.node f v ks) s)++r=B2 at hl2 hloop;have hlen:B1.length=B0.length:=by omega
 rw[<-hl1]at hloop;simp only[qak,qAf]at hf1 hloop;simp[v25,qBY,qBX,qBW,qoY,get_at,hf1,hcc,hk,hlen.symm];rw[hloop];simp[show B1.length=B2.length by omega]
theorem qoA{σ:Type}(st:σ->qaj)(e:T->σ->σ)(k:Nat)(caps:List AV)(m:Nat)(hm:∀s,(st s).length=m)(hcs:∀n,m<=n->AV.safe.safes n caps=true)(hcc:caps.map AV.clr=caps)(hk:¬0∈XV.lin k)
 (hf:∀(x:T) (s:σ) (r:qaj),qac XV k (.d (x.enc .sub)::caps) (st s++r)=some (.d (.tup []),st (e x s)++r)) (t:T) (ht:t.inner<=1099511627776) (s:σ) (r:qaj):
 qac XV 25 [.d (t.enc .sub),.fn k caps] (st s++r)=some (.d (.tup []),st (T.fold e t s)++r):=by
 match t,ht with
 | .node f v ks,ht=>
  simp only[T.inner]at ht;exact qCv st e k caps m hm hcs hcc hk f v ks (by omega) hf (fun x hx s r=>qoA st e k caps m hm hcs hcc hk hf x (by have:=T.qaD hx;omega) s r) s r
termination_by t
decreasing_by
 simp_wf
 have:=List.sizeOf_lt_of_mem hx;omega
end Go.Proofs.Ytfiakfiocdfpbaa.VS
namespace Go.Proofs.Ytfiakfiocdfpbaa.VS
theorem wrap_add(a b:Int):IntKind.i64.wrap (IntKind.i64.wrap a+b)=IntKind.i64.wrap (a+b):=by
 show(if(true&&decide (((if(true&&decide (a%18446744073709551616>=9223372036854775808))=true then a%18446744073709551616-18446744073709551616 else a%18446744073709551616)+b)%18446744073709551616>=9223372036854775808))=true then((if(true&&decide (a%18446744073709551616>=9223372036854775808))=true then a%18446744073709551616-18446744073709551616 else a%18446744073709551616)+b)%18446744073709551616-18446744073709551616 else((if(true&&decide (a%18446744073709551616>=9223372036854775808))=true then a%18446744073709551616-18446744073709551616 else a%18446744073709551616)+b)%18446744073709551616)=(if(true&&decide ((a+b)%18446744073709551616>=9223372036854775808))=true then(a+b)%18446744073709551616-18446744073709551616 else(a+b)%18446744073709551616);simp only[Bool.true_and,decide_eq_true_eq];have:((if a%18446744073709551616>=9223372036854775808 then a%18446744073709551616-18446744073709551616 else a%18446744073709551616)+b)%18446744073709551616=(a+b)%18446744073709551616:=by
  split<;>omega
 rw[this]
theorem qtB(a b:Int):IntKind.i64.wrap (a+IntKind.i64.wrap b)=IntKind.i64.wrap (a+b):=by
 rw[Int.add_comm,wrap_add,Int.add_comm]
mutual
def T.sum(w:T->Int):T->Int
 | .node f v ks=>w (.node f v ks)+T.sums w ks
def T.sums(w:T->Int):List T->Int
 | []=>0
 |t::r=>T.sum w t+T.sums w r
end
def qDo(w:T->Int)(x:T)(n:Int):Int:=IntKind.i64.wrap (n+w x)
mutual
theorem qp0(w:T->Int):∀(t:T) (n:Int),T.fold (qDo w) t (IntKind.i64.wrap n)=IntKind.i64.wrap (n+T.sum w t)
 | .node f v ks,n=>by
  simp only[T.fold,T.sum,qDo];rw[wrap_add,qmY w ks,Int.add_assoc]
theorem qmY(w:T->Int):∀(l:List T) (n:Int),T.folds (qDo w) l (IntKind.i64.wrap n)=IntKind.i64.wrap (n+T.sums w l)
 | [],n=>by simp[T.folds,T.sums]
 |t::r,n=>by
  simp only[T.folds,T.sums];rw[qp0 w t,qmY w r,Int.add_assoc]
end
def qqN(c:T->Int)(l:List T)(n:Int)(i:Nat):Int⊕Unit:= .inl (IntKind.i64.wrap (n+c (tAt l i)))
theorem qEc(w:T->Int)(l:List T):∀(k i:Nat) (n:Int),i+k=l.length->runN (qqN (fun t=>IntKind.i64.wrap (T.sum w t)) l) k (IntKind.i64.wrap n) i= .inl (IntKind.i64.wrap (n+T.sums w (l.drop i)))
 |0,i,n,h=>by
  have h1:l.drop i=[]:=List.drop_eq_nil_of_le (by omega);simp[runN,h1,T.sums]
 |k+1,i,n,h=>by
  have hlt:i<l.length:=by omega
  rw[List.drop_eq_getElem_cons hlt,qaF hlt];simp only[runN,qqN,T.sums];rw[qtB,wrap_add,qEc w l k (i+1) _ (by omega),Int.add_assoc]
theorem qmU(t:T)(ht:t.inner<=1099511627776):qac XV 23 [.d (t.enc .sub)] []=some (.d (.int .i64 (IntKind.i64.wrap (T.sum (fun _=>1) t))),[]):=by
 rw[qar XV _ _ _ v23 rfl qxC rfl];have key:∀(n:Int),qac XV 25 [.d (t.enc .sub),.fn 24 [.ptr 1 0]] ([some [.d (.int .i64 t.f),.d (.int .i64 t.v),.d (qak .sub t.kids)],some [.d (.int .i64 n)]]++[])=some (.d (.tup []),[some [.d (.int .i64 t.f),.d (.int .i64 t.v),.d (qak .sub t.kids)],some [.d (.int .i64 (T.fold (qDo fun _=>1) t n))]]++[]):=fun n=>
  qoA (fun n:Int=>[some [.d (.int .i64 t.f),.d (.int .i64 t.v),.d (qak .sub t.kids)],some [.d (.int .i64 n)]]) (qDo fun _=>1) 24 [.ptr 1 0] 2 (fun _=>rfl) (fun n hn=>by simp;omega) rfl (by simp) (fun x s r=>by
   rw[qar XV _ _ _ v24 rfl qxB rfl];simp[v24,qEU,qET,splice,qDo]) t ht n []
 have k0:=key 0;have h0:=qp0 (fun _=>1) t 0;rw[show IntKind.i64.wrap 0=0 from rfl,Int.zero_add]at h0;rw[h0]at k0;simp only[List.append_nil,qak]at k0;simp[v23,qEY,qEX,qEW,qEV,splice,k0]
theorem qmj(f v:Int)(ks:List T)(hl:ks.length<=1099511627776)(hrec:∀s,s∈ks->qac XV 22 [.d (s.enc .sub)] []=some (.d (.int .i64 (IntKind.i64.wrap (T.sum (fun _=>1) s))),[])):
 qac XV 22 [.d ((T.node f v ks).enc .sub)] []=some (.d (.int .i64 (IntKind.i64.wrap (T.sum (fun _=>1) (.node f v ks)))),[]):=by
 rw[qar XV _ _ _ v22 rfl qxD rfl];have h:=qaA (X:=XV) (T:=[]) (L:=1) (live:=[1,3,4]) (b:=qy9) (n:=ks.length) (γ:=Unit) (st:=fun(n:Int) i=>⟨[(1,.ptr 0 0),(3,.d (.int .i64 n)),(4,.d (.int .i64 i))],[some [.d (.int .i64 f),.d (.int .i64 v),.d (qak .sub ks)]]⟩) (step:=qqN (fun t=>IntKind.i64.wrap (T.sum (fun _=>1) t)) ks)
  (F:=fun n=>(.exit 0,⟨[(1,.ptr 0 0),(3,.d (.int .i64 n)),(4,.d (.int .i64 ks.length)),(9,.d (.bool false))],[some [.d (.int .i64 f),.d (.int .i64 v),.d (qak .sub ks)]]⟩)) (R:=fun r=>(.ret,⟨[],[]⟩))
  (fun _=>⟨by simp,by simp[qy9,qBZ]⟩)
  (fun n i hi=>by
   have hw:=qax (n:=i) (by omega);have hc:=hrec _ (qaT hi);exact⟨_,by simp[qy9,qBZ,qE1,qE0,hi,hw,cut,qaF hi,hc];rfl,by simp[qai,qab]⟩)
  ks.length (IntKind.i64.wrap 1) 0 ⟨[(1,.ptr 0 0),(3,.d (.int .i64 1)),(4,.d (.int .i64 0))],[some [.d (.int .i64 f),.d (.int .i64 v),.d (qak .sub ks)]]⟩ (by omega) (by simp[qai,qab,show IntKind.i64.wrap 1=1 from rfl])
 rw[qEc _ _ _ _ _ (by omega)]at h;simp only[List.drop_zero,qak]at h;have hs:T.sum (fun _=>1) (T.node f v ks)=1+T.sums (fun _=>1) ks:=by simp[T.sum]
 simp[v22,qE4,qE3,qE2,hs];rw[h];simp[qEZ]
theorem qht(t:T)(ht:t.inner<=1099511627776):qac XV 22 [.d (t.enc .sub)] []=some (.d (.int .i64 (IntKind.i64.wrap (T.sum (fun _=>1) t))),[]):=by
 match t,ht with
 | .node f v ks,ht=>
  simp only[T.inner]at ht;exact qmj f v ks (by omega) (fun s hs=>qht s (by have:=T.qaD hs;omega))
termination_by t
decreasing_by
 simp_wf
 have:=List.sizeOf_lt_of_mem hs;omega
end Go.Proofs.Ytfiakfiocdfpbaa.VS
namespace Go.Proofs.Ytfiakfiocdfpbaa.VS
mutual
theorem qp1(w:T->Int)(e:T->Int->Int)(he:∀x m,e x (IntKind.i64.wrap m)=IntKind.i64.wrap (m+w x)):∀(t:T) (n:Int),T.fold e t (IntKind.i64.wrap n)=IntKind.i64.wrap (n+T.sum w t)
 | .node f v ks,n=>by
  simp only[T.fold,T.sum];rw[he,qmZ w e he ks,Int.add_assoc]
theorem qmZ(w:T->Int)(e:T->Int->Int)(he:∀x m,e x (IntKind.i64.wrap m)=IntKind.i64.wrap (m+w x)):∀(l:List T) (n:Int),T.folds e l (IntKind.i64.wrap n)=IntKind.i64.wrap (n+T.sums w l)
 | [],n=>by simp[T.folds,T.sums]
 |t::r,n=>by
  simp only[T.folds,T.sums];rw[qp1 w e he t,qmZ w e he r,Int.add_assoc]
end
theorem qly(t:T):qac XV 75 [.d (t.enc .sub)] []=some (.d (.bool (t.f== -1)),[]):=by
 rw[qar XV _ _ _ v75 rfl qxn rfl];simp[v75,qEm,qEl]
def wC(n:Int)(x:T):Int:=if x.f= -1/\x.v=n then 1 else 0
def eC(n:Int)(x:T)(m:Int):Int:=if x.f= -1/\x.v=n then IntKind.i64.wrap (m+1)else m
theorem qGF(n:Int)(x:T)(m:Int):eC n x (IntKind.i64.wrap m)=IntKind.i64.wrap (m+wC n x):=by
 unfold eC wC;split
 ·exact wrap_add m 1
 ·simp
theorem qhL(t:T)(ht:t.inner<=1099511627776)(n:Int):qac XV 73 [.d (t.enc .sub),.d (.int .i64 n)] []=some (.d (.int .i64 (IntKind.i64.wrap (T.sum (wC n) t))),[]):=by
 rw[qar XV _ _ _ v73 rfl qxp rfl];have key:∀(m:Int),qac XV 25 [.d (t.enc .sub),.fn 74 [.ptr 1 0,.ptr 2 0]] ([some [.d (.int .i64 t.f),.d (.int .i64 t.v),.d (qak .sub t.kids)],some [.d (.int .i64 n)],some [.d (.int .i64 m)]]++[])=some (.d (.tup []),[some [.d (.int .i64 t.f),.d (.int .i64 t.v),.d (qak .sub t.kids)],some [.d (.int .i64 n)],some [.d (.int .i64 (T.fold (eC n) t m))]]++[]):=fun m=>
  qoA (fun m:Int=>[some [.d (.int .i64 t.f),.d (.int .i64 t.v),.d (qak .sub t.kids)],some [.d (.int .i64 n)],some [.d (.int .i64 m)]]) (eC n) 74 [.ptr 1 0,.ptr 2 0] 3 (fun _=>rfl) (fun n hn=>by simp;omega) rfl (by simp) (fun x m r=>by
   rw[qar XV _ _ _ v74 rfl qxo rfl];obtain⟨xf,xv,xk⟩:=x;have hv:=qly (.node xf xv xk);simp only[T.qdq]at hv;unfold eC;simp only[T.qdq,T.qfk]
   by_cases h1:xf= -1
   ·subst h1
    simp only[BEq.rfl]at hv
    by_cases h2:xv=n
    ·subst h2
     simp[v74,qym,qyl,qyk,hv,splice]
    ·have b2:(xv==n)=false:=by simp[h2]
     simp[v74,qym,qyl,qyk,hv,h2,b2,splice]
   ·have b1:(xf== -1)=false:=by simp[h1]
    rw[b1]at hv;simp[v74,qym,qyl,qyk,hv,h1,splice]) t ht m []
 have k0:=key 0;have h0:=qp1 (wC n) (eC n) (qGF n) t 0;rw[show IntKind.i64.wrap 0=0 from rfl,Int.zero_add]at h0;rw[h0]at k0;simp only[List.append_nil,qak]at k0;simp[v73,qEq,qEp,qEo,qEn,splice,k0]
theorem qAy(b:Bool):qac XV 85 [.d (.bool b)] []=some (.d (.int .i64 (if b then 1 else 0)),[]):=by
 rw[qar XV _ _ _ v85 rfl qxe rfl];cases b<;>simp[v85,qEg,qEf,qEe,qEd]
theorem qml(n f v:Int)(ks:List T)(hl:ks.length<=1099511627776)(hrec:∀s,s∈ks->qac XV 81 [.d (s.enc .sub),.d (.int .i64 n)] []=some (.d (.int .i64 (IntKind.i64.wrap (T.sum (wC n) s))),[])):
 qac XV 81 [.d ((T.node f v ks).enc .sub),.d (.int .i64 n)] []=some (.d (.int .i64 (IntKind.i64.wrap (T.sum (wC n) (.node f v ks)))),[]):=by
 rw[qar XV _ _ _ v81 rfl qxi rfl];have h:=fun m=>qaA (X:=XV) (T:=[]) (L:=1) (live:=[1,2,5,6]) (b:=qy8) (n:=ks.length) (γ:=Unit) (st:=fun(m:Int) i=>⟨[(1,.d (.int .i64 n)),(2,.ptr 0 0),(5,.d (.int .i64 m)),(6,.d (.int .i64 i))],[some [.d (.int .i64 f),.d (.int .i64 v),.d (qak .sub ks)]]⟩) (step:=qqN (fun t=>IntKind.i64.wrap (T.sum (wC n) t)) ks)
  (F:=fun m=>(.exit 0,⟨[(1,.d (.int .i64 n)),(2,.ptr 0 0),(5,.d (.int .i64 m)),(6,.d (.int .i64 ks.length)),(21,.d (.bool false))],[some [.d (.int .i64 f),.d (.int .i64 v),.d (qak .sub ks)]]⟩)) (R:=fun r=>(.ret,⟨[],[]⟩))
  (fun _=>⟨by simp,by simp[qy8,qlk,qlj,qli,qlh,qlf,qlg,qle]⟩)
  (fun m i hi=>by
   have hw:=qax (n:=i) (by omega);have hc:=hrec _ (qaT hi);exact⟨_,by simp[qy8,qlk,qlj,qli,qlh,qlf,qlg,qle,hi,hw,cut,qaF hi,hc];rfl,by simp[qai,qab]⟩)
  ks.length (IntKind.i64.wrap m) 0 ⟨[(1,.d (.int .i64 n)),(2,.ptr 0 0),(5,.d (.int .i64 (IntKind.i64.wrap m))),(6,.d (.int .i64 0))],[some [.d (.int .i64 f),.d (.int .i64 v),.d (qak .sub ks)]]⟩ (by omega) (by simp[qai,qab])
 have h':=fun m=>by
  have:=h m;rw[qEc _ _ _ _ _ (by omega)]at this;simpa only[List.drop_zero,qak]using this
 have hs:T.sum (wC n) (T.node f v ks)=wC n (.node f v ks)+T.sums (wC n) ks:=by simp[T.sum]
 have bt:=qAy true;have bf:=qAy false;simp only[if_true,Bool.false_eq_true,if_false]at bt bf;rw[hs];have h1:=h' 1;have h0:=h' 0;rw[show IntKind.i64.wrap 1=1 from rfl]at h1;rw[show IntKind.i64.wrap 0=0 from rfl]at h0
 by_cases c1:f= -1
 ·by_cases c2:v=n
  ·have hw:wC n (.node f v ks)=1:=by simp[wC,c1,c2]
   rw[hw];subst c1;subst c2
   simp[v81,qlk,qlj,qli,qlh,qlf,qlg,qle,bt,bf];rw[h1];simp[v81,qlk,qlj,qli,qlh,qlf,qlg,qle]
  ·have hw:wC n (.node f v ks)=0:=by simp[wC,c1,c2]
   have b2:(v==n)=false:=by simp[c2]
   rw[hw];subst c1;simp[v81,qlk,qlj,qli,qlh,qlf,qlg,qle,bt,bf,b2];rw[h0];simp[v81,qlk,qlj,qli,qlh,qlf,qlg,qle]
 ·have hw:wC n (.node f v ks)=0:=by simp[wC,c1]
  have b1:(f== -1)=false:=by simp[c1]
  rw[hw];simp[v81,qlk,qlj,qli,qlh,qlf,qlg,qle,bt,bf,b1];rw[h0];simp[v81,qlk,qlj,qli,qlh,qlf,qlg,qle]
theorem qen(t:T)(ht:t.inner<=1099511627776)(n:Int):qac XV 81 [.d (t.enc .sub),.d (.int .i64 n)] []=some (.d (.int .i64 (IntKind.i64.wrap (T.sum (wC n) t))),[]):=by
 match t,ht with
 | .node f v ks,ht=>
  simp only[T.inner]at ht;exact qml n f v ks (by omega) (fun s hs=>qen s (by have:=T.qaD hs;omega) n)
termination_by t
decreasing_by
 simp_wf
 have:=List.sizeOf_lt_of_mem hs;omega
end Go.Proofs.Ytfiakfiocdfpbaa.VS
namespace Go.Proofs.Ytfiakfiocdfpbaa.VS
abbrev is(l:List Int):DV:= .sl .sub (l.map (.int .i64))
def iAt(l:List Int)(i:Nat):Int:=(l[i]?).getD 0
theorem qcy{l:List Int}{i:Nat}(h:i<l.length):l[i]=iAt l i:=by simp[iAt,h]
@[simp high] theorem qGP(l:List Int):(l.map (DV.int .i64)).map DV.clr=l.map (DV.int .i64):=by simp[List.map_map,Function.comp_def]
end Go.Proofs.Ytfiakfiocdfpbaa.VS
namespace Go.Proofs.Ytfiakfiocdfpbaa.VS
def qhv(c:Int):Bool:=decide (97<=c)&&decide (c<=122)
def qne(c:Int):Bool:=decide (48<=c)&&decide (c<=57)
theorem qkn(c:Int):qac XV 61 [.d (.int .u8 c)] []=some (.d (.bool (qhv c)),[]):=by
 rw[qar XV _ _ _ v61 rfl qxs rfl];cases h1:decide (97<=c)<;>simp[v61,qEw,qEv,h1,qhv]
theorem qko(c:Int):qac XV 62 [.d (.int .u8 c)] []=some (.d (.bool (qne c)),[]):=by
 rw[qar XV _ _ _ v62 rfl qxr rfl];cases h1:decide (48<=c)<;>simp[v62,qEu,qEt,h1,qne]
def qlY(x:Int)(i:Nat):Prop:=(97<=x/\x<=122)\/(0<i/\48<=x/\x<=57)
instance (x:Int) (i:Nat):Decidable (qlY x i):=by unfold qlY;exact inferInstance
theorem qAx(s:ByteArray)(hs:s.size<=1099511627776)(i:Nat)(hlt:i<s.size)(x:Int)(hb:qjD s i=some x):
 qaC XV [] qwC ⟨[(0,.d (.str s)),(3,.d (.int .i64 i))],[]⟩=some (if qlY x i then(.normal,⟨[(0,.d (.str s)),(3,.d (.int .i64 (i+1:Nat)))],[]⟩)else(.ret,⟨[(2,.d (.bool false))],[]⟩)):=by
 have hw:=qax (n:=i) (by omega);simp[qwC,qBK,qEG,qEF,qEH,hb,hlt,hw];cases h1:decide (97<=x)
 case true=>
  simp[hb];cases h2:decide (x<=122)
  case true=>
   simp[hb,hw];have:qlY x i:=by simp at h1 h2;exact .inl ⟨h1,h2⟩
   simp[this]
  case false=>
   simp[hb,hw];cases h3:decide (0<i)<;>simp[hb,hw]
   case true=>
    have h4:(48<=x):=by simp at h1;omega
    simp[h4,hb];have h5:¬(x<=57):=by simp at h1;omega
    have:¬qlY x i:=by simp at h1 h2;unfold qlY;omega
    simp[h5,this]
   case false=>
    have:¬qlY x i:=by simp at h1 h2 h3;unfold qlY;omega
    simp[this]
 case false=>
  simp[hb];cases h3:decide (0<i)
  case true=>
   simp[hb,hw];cases h4:decide (48<=x)
   case true=>
    simp[hb,hw];cases h5:decide (x<=57)
    case true=>
     have:qlY x i:=by simp at h1 h3 h4 h5;unfold qlY;omega
     simp[hw,this]
    case false=>
     have:¬qlY x i:=by simp at h1 h3 h4 h5;unfold qlY;omega
     simp[hw,this]
   case false=>
    have:¬qlY x i:=by simp at h1 h3 h4;unfold qlY;omega
    simp[hb,hw,this]
  case false=>
   have:¬qlY x i:=by simp at h1 h3;unfold qlY;omega
   simp[hb,hw,this]
def qyw(s:ByteArray)(i:Nat):Bool:=decide (qlY (chr s i) i)
def qhZ(s:ByteArray)(f:ByteArray->Nat->Bool)(i k:Nat):Bool:=(List.range' i k).all (f s)
theorem qkJ(s:ByteArray)(f:ByteArray->Nat->Bool)(i:Nat):qhZ s f i 0=true:=rfl
theorem qkK(s:ByteArray)(f:ByteArray->Nat->Bool)(i k:Nat):qhZ s f i (k+1)=(f s i&&qhZ s f (i+1) k):=by simp[qhZ,List.range'_succ]
theorem qwO(s:ByteArray)(f:ByteArray->Nat->Bool)(i k:Nat):qhZ s f i k=true↔∀j,i<=j->j<i+k->f s j=true:=by
 simp only[qhZ,List.all_eq_true,List.mem_range'_1];exact⟨fun h j h1 h2=>h j ⟨h1,h2⟩,fun h j h1=>h j h1.1 h1.2⟩
theorem qAd(s:ByteArray)(hs:s.size<=1099511627776):∀(k i:Nat),i+k=s.size->
 qdM XV [] 0 [0,3] qwC ⟨[(0,.d (.str s)),(3,.d (.int .i64 i))],[]⟩=
  some (if qhZ s qyw i k then(.exit 0,⟨[(0,.d (.str s)),(3,.d (.int .i64 s.size)),(7,.d (.bool false))],[]⟩)else(.ret,⟨[(2,.d (.bool false))],[]⟩))
 |0,i,hk=>by
  have:i=s.size:=by omega
  subst this;rw[qdt];simp[qai,qab,qwC,qBK,qkJ]
 |k+1,i,hk=>by
  have hlt:i<s.size:=by omega
  have ih:=qAd s hs k (i+1) (by omega);rw[qdt,qkK]
  by_cases h:qlY (chr s i) i
  ·have h2:qyw s i=true:=by simp[qyw,h]
   rw[h2,Bool.true_and,<-ih];simp[qai,qab,qAx s hs i hlt _ (qgC hlt),h]
  ·have h2:qyw s i=false:=by simp[qyw,h]
   simp[qai,qab,qAx s hs i hlt _ (qgC hlt),h,h2]
def qgb(s:ByteArray):Bool:=qhZ s qyw 0 s.size&&inB s.size 1 8
theorem qk0(s:ByteArray)(hs:s.size<=1099511627776):qac XV 59 [.d (.str s)] []=some (.d (.bool (qgb s)),[]):=by
 rw[qar XV _ _ _ v59 rfl qxu rfl];have h:=qAd s hs s.size 0 (by omega);simp[v59,qEJ,qEI,qEE];simp at h;rw[h];cases h1:qhZ s qyw 0 s.size
 ·simp[qgb,h1]
 ·simp[qgb,h1,qg5]
def qlt(s:ByteArray)(i:Nat):Bool:=qhv (chr s i)||qne (chr s i)
theorem qAw(s:ByteArray)(hs:s.size<=1099511627776)(i:Nat)(hlt:i<s.size):
 qaC XV [] qwB ⟨[(0,.d (.str s)),(5,.d (.int .i64 s.size)),(6,.d (.int .i64 i))],[]⟩=some (if qlt s i then(.normal,⟨[(0,.d (.str s)),(5,.d (.int .i64 s.size)),(6,.d (.int .i64 (i+1:Nat)))],[]⟩)else(.ret,⟨[(2,.d (.bool false))],[]⟩)):=by
 have hw:=qax (n:=i) (by omega);have hb:=qgC hlt;simp[qwB,qBJ,qEB,qEA,qEz,qEy,hb,hlt,hw,qkn,qko];cases h1:qhv (chr s i)
 ·simp[hb,qko]
  cases h2:qne (chr s i)<;>simp[hw,qlt,h1,h2]
 ·simp[hw,qlt,h1]
theorem qAc(s:ByteArray)(hs:s.size<=1099511627776):∀(k i:Nat),i+k=s.size->
 qdM XV [] 0 [0,5,6] qwB ⟨[(0,.d (.str s)),(5,.d (.int .i64 s.size)),(6,.d (.int .i64 i))],[]⟩=
  some (if qhZ s qlt i k then(.exit 0,⟨[(0,.d (.str s)),(5,.d (.int .i64 s.size)),(6,.d (.int .i64 s.size)),(7,.d (.bool false))],[]⟩)else(.ret,⟨[(2,.d (.bool false))],[]⟩))
 |0,i,hk=>by
  have:i=s.size:=by omega
  subst this;rw[qdt];simp[qai,qab,qwB,qBJ,qkJ]
 |k+1,i,hk=>by
  have hlt:i<s.size:=by omega
  have ih:=qAc s hs k (i+1) (by omega);rw[qdt,qkK];cases h:qlt s i
  ·simp[qai,qab,qAw s hs i hlt,h]
  ·rw[Bool.true_and,<-ih]
   simp[qai,qab,qAw s hs i hlt,h]
def qjc(s:ByteArray):Bool:=qhZ s qlt 0 s.size&&(inB s.size 1 8&&qhv (chr s 0))
theorem qlF(s:ByteArray)(hs:s.size<=1099511627776):qac XV 60 [.d (.str s)] []=some (.d (.bool (qjc s)),[]):=by
 rw[qar XV _ _ _ v60 rfl qxt rfl];have h:=qAc s hs s.size 0 (by omega);simp[v60,qED,qEC,qEx];simp at h;rw[h];cases h1:qhZ s qlt 0 s.size
 ·simp[qjc,h1]
 ·simp[qjc,h1,qjo]
  cases h2:inB s.size 1 8
  ·simp[h2]
  ·have h3:0<s.size:=by simp[inB]at h2;omega
   simp[h2,qgC h3,qkn]
theorem qyv(s:ByteArray)(i:Nat):qyw s i=true↔(97<=chr s i/\chr s i<=122)\/(0<i/\48<=chr s i/\chr s i<=57):=by
 unfold qyw;rw[decide_eq_true_eq];rfl
theorem quW(s:ByteArray)(i:Nat):qlt s i=true↔(97<=chr s i/\chr s i<=122)\/(48<=chr s i/\chr s i<=57):=by
 simp[qlt,qhv,qne]
theorem qqT(x:Int):qhv x=true↔97<=x/\x<=122:=by simp[qhv]
theorem qol(s:ByteArray):qjc s=qgb s:=by
 rw[Bool.eq_iff_iff];simp only[qgb,qjc,Bool.and_eq_true,qwO,qyv,quW,qqT];constructor
 ·rintro⟨h1,h2,h3⟩
  refine⟨fun j hj hj2=> ?_,h2⟩;have h4:=h1 j hj hj2;rcases Nat.eq_zero_or_pos j with rfl|hp
  ·exact .inl h3
  ·omega
 ·rintro⟨h1,h2⟩
  have h0:0<s.size:=by simp[inB]at h2;omega
  have h5:=h1 0 (Nat.le_refl _) (by omega);refine⟨fun j hj hj2=> ?_,h2,?_⟩
  ·have h4:=h1 j hj hj2
   omega
  ·omega
end Go.Proofs.Ytfiakfiocdfpbaa.VS
namespace Go.Proofs.Ytfiakfiocdfpbaa.VS
def qaq(q:Nat->Bool):Nat->Nat->Option Nat
 |0,_=>none
 |k+1,i=>if q i then some i else qaq q k (i+1)
def qcs(q:Nat->Bool)(_:Unit)(i:Nat):Unit⊕Nat:=if q i then .inr i else .inl ()
theorem qo1(q:Nat->Bool):∀(k i:Nat),runN (qcs q) k () i=match qaq q k i with|some j=> .inr j|none=> .inl ()
 |0,i=>rfl
 |k+1,i=>by
  simp only[runN,qcs,qaq];cases h:q i
  ·simp[qo1 q k (i+1)]
  ·simp
def qdK:Option Nat->Int
 |some j=>j
 |none=> -1
theorem qdj(q:Nat->Bool):∀(k i j:Nat),qaq q k i=some j->i<=j/\j<i+k/\q j=true
 |0,i,j,h=>by simp[qaq]at h
 |k+1,i,j,h=>by
  simp only[qaq]at h;split at h
  ·simp at h;subst h;exact⟨Nat.le_refl _,by omega,by assumption⟩
  ·obtain⟨h1,h2,h3⟩:=qdj q k (i+1) j h;exact⟨by omega,by omega,h3⟩
def qds(l:List SymL)(name:ByteArray):Int:=qdK (qaq (fun i=>qe6 (qaz l i).name name) l.length 0)
theorem qmh(l:List SymL)(name:ByteArray)(hl:l.length<=1099511627776):qac XV 13 [.d (sg l),.d (.str name)] []=some (.d (.int .i64 (qds l name)),[]):=by
 rw[qar XV _ _ _ v13 rfl qxH rfl];have h:=qaA (X:=XV) (T:=[]) (L:=0) (live:=[0,1,5]) (b:=qwH) (n:=l.length) (st:=fun(_:Unit) i=>⟨[(0,.d (sg l)),(1,.d (.str name)),(5,.d (.int .i64 i))],[]⟩) (step:=qcs fun i=>qe6 (qaz l i).name name)
  (F:=fun _=>(.exit 0,⟨[(0,.d (sg l)),(1,.d (.str name)),(5,.d (.int .i64 l.length)),(9,.d (.bool false))],[]⟩)) (R:=fun(j:Nat)=>(.ret,⟨[(4,.d (.int .i64 j))],[]⟩))
  (fun a=>⟨by simp,by simp[qwH,qrx,qrw,qrv,qrt,qrs,qru,qrr]⟩)
  (fun a i hi=>by
   have hw:=qax (n:=i) (by omega);unfold qcs
   by_cases hq:qe6 (qaz l i).name name=true
   ·rw[if_pos hq];exact⟨by simp,by simp[qwH,qrx,qrw,qrv,qrt,qrs,qru,qrr,hi,hw,cut,qau hi,hq]⟩
   ·rw[if_neg hq]
    have hq':qe6 (qaz l i).name name=false:=by simpa using hq
    exact⟨_,by simp[qwH,qrx,qrw,qrv,qrt,qrs,qru,qrr,hi,hw,cut,qau hi,hq'];rfl,by simp[qai,qab]⟩)
  l.length () 0 ⟨[(0,.d (sg l)),(1,.d (.str name)),(5,.d (.int .i64 0))],[]⟩ (by omega) (by simp[qai,qab])
 rw[qo1]at h;simp[v13,qrx,qrw,qrv,qrt,qrs,qru,qrr];rw[h];unfold qds;cases hq:qaq (fun i=>qe6 (qaz l i).name name) l.length 0<;>simp[qdK,v13,qrx,qrw,qrv,qrt,qrs,qru,qrr]
theorem qlC(l:List SymL)(fk:Nat)(caps:List AV)(B:qaj)(P:SymL->Bool)(hl:l.length<=1099511627776)(hs:AV.safe.safes B.length caps=true)(hcc:caps.map AV.clr=caps)(hk:¬0∈XV.lin fk)
 (hf:∀s,s∈l->qac XV fk (.d s.enc::caps) B=some (.d (.bool (P s)),B)):
 qac XV 19 [.d (sg l),.fn fk caps] B=some (.d (.int .i64 (qdK (qaq (fun i=>P (qaz l i)) l.length 0))),B):=by
 rw[qar XV _ _ _ v19 rfl qxE rfl];have h:=qaA (X:=XV) (T:=XV.lin 19) (L:=B.length) (live:=[0,1,7,8]) (b:=qwG) (n:=l.length) (st:=fun(_:Unit) i=>⟨[(0,.d (sg l)),(1,.fn fk caps),(7,.d (.int .i64 l.length)),(8,.d (.int .i64 i))],B⟩) (step:=qcs fun i=>P (qaz l i))
  (F:=fun _=>(.exit 0,⟨[(0,.d (sg l)),(1,.fn fk caps),(7,.d (.int .i64 l.length)),(8,.d (.int .i64 l.length)),(9,.d (.bool false))],B⟩)) (R:=fun(j:Nat)=>(.ret,⟨[(4,.d (.int .i64 j))],B⟩))
  (fun a=>⟨by simp,by simp[qwG,qrq,qrp,qro,qrn,qrm,qrl,qrk,qrj,hcc]⟩)
  (fun a i hi=>by
   have hw:=qax (n:=i) (by omega);have hc:=hf _ (qme hi);unfold qcs
   by_cases hq:P (qaz l i)=true
   ·rw[if_pos hq];rw[hq]at hc
    exact⟨by simp,by simp[qwG,qrq,qrp,qro,qrn,qrm,qrl,qrk,qrj,hi,hw,cut,qau hi,hc,hcc,hk]⟩
   ·rw[if_neg hq]
    have hq':P (qaz l i)=false:=by simpa using hq
    rw[hq']at hc;exact⟨_,by simp[qwG,qrq,qrp,qro,qrn,qrm,qrl,qrk,qrj,hi,hw,cut,qau hi,hc,hcc,hk];rfl,by simp[qai,qab,hs]⟩)
  l.length () 0 ⟨[(0,.d (sg l)),(1,.fn fk caps),(7,.d (.int .i64 l.length)),(8,.d (.int .i64 0))],B⟩ (by omega) (by simp[qai,qab,hs])
 rw[qo1]at h;simp only[qF2]at h;simp[v19,qrq,qrp,qro,qrn,qrm,qrl,qrk,qrj,hcc];rw[h];cases hq:qaq (fun i=>P (qaz l i)) l.length 0<;>simp[qdK,v19,qrq,qrp,qro,qrn,qrm,qrl,qrk,qrj]
theorem qtN(s:SymL)(name:ByteArray):qac XV 18 [.d s.enc,.ptr 0 0] [some [.d (.str name)]]=some (.d (.bool (qe6 s.name name)),[some [.d (.str name)]]):=by
 rw[qar XV _ _ _ v18 rfl qxF rfl];simp[v18,qE6,qE5]
theorem qmS(l:List SymL)(name:ByteArray)(hl:l.length<=1099511627776):qac XV 14 [.d (sg l),.d (.str name)] []=some (.d (.int .i64 (qds l name)),[]):=by
 rw[qar XV _ _ _ v14 rfl qxG rfl];have hc:=qlC l 18 [.ptr 0 0] [some [.d (.str name)]] (fun s=>qe6 s.name name) hl (by simp) (by simp) (by simp) (fun s _=>qtN s name);simp[v14,qE8,qE7,hc,qds]
def qdv(l:List SymL)(s:SymL)(i:Nat):Bool:= !qgb s.name|| !(decide (qds l s.name=i))|| !(inB s.arity 0 3)||(s.ac&& !decide (s.arity=2))
def ttB(s:SymL):Bool:=qe6 s.name ⟨#[116,116]⟩&&decide (s.arity=0)
def qiw(l:List SymL):Bool:=(qaq (fun i=>qdv l (qaz l i) i) l.length 0).isNone&&(inB l.length 1 8&&ttB (qaz l 0))
theorem qcU(l:List SymL)(s:SymL)(i:Nat):qdv l s i=false↔qgb s.name=true/\qds l s.name=i/\inB s.arity 0 3=true/\(s.ac=true->s.arity=2):=by
 simp[qdv,and_assoc]
theorem qGR(l:List SymL)(hl:l.length<=1099511627776)(i:Nat)(hi:i<l.length)(hn:(qaz l i).name.size<=1099511627776):
 qA8 0 [0,5,6,7] (fun(_:Unit) i=>⟨[(0,.d (sg l)),(5,.d (sg l)),(6,.d (.int .i64 l.length)),(7,.d (.int .i64 i))],[]⟩) (fun(_:Nat)=>(.ret,⟨[(2,.d (.bool false))],[some [.d (.str (qaz l i).name),.d (.int .i64 (qaz l i).arity),.d (.bool (qaz l i).ac)]]⟩)) i
  (qaC XV (XV.lin 77) qjZ ⟨[(0,.d (sg l)),(5,.d (sg l)),(6,.d (.int .i64 l.length)),(7,.d (.int .i64 i))],[]⟩) (qcs (fun i=>qdv l (qaz l i) i) () i):=by
 have hw:=qax (n:=i) (by omega);have n1:=qlF (qaz l i).name hn;rw[qol]at n1;have n2:=qmS l (qaz l i).name hl;have n3:=qjo (qaz l i).arity 0 3;unfold qcs
 by_cases hb:qdv l (qaz l i) i=true
 ·rw[if_pos hb]
  refine⟨by simp,?_⟩;cases c1:qgb (qaz l i).name with
  |false=>rw[c1]at n1;simp[qjZ,qgZ,qgY,qgX,qgW,qgV,qgU,qgT,qgS,hi,hw,cut,qau hi,n1,splice]
  |true=>
   rw[c1]at n1
   by_cases c2:qds l (qaz l i).name=i
   ·have b2:(qds l (qaz l i).name !=i)=false:=by simp[c2]
    cases c3:inB (qaz l i).arity 0 3 with
    |false=>rw[c3]at n3;simp[qjZ,qgZ,qgY,qgX,qgW,qgV,qgU,qgT,qgS,hi,hw,cut,qau hi,n1,n2,b2,n3,splice]
    |true=>
     rw[c3]at n3;have c4:(qaz l i).ac=true/\¬(qaz l i).arity=2:=by
      have:¬qdv l (qaz l i) i=false:=by simp[hb]
      rw[qcU]at this;simp only[c1,c2,c3,true_and]at this;exact Classical.not_imp.1 this
     have b4:((qaz l i).arity !=2)=true:=by simp[c4.2]
     simp[qjZ,qgZ,qgY,qgX,qgW,qgV,qgU,qgT,qgS,hi,hw,cut,qau hi,n1,n2,b2,n3,splice,c4.1,b4]
   ·have b2:(qds l (qaz l i).name !=i)=true:=by simp[c2]
    simp[qjZ,qgZ,qgY,qgX,qgW,qgV,qgU,qgT,qgS,hi,hw,cut,qau hi,n1,n2,b2,splice]
 ·have hb':qdv l (qaz l i) i=false:=by simpa using hb
  rw[if_neg hb];obtain⟨c1,c2,c3,c4⟩:=(qcU l _ i).1 hb';have b2:(qds l (qaz l i).name !=i)=false:=by simp[c2]
  rw[c1]at n1;rw[c3]at n3
  cases c5:(qaz l i).ac with
  |false=>exact⟨_,by simp[qjZ,qgZ,qgY,qgX,qgW,qgV,qgU,qgT,qgS,hi,hw,cut,qau hi,n1,n2,b2,n3,splice,c5];rfl,by simp[qai,qab]⟩
  |true=>
   have b4:((qaz l i).arity !=2)=false:=by simp[c4 c5]
   exact⟨_,by simp[qjZ,qgZ,qgY,qgX,qgW,qgV,qgU,qgT,qgS,hi,hw,cut,qau hi,n1,n2,b2,n3,splice,c5,b4];rfl,by simp[qai,qab]⟩
theorem qmT(l:List SymL)(hl:l.length<=1099511627776)(hn:∀i,i<l.length->(qaz l i).name.size<=1099511627776):qac XV 77 [.d (sg l)] []=some (.d (.bool (qiw l)),[]):=by
 rw[qar XV _ _ _ v77 rfl qxm rfl];have h:=qaA (X:=XV) (T:=XV.lin 77) (L:=0) (live:=[0,5,6,7]) (b:=qjZ) (n:=l.length) (γ:=Nat) (st:=fun(_:Unit) i=>⟨[(0,.d (sg l)),(5,.d (sg l)),(6,.d (.int .i64 l.length)),(7,.d (.int .i64 i))],[]⟩) (step:=qcs fun i=>qdv l (qaz l i) i)
  (F:=fun _=>(.exit 0,⟨[(0,.d (sg l)),(5,.d (sg l)),(6,.d (.int .i64 l.length)),(7,.d (.int .i64 l.length)),(8,.d (.bool false))],[]⟩)) (R:=fun j=>(.ret,⟨[(2,.d (.bool false))],[some [.d (.str (qaz l j).name),.d (.int .i64 (qaz l j).arity),.d (.bool (qaz l j).ac)]]⟩))
  (fun a=>⟨by simp,by simp[qjZ,qgZ,qgY,qgX,qgW,qgV,qgU,qgT,qgS]⟩)
  (fun a i hi=>by
   have hb:=qGR l hl i hi (hn i hi);unfold qcs at hb⊢
   split at hb
   ·rename_i h1;rw[if_pos h1];exact hb
   ·rename_i h1;rw[if_neg h1];exact hb)
  l.length () 0 ⟨[(0,.d (sg l)),(5,.d (sg l)),(6,.d (.int .i64 l.length)),(7,.d (.int .i64 0))],[]⟩ (by omega) (by simp[qai,qab])
 rw[qo1]at h;simp only[qF1]at h;simp[v77,qgZ,qgY,qgX,qgW,qgV,qgU,qgT,qgS];rw[h];unfold qiw;cases hq:qaq (fun i=>qdv l (qaz l i) i) l.length 0 with
 |some j=>simp
 |none=>
  have n3:=qjo l.length 1 8;cases c1:inB l.length 1 8 with
  |false=>rw[c1]at n3;simp[v77,qgZ,qgY,qgX,qgW,qgV,qgU,qgT,qgS,n3]
  |true=>
   rw[c1]at n3;have h0:0<l.length:=by simp[inB]at c1;omega
   unfold ttB;cases c2:qe6 (qaz l 0).name ⟨#[116,116]⟩with
   |false=>simp[v77,qgZ,qgY,qgX,qgW,qgV,qgU,qgT,qgS,n3,h0,qau h0,cut,c2]
   |true=>
    by_cases c3:(qaz l 0).arity=0
    ·simp[v77,qgZ,qgY,qgX,qgW,qgV,qgU,qgT,qgS,n3,h0,qau h0,cut,c2,c3]
    ·have b3:((qaz l 0).arity==0)=false:=by simp[c3]
     simp[v77,qgZ,qgY,qgX,qgW,qgV,qgU,qgT,qgS,n3,h0,qau h0,cut,c2,c3,b3]
theorem qmi(l:List SymL)(hl:l.length<=1099511627776)(hn:∀i,i<l.length->(qaz l i).name.size<=1099511627776):qac XV 82 [.d (sg l)] []=some (.d (.bool (qiw l)),[]):=by
 rw[qar XV _ _ _ v82 rfl qxh rfl];have h:=qaA (X:=XV) (T:=XV.lin 82) (L:=0) (live:=[0,3]) (b:=qlV) (n:=l.length) (γ:=Nat) (st:=fun(_:Unit) i=>⟨[(0,.d (sg l)),(3,.d (.int .i64 i))],[]⟩) (step:=qcs fun i=>qdv l (qaz l i) i)
  (F:=fun _=>(.exit 0,⟨[(0,.d (sg l)),(3,.d (.int .i64 l.length)),(7,.d (.bool false))],[]⟩)) (R:=fun j=>(.ret,⟨[(2,.d (.bool false))],[]⟩))
  (fun a=>⟨by simp,by simp[qlV,qiM,qiL,qiK,qiI,qiH,qiJ,qiG]⟩)
  (fun a i hi=>by
   have hw:=qax (n:=i) (by omega);have n1:=qk0 (qaz l i).name (hn i hi);have n2:=qmh l (qaz l i).name hl;have n3:=qg5 (qaz l i).arity 0 3;unfold qcs
   by_cases hb:qdv l (qaz l i) i=true
   ·rw[if_pos hb]
    refine⟨by simp,?_⟩;cases c1:qgb (qaz l i).name with
    |false=>rw[c1]at n1;simp[qlV,qiM,qiL,qiK,qiI,qiH,qiJ,qiG,hi,hw,cut,qau hi,n1,splice]
    |true=>
     rw[c1]at n1
     by_cases c2:qds l (qaz l i).name=i
     ·have b2:(qds l (qaz l i).name !=i)=false:=by simp[c2]
      cases c3:inB (qaz l i).arity 0 3 with
      |false=>rw[c3]at n3;simp[qlV,qiM,qiL,qiK,qiI,qiH,qiJ,qiG,hi,hw,cut,qau hi,n1,n2,b2,n3,splice]
      |true=>
       rw[c3]at n3;have c4:(qaz l i).ac=true/\¬(qaz l i).arity=2:=by
        have:¬qdv l (qaz l i) i=false:=by simp[hb]
        rw[qcU]at this;simp only[c1,c2,c3,true_and]at this;exact Classical.not_imp.1 this
       have b4:((qaz l i).arity !=2)=true:=by simp[c4.2]
       simp[qlV,qiM,qiL,qiK,qiI,qiH,qiJ,qiG,hi,hw,cut,qau hi,n1,n2,b2,n3,splice,c4.1,b4]
     ·have b2:(qds l (qaz l i).name !=i)=true:=by simp[c2]
      simp[qlV,qiM,qiL,qiK,qiI,qiH,qiJ,qiG,hi,hw,cut,qau hi,n1,n2,b2,splice]
   ·have hb':qdv l (qaz l i) i=false:=by simpa using hb
    rw[if_neg hb];obtain⟨c1,c2,c3,c4⟩:=(qcU l _ i).1 hb';have b2:(qds l (qaz l i).name !=i)=false:=by simp[c2]
    rw[c1]at n1;rw[c3]at n3
    cases c5:(qaz l i).ac with
    |false=>exact⟨_,by simp[qlV,qiM,qiL,qiK,qiI,qiH,qiJ,qiG,hi,hw,cut,qau hi,n1,n2,b2,n3,splice,c5];rfl,by simp[qai,qab]⟩
    |true=>
     have b4:((qaz l i).arity !=2)=false:=by simp[c4 c5]
     exact⟨_,by simp[qlV,qiM,qiL,qiK,qiI,qiH,qiJ,qiG,hi,hw,cut,qau hi,n1,n2,b2,n3,splice,c5,b4];rfl,by simp[qai,qab]⟩)
  l.length () 0 ⟨[(0,.d (sg l)),(3,.d (.int .i64 0))],[]⟩ (by omega) (by simp[qai,qab])
 rw[qo1]at h;simp only[qF0]at h;simp[v82,qiM,qiL,qiK,qiI,qiH,qiJ,qiG];rw[h];unfold qiw;cases hq:qaq (fun i=>qdv l (qaz l i) i) l.length 0 with
 |some j=>simp
 |none=>
  have n3:=qg5 l.length 1 8;cases c1:inB l.length 1 8 with
  |false=>rw[c1]at n3;simp[v82,qiM,qiL,qiK,qiI,qiH,qiJ,qiG,n3]
  |true=>
   rw[c1]at n3;have h0:0<l.length:=by simp[inB]at c1;omega
   have hnone:∀(q:Nat->Bool) (k i j:Nat),qaq q k i=none->i<=j->j<i+k->q j=false:=by
    intro q k
    induction k with
    |zero=>intro i j _ h1 h2;omega
    |succ k ih=>
     intro i j hf h1 h2;simp only[qaq]at hf;split at hf
     ·simp at hf
     ·rcases Nat.eq_or_lt_of_le h1 with rfl|h1
      ·simpa using ‹¬q i=true›
      ·exact ih (i+1) j hf h1 (by omega)
   have hb0:=hnone _ _ _ 0 hq (Nat.le_refl _) (by omega);obtain⟨_,_,_,c4⟩:=(qcU l (qaz l 0) 0).1 hb0;have key:qbf [2,0,1] [.str (qaz l 0).name,.int .i64 (qaz l 0).arity,.bool (qaz l 0).ac] [.str ⟨#[116,116]⟩,.int .i64 0,.bool false]=some (ttB (qaz l 0)):=by
    unfold ttB;cases c2:qe6 (qaz l 0).name ⟨#[116,116]⟩<;>by_cases c3:(qaz l 0).arity=0<;>cases c5:(qaz l 0).ac<;>simp[qbf,c2,c3,c5]
    have:=c4 c5;omega
   have key2:∀s s':SymL,qvW false [2,0,1] (some (.d s.enc)) (some (.d s'.enc))=(qbf [2,0,1] [.str s.name,.int .i64 s.arity,.bool s.ac] [.str s'.name,.int .i64 s'.arity,.bool s'.ac]).map fun e=> .d (.bool e):=fun s s'=>by
    show(qbf [2,0,1] s.cells s'.cells).map _=_;simp[SymL.cells]
   simp[v82,qiM,qiL,qiK,qiI,qiH,qiJ,qiG,n3,h0,qau h0,cut,key2,key,splice]
end Go.Proofs.Ytfiakfiocdfpbaa.VS
namespace Go.Proofs.Ytfiakfiocdfpbaa.VS
theorem qfr(q:Nat->Bool):∀(k i j:Nat),qaq q k i=none->i<=j->j<i+k->q j=false
 |0,i,j,_,h1,h2=>by omega
 |k+1,i,j,hf,h1,h2=>by
  simp only[qaq]at hf;split at hf
  ·simp at hf
  ·rename_i hq
   by_cases he:j=i
   ·subst he;simpa using hq
   ·exact qfr q k (i+1) j hf (by omega) (by omega)
theorem qfe(l:List Int)(n:Int):decide (0<=qdK (qaq (fun i=>n==iAt l i) l.length 0))=l.contains n:=by
 cases hq:qaq (fun i=>n==iAt l i) l.length 0 with
 |none=>
  have h:=fun j=>qfr _ _ _ j hq
  have hc:l.contains n=false:=by
   rw[Bool.eq_false_iff];intro hm;rw[List.contains_iff_mem]at hm;obtain⟨j,hj⟩:=List.mem_iff_getElem?.1 hm;have hlt:j<l.length:=(List.getElem?_eq_some_iff.1 hj).1;have:=h j (Nat.zero_le _) (by omega);simp[iAt,hj]at this
  rw[hc];simp[qdK]
 |some j=>
  obtain⟨h1,h2,h3⟩:=qdj _ _ _ _ hq;have hlt:j<l.length:=by omega
  have hc:l.contains n=true:=by
   rw[List.contains_iff_mem];simp only[beq_iff_eq]at h3;rw[h3,<-qcy hlt];exact List.getElem_mem hlt
  rw[hc];simp[qdK]
theorem qhO(q:Nat->Bool):∀(k i j:Nat),qaq q k i=some j->∀a,i<=a->a<j->q a=false
 |0,i,j,h,a,_,_=>by simp[qaq]at h
 |k+1,i,j,h,a,h1,h2=>by
  simp only[qaq]at h;split at h
  ·simp at h;omega
  ·rename_i hq
   by_cases he:a=i
   ·subst he;simpa using hq
   ·exact qhO q k (i+1) j h a (by omega) h2
theorem qhP(q q':Nat->Bool):∀(k i:Nat),(∀j,i<=j->j<i+k->q j=q' j)->qaq q k i=qaq q' k i
 |0,i,h=>rfl
 |k+1,i,h=>by
  simp only[qaq];rw[h i (Nat.le_refl _) (by omega),qhP q q' k (i+1) (fun j h1 h2=>h j (by omega) (by omega))]
theorem qdC(l:List Int)(q:Int->Bool):l.findIdx q=match qaq (fun i=>q (iAt l i)) l.length 0 with|some j=>j|none=>l.length:=by
 cases hq:qaq (fun i=>q (iAt l i)) l.length 0 with
 |none=>
  have h:=fun j=>qfr _ _ _ j hq
  simp only;apply List.findIdx_eq_length.2;intro x hx;obtain⟨j,hj⟩:=List.mem_iff_getElem?.1 hx;have hlt:j<l.length:=(List.getElem?_eq_some_iff.1 hj).1;have:=h j (Nat.zero_le _) (by omega);simpa[iAt,hj]using this
 |some j=>
  obtain⟨h1,h2,h3⟩:=qdj _ _ _ _ hq;simp only;have hlt:j<l.length:=by omega
  rw[List.findIdx_eq hlt];refine⟨by rw[qcy hlt];exact h3,fun i hi=> ?_⟩;have hi':i<l.length:=by omega
  rw[qcy hi'];exact qhO _ _ _ _ hq i (Nat.zero_le _) hi
section
variable (X:XEnv)
theorem qvh(hn:X.nat 56=none)(hc:X.env.code 56=some v56)(ht:X.lin 56=[])(l:List Int)(n:Int)(B:qaj)(hl:l.length<=140737488355328)(hb56:X.env.base 56=none:=by first|rfl|assumption):
 qac X 56 [.d (is l),.d (.int .i64 n)] B=some (.d (.int .i64 (qdK (qaq (fun i=>n==iAt l i) l.length 0))),B):=by
 rw[qar X _ _ _ v56 hn hc rfl];have h:=qaA (X:=X) (T:=[]) (L:=B.length) (live:=[0,1,7,8]) (b:=qwD) (n:=l.length) (st:=fun(_:Unit) i=>⟨[(0,.d (is l)),(1,.d (.int .i64 n)),(7,.d (.int .i64 l.length)),(8,.d (.int .i64 i))],B⟩) (step:=qcs fun i=>n==iAt l i)
  (F:=fun _=>(.exit 0,⟨[(0,.d (is l)),(1,.d (.int .i64 n)),(7,.d (.int .i64 l.length)),(8,.d (.int .i64 l.length)),(9,.d (.bool false))],B⟩)) (R:=fun(j:Nat)=>(.ret,⟨[(4,.d (.int .i64 j))],B⟩))
  (fun a=>⟨by simp,by simp[qwD,qra,qq9,qq8,qq7,qq6,qq5,qq4,qq3]⟩)
  (fun a i hi=>by
   have hw:=qax (n:=i) (by omega);unfold qcs
   by_cases hq:(n==iAt l i)=true
   ·rw[if_pos hq]
    exact⟨by simp,by simp[qwD,qra,qq9,qq8,qq7,qq6,qq5,qq4,qq3,hi,hw,cut,qcy hi,hq]⟩
   ·rw[if_neg hq]
    have hq':(n==iAt l i)=false:=by simpa using hq
    exact⟨_,by simp[qwD,qra,qq9,qq8,qq7,qq6,qq5,qq4,qq3,hi,hw,cut,qcy hi,hq'];rfl,by simp[qai,qab]⟩)
  l.length () 0 ⟨[(0,.d (is l)),(1,.d (.int .i64 n)),(7,.d (.int .i64 l.length)),(8,.d (.int .i64 0))],B⟩ (by omega) (by simp[qai,qab])
 rw[qo1]at h;simp[v56,qra,qq9,qq8,qq7,qq6,qq5,qq4,qq3,ht];rw[h];cases hq:qaq (fun i=>n==iAt l i) l.length 0<;>simp[qdK,v56,qra,qq9,qq8,qq7,qq6,qq5,qq4,qq3]
theorem qlB(hn:X.nat 47=none)(hc:X.env.code 47=some v47)(ht:X.lin 47=[])(l:List Int)(fk:Nat)(caps:List AV)(B:qaj)(P:Int->Bool)(hl:l.length<=140737488355328)(hs:AV.safe.safes B.length caps=true)(hcc:caps.map AV.clr=caps)(hk:X.lin fk=[])
 (hf:∀s,s∈l->qac X fk (.d (.int .i64 s)::caps) B=some (.d (.bool (P s)),B)) (hb47:X.env.base 47=none:=by first|rfl|assumption):
 qac X 47 [.d (is l),.fn fk caps] B=some (.d (.int .i64 (qdK (qaq (fun i=>P (iAt l i)) l.length 0))),B):=by
 rw[qar X _ _ _ v47 hn hc rfl];have h:=qaA (X:=X) (T:=[]) (L:=B.length) (live:=[0,1,7,8]) (b:=qwF) (n:=l.length) (st:=fun(_:Unit) i=>⟨[(0,.d (is l)),(1,.fn fk caps),(7,.d (.int .i64 l.length)),(8,.d (.int .i64 i))],B⟩) (step:=qcs fun i=>P (iAt l i))
  (F:=fun _=>(.exit 0,⟨[(0,.d (is l)),(1,.fn fk caps),(7,.d (.int .i64 l.length)),(8,.d (.int .i64 l.length)),(9,.d (.bool false))],B⟩)) (R:=fun(j:Nat)=>(.ret,⟨[(4,.d (.int .i64 j))],B⟩))
  (fun a=>⟨by simp,by simp[qwF,qri,qrh,qrg,qrf,qre,qrd,qrc,qrb,hcc]⟩)
  (fun a i hi=>by
   have hw:=qax (n:=i) (by omega);have hc:=hf (iAt l i) (by rw[<-qcy hi];exact List.getElem_mem hi);unfold qcs
   by_cases hq:P (iAt l i)=true
   ·rw[if_pos hq];rw[hq]at hc
    exact⟨by simp,by simp[qwF,qri,qrh,qrg,qrf,qre,qrd,qrc,qrb,hi,hw,cut,qcy hi,hc,hcc,hk]⟩
   ·rw[if_neg hq]
    have hq':P (iAt l i)=false:=by simpa using hq
    rw[hq']at hc;exact⟨_,by simp[qwF,qri,qrh,qrg,qrf,qre,qrd,qrc,qrb,hi,hw,cut,qcy hi,hc,hcc,hk];rfl,by simp[qai,qab,hs]⟩)
  l.length () 0 ⟨[(0,.d (is l)),(1,.fn fk caps),(7,.d (.int .i64 l.length)),(8,.d (.int .i64 0))],B⟩ (by omega) (by simp[qai,qab,hs])
 rw[qo1]at h;simp[v47,qri,qrh,qrg,qrf,qre,qrd,qrc,qrb,hcc,ht];rw[h];cases hq:qaq (fun i=>P (iAt l i)) l.length 0<;>simp[qdK,v47,qri,qrh,qrg,qrf,qre,qrd,qrc,qrb]
theorem qnh(hn:X.nat 55=none)(hc:X.env.code 55=some v55)(ht:X.lin 55=[])(hn':X.nat 56=none)(hc':X.env.code 56=some v56)(ht':X.lin 56=[])(l:List Int)(n:Int)(hl:l.length<=140737488355328)(hb55:X.env.base 55=none:=by first|rfl|assumption)(hb56:X.env.base 56=none:=by first|rfl|assumption):
 qac X 55 [.d (is l),.d (.int .i64 n)] []=some (.d (.bool (l.contains n)),[]):=by
 rw[qar X _ _ _ v55 hn hc rfl];have h:=qvh X hn' hc' ht' l n [] hl;have hf:=qfe l n;simp[v55,qEL,qEK,ht,h];simpa using hf
theorem quX(hn0:X.nat 54=none)(hc0:X.env.code 54=some v54)(ht0:X.lin 54=[])(hn:X.nat 55=none)(hc:X.env.code 55=some v55)(ht:X.lin 55=[])(hn':X.nat 56=none)(hc':X.env.code 56=some v56)(ht':X.lin 56=[])(l:List Int)(n:Int)(hl:l.length<=140737488355328)(hb54:X.env.base 54=none:=by first|rfl|assumption)(hb55:X.env.base 55=none:=by first|rfl|assumption)(hb56:X.env.base 56=none:=by first|rfl|assumption):
 qac X 54 [.d (is l),.d (.int .i64 n)] []=some (.d (.bool (l.contains n)),[]):=by
 rw[qar X _ _ _ v54 hn0 hc0 rfl];have h:=qnh X hn hc ht hn' hc' ht' l n hl;simp[v54,qEN,qEM,ht0,h]
theorem qGc(hn:X.nat 108=none)(hc:X.env.code 108=some qzl)(ht:X.lin 108=[])(x n:Int)(hb108:X.env.base 108=none:=by first|rfl|assumption):qac X 108 [.d (.int .i64 x),.ptr 0 0] [some [.d (.int .i64 n)]]=some (.d (.bool (decide (x>n))),[some [.d (.int .i64 n)]]):=by
 rw[qar X _ _ _ qzl hn hc rfl];simp[qzl,qzX,qzW,ht]
theorem qow(hn:X.nat 47=none)(hc:X.env.code 47=some v47)(ht:X.lin 47=[])(hn':X.nat 108=none)(hc':X.env.code 108=some qzl)(ht':X.lin 108=[])(l:List Int)(n:Int)(hl:l.length<=140737488355328)(hb47:X.env.base 47=none:=by first|rfl|assumption)(hb108:X.env.base 108=none:=by first|rfl|assumption):
 qac X 47 [.d (is l),.fn 108 [.ptr 0 0]] [some [.d (.int .i64 n)]]=some (.d (.int .i64 (qdK (qaq (fun i=>decide (iAt l i>n)) l.length 0))),[some [.d (.int .i64 n)]]):=
 qlB X hn hc ht l 108 [.ptr 0 0] [some [.d (.int .i64 n)]] (fun x=>decide (x>n)) hl (by simp[qoZ,qiy,qgQ]) rfl ht' (fun s _=>qGc X hn' hc' ht' s n)
end
end Go.Proofs.Ytfiakfiocdfpbaa.VS
namespace Go.Proofs.Ytfiakfiocdfpbaa.VS
def qer(ks:List T)(i:Nat):Nat:=(ks.length-i)+T.inners (ks.drop i)
theorem qiB(ks:List T):qer ks 0=ks.length+T.inners ks:=by simp[qer]
theorem qiC{ks:List T}{i:Nat}(h:i<ks.length):qer ks i=(tAt ks i).inner+1+qer ks (i+1):=by
 unfold qer;rw[List.drop_eq_getElem_cons h,qaF h];simp only[T.inners];omega
mutual
theorem qp2{σ:Type}{I:Nat->σ->Prop}{e:T->σ->σ}(hI:∀n s x,I (n+1) s->I n (e x s)):∀(t:T) (n:Nat) (s:σ),I (t.inner+1+n) s->I n (T.fold e t s)
 | .node f v ks,n,s,h=>by
  simp only[T.inner]at h;simp only[T.fold];exact qvE hI ks n _ (hI _ _ _ (by rw[show ks.length+T.inners ks+n+1=ks.length+T.inners ks+1+n by omega];exact h))
theorem qvE{σ:Type}{I:Nat->σ->Prop}{e:T->σ->σ}(hI:∀n s x,I (n+1) s->I n (e x s)):∀(l:List T) (n:Nat) (s:σ),I (l.length+T.inners l+n) s->I n (T.folds e l s)
 | [],n,s,h=>by simpa[T.folds,T.inners]using h
 |t::r,n,s,h=>by
  simp only[T.folds];simp only[List.length_cons,T.inners]at h;exact qvE hI r n _ (qp2 hI t _ s (by rw[show t.inner+1+(r.length+T.inners r+n)=r.length+1+(t.inner+T.inners r)+n by omega];exact h))
end
theorem qyW{σ:Type}(I:Nat->σ->Prop)(st:σ->qaj)(e:T->σ->σ)(k:Nat)(caps:List AV)(m:Nat)(hm:∀s,(st s).length=m)(hcs:∀n,m<=n->AV.safe.safes n caps=true)(hcc:caps.map AV.clr=caps)(hk:¬0∈XV.lin k)
 (hI:∀n s x,I (n+1) s->I n (e x s)) (f v:Int) (ks:List T) (hl:ks.length<=1099511627776)
 (hf:∀(x:T) (s:σ) (r:qaj) (n:Nat),I (n+1) s->qac XV k (.d (x.enc .sub)::caps) (st s++r)=some (.d (.tup []),st (e x s)++r))
 (hrec:∀x,x∈ks->∀(s:σ) (r:qaj) (n:Nat),I (x.inner+1+n) s->qac XV 25 [.d (x.enc .sub),.fn k caps] (st s++r)=some (.d (.tup []),st (T.fold e x s)++r)) (s:σ) (r:qaj) (n0:Nat) (h0:I (ks.length+T.inners ks+1+n0) s):
 qac XV 25 [.d ((T.node f v ks).enc .sub),.fn k caps] (st s++r)=some (.d (.tup []),st (T.fold e (.node f v ks) s)++r):=by
 rw[qar XV _ _ _ v25 rfl qoS rfl];have h1I:I (ks.length+T.inners ks+n0) (e (.node f v ks) s):=hI _ _ _ (by rw[show ks.length+T.inners ks+n0+1=ks.length+T.inners ks+1+n0 by omega];exact h0);have hf1:=hf (.node f v ks) s (r++[some [.d (.int .i64 f),.d (.int .i64 v),.d (qak .sub ks)]]) (ks.length+T.inners ks+n0) (by rw[show ks.length+T.inners ks+n0+1=ks.length+T.inners ks+1+n0 by omega];exact h0);have len:∀s,(st s++r).length=m+r.length:=fun s=>by simp[hm]
 have hloop:=qgd (X:=XV) (T:=XV.lin 25) (L:=m+r.length+1) (live:=[1,10,11,12]) (b:=qoL) (n:=ks.length) (γ:=Unit) (st:=fun(s:σ) i=>⟨[(1,.fn k caps),(10,.d (qak .sub ks)),(11,.d (.int .i64 ks.length)),(12,.d (.int .i64 i))],(st s++r)++[some [.d (.int .i64 f),.d (.int .i64 v),.d (qak .sub ks)]]⟩) (step:=qkX e ks)
  (F:=fun s=>(.exit 0,⟨[(1,.fn k caps),(10,.d (qak .sub ks)),(11,.d (.int .i64 ks.length)),(12,.d (.int .i64 ks.length)),(13,.d (.bool false))],(st s++r)++[some [.d (.int .i64 f),.d (.int .i64 v),.d (qak .sub ks)]]⟩)) (R:=fun _=>(.ret,⟨[],[]⟩))
  (fun s i=>I (qer ks i+n0) s)
  (fun s _=>⟨by simp,by simp[qoL,qun,hcc]⟩)
  (fun s i hi hIn=>by
   have hsplit:=qiC hi;rw[show qer ks i+n0=(tAt ks i).inner+1+(qer ks (i+1)+n0)by omega]at hIn;have hnext:=qp2 hI (tAt ks i) _ s hIn;refine⟨?_,fun a' ha'=>by unfold qkX at ha';simp only[Sum.inl.injEq]at ha';subst ha';exact hnext⟩;have hw:=qax (n:=i) (by omega);have hr:=hrec _ (qaT hi) s (r++[some [.d (.int .i64 f),.d (.int .i64 v),.d (qak .sub ks)],some [.d (.int .i64 (tAt ks i).f),.d (.int .i64 (tAt ks i).v),.d (qak .sub (tAt ks i).kids)]]) _ hIn;have hln:=len s;have hln2:=len (T.fold e (tAt ks i) s);simp only[<-List.append_assoc]at hr;generalize hB:st s++r=B at hr hln;generalize hB':st (T.fold e (tAt ks i) s)++r=B' at hr hln2;unfold qkX;refine⟨⟨[(1,.fn k caps),(10,.d (qak .sub ks)),(11,.d (.int .i64 ks.length)),(12,.d (.int .i64 (i+1:Nat)))],B'++[some [.d (.int .i64 f),.d (.int .i64 v),.d (qak .sub ks)],some [.d (.int .i64 (tAt ks i).f),.d (.int .i64 (tAt ks i).v),.d (qak .sub (tAt ks i).kids)]]⟩,?_,?_⟩
   ·simp[qoL,qun,qBV,qBU,qBT,hi,hw,cut,qaF hi,hcc,hr,qoY,get_at,qtT,qvp,splice]
   ·refine qdu (e:=[some [.d (.int .i64 (tAt ks i).f),.d (.int .i64 (tAt ks i).v),.d (qak .sub (tAt ks i).kids)]]) (by simp) (by simp[qab,hcs _ (show m<=m+r.length+1 by omega)]) (by simp[hln2,hB']) (by simp[<-hB']))
  ks.length (e (.node f v ks) s) 0 ⟨[(1,.fn k caps),(10,.d (qak .sub ks)),(11,.d (.int .i64 ks.length)),(12,.d (.int .i64 0))],(st (e (.node f v ks) s)++r)++[some [.d (.int .i64 f),.d (.int .i64 v),.d (qak .sub ks)]]⟩ (by omega) (by rw[qiB];exact h1I) (qdu (e:=[]) (by simp) (by simp[qab,hcs _ (show m<=m+r.length+1 by omega)]) (by simp[hm];omega) (by simp))
 rw[qG6 e ks _ _ _ (by omega)]at hloop;simp only[List.drop_zero]at hloop;have hl0:=len s;have hl1:=len (e (.node f v ks) s);have hl2:(st (T.fold e (.node f v ks) s)++r).length=m+r.length:=len _;have hfin:T.folds e ks (e (.node f v ks) s)=T.fold e (.node f v ks) s:=by simp[T.fold]
 rw[hfin]at hloop;simp only[<-List.append_assoc]at hf1;generalize hB0:st s++r=B0 at hf1 hl0;generalize hB1:st (e (.node f v ks) s)++r=B1 at hf1 hl1 hloop;generalize hB2:st (T.fold e (.node f v ks) s)++r=B2 at hl2 hloop;have hlen:B1.length=B0.length:=by omega
 rw[<-hl1]at hloop;simp only[qak,qAf]at hf1 hloop;simp[v25,qBY,qBX,qBW,qoY,get_at,hf1,hcc,hk,hlen.symm];rw[hloop];simp[show B1.length=B2.length by omega]
theorem qp8{σ:Type}(I:Nat->σ->Prop)(st:σ->qaj)(e:T->σ->σ)(k:Nat)(caps:List AV)(m:Nat)(hm:∀s,(st s).length=m)(hcs:∀n,m<=n->AV.safe.safes n caps=true)(hcc:caps.map AV.clr=caps)(hk:¬0∈XV.lin k)
 (hI:∀n s x,I (n+1) s->I n (e x s)) (hf:∀(x:T) (s:σ) (r:qaj) (n:Nat),I (n+1) s->qac XV k (.d (x.enc .sub)::caps) (st s++r)=some (.d (.tup []),st (e x s)++r)) (t:T) (ht:t.inner<=1099511627776) (s:σ) (r:qaj) (n:Nat) (h0:I (t.inner+1+n) s):
 qac XV 25 [.d (t.enc .sub),.fn k caps] (st s++r)=some (.d (.tup []),st (T.fold e t s)++r):=by
 match t,ht with
 | .node f v ks,ht=>
  simp only[T.inner]at ht h0;exact qyW I st e k caps m hm hcs hcc hk hI f v ks (by omega) hf (fun x hx s r n hn=>qp8 I st e k caps m hm hcs hcc hk hI hf x (by have:=T.qaD hx;omega) s r n hn) s r n h0
termination_by t
decreasing_by
 simp_wf
 have:=List.sizeOf_lt_of_mem hx;omega
theorem qxb:XV.nat 106=some qdy:=rfl
theorem qlE(g:Tag)(l:List Int)(n:Int)(B:qaj)(hl:l.length<=1099511627777):qac XV 106 [.d (.sl g (l.map (.int .i64))),.d (.int .i64 n)] B=some (.d (.sl U ((qaN l n).map (.int .i64))),B):=by
 rw[qwt XV 106 _ _ _ qxb];have h:(l.length+1)*8<=140737488355328:=by omega
 simp[qaB,qdy,qg6,h,U]
theorem qoj(l:List Int)(n:Int):(qaN l n).length<=l.length+1:=by
 unfold qaN;split
 ·omega
 ·simp[qlu];have:=List.findIdx_le_length (p:=fun x=>decide (x>n)) (xs:=l);omega
theorem qmk(l:List Int)(n:Int)(hl:l.length<=2199023255552):qac XV 53 [.d (is l),.d (.int .i64 n)] []=some (.d (.bool (l.contains n)),[]):=by
 rw[qar XV _ _ _ v53 rfl qxv rfl];have h:=qaA (X:=XV) (T:=[]) (L:=0) (live:=[0,1,5]) (b:=qwE) (n:=l.length) (st:=fun(_:Unit) i=>⟨[(0,.d (is l)),(1,.d (.int .i64 n)),(5,.d (.int .i64 i))],[]⟩) (step:=qcs fun i=>iAt l i==n)
  (F:=fun _=>(.exit 0,⟨[(0,.d (is l)),(1,.d (.int .i64 n)),(5,.d (.int .i64 l.length)),(9,.d (.bool false))],[]⟩)) (R:=fun(j:Nat)=>(.ret,⟨[(4,.d (.bool true))],[]⟩))
  (fun a=>⟨by simp,by simp[qwE,qn8,qn7,qn6,qn4,qn3,qn5,qn2]⟩)
  (fun a i hi=>by
   have hw:=qax (n:=i) (by omega);unfold qcs
   by_cases hq:(iAt l i==n)=true
   ·rw[if_pos hq]
    exact⟨by simp,by simp[qwE,qn8,qn7,qn6,qn4,qn3,qn5,qn2,hi,hw,cut,qcy hi,hq]⟩
   ·rw[if_neg hq]
    have hq':(iAt l i==n)=false:=by simpa using hq
    exact⟨_,by simp[qwE,qn8,qn7,qn6,qn4,qn3,qn5,qn2,hi,hw,cut,qcy hi,hq'];rfl,by simp[qai,qab]⟩)
  l.length () 0 ⟨[(0,.d (is l)),(1,.d (.int .i64 n)),(5,.d (.int .i64 0))],[]⟩ (by omega) (by simp[qai,qab])
 rw[qo1]at h;have hc:=qfe l n;have hcomm:(fun i=>n==iAt l i)=fun i=>iAt l i==n:=by funext i;exact Bool.beq_comm
 rw[hcomm]at hc;simp[v53,qn8,qn7,qn6,qn4,qn3,qn5,qn2];rw[h];cases hq:qaq (fun i=>iAt l i==n) l.length 0 with
 |none=>rw[hq]at hc;simp[qdK]at hc;simp[v53,qn8,qn7,qn6,qn4,qn3,qn5,qn2,hc]
 |some j=>rw[hq]at hc;simp[qdK]at hc;simp[v53,qn8,qn7,qn6,qn4,qn3,qn5,qn2,hc]
theorem qwM(l:List Int):(l.map (DV.int .i64)).all (fun e=>decide (e.cells.length=1))=true:=by simp[qjC]
theorem qzd(l:List Int):(l.map (DV.int .i64)).all (fun e=>decide (e.cells.length=1/\e.cells.all DV.isCell=true))=true:=by simp[qjC,qad]
theorem qij(a b:List Int)(g:Tag)(h:(a.length+b.length)*8<=140737488355328):qbl 1 8 (.sl U (a.map (.int .i64))) (.sl g (b.map (.int .i64)))=some (.sl U ((a++b).map (.int .i64))):=by
 unfold qbl;simp only;rw[if_pos (qzd b)];cases b with
 |nil=>simp
 |cons x r=>
  simp only[List.map_cons,List.isEmpty_cons,Bool.false_eq_true,if_false];rw[if_pos ⟨by simpa using h,trivial,qwM a⟩];simp
theorem qkZ(l:List Int)(n:Int)(hl:l.length<=2199023255552):qac XV 112 [.d (is l),.d (.int .i64 n)] []=some (.d (.sl U ((qaN l n).map (.int .i64))),[]):=by
 rw[qar XV _ _ _ qzk rfl qtn rfl];have hin:=qmk l n hl
 by_cases hc:l.contains n=true
 ·rw[hc]at hin
  have ha:=qij [] l .sub (by simp;omega);have hr:qaN l n=l:=by unfold qaN;rw[if_pos hc]
  simp only[List.map_nil,List.nil_append]at ha;rw[hr];simp[qzk,qiY,qiX,qiW,qiV,qiU,qiT,qiS,qiR,qiQ,hin,ha]
 ·have hc':l.contains n=false:=by simpa using hc
  rw[hc']at hin;have h:=qaA (X:=XV) (T:=XV.lin 112) (L:=0) (live:=[0,1,5]) (b:=qkE) (n:=l.length) (st:=fun(_:Unit) i=>⟨[(0,.d (is l)),(1,.d (.int .i64 n)),(5,.d (.int .i64 i))],[]⟩) (step:=qcs fun i=> !decide (iAt l i<n))
   (F:=fun _=>(.exit 0,⟨[(0,.d (is l)),(1,.d (.int .i64 n)),(5,.d (.int .i64 l.length)),(24,.d (.bool false))],[]⟩)) (R:=fun(j:Nat)=>(.exit 0,⟨[(0,.d (is l)),(1,.d (.int .i64 n)),(5,.d (.int .i64 j)),(24,.d (.bool false))],[]⟩))
   (fun a=>⟨by simp,by simp[qkE,qiY,qiX,qiW,qiV,qiU,qiT,qiS,qiR,qiQ]⟩)
   (fun a i hi=>by
    have hw:=qax (n:=i) (by omega);unfold qcs
    by_cases hq:iAt l i<n
    ·rw[if_neg (by simp[hq])]
     exact⟨_,by simp[qkE,qiY,qiX,qiW,qiV,qiU,qiT,qiS,qiR,qiQ,hi,hw,cut,qcy hi,hq];rfl,by simp[qai,qab]⟩
    ·rw[if_pos (by simp[hq])]
     exact⟨by simp,by simp[qkE,qiY,qiX,qiW,qiV,qiU,qiT,qiS,qiR,qiQ,hi,hw,cut,qcy hi,hq]⟩)
   l.length () 0 ⟨[(0,.d (is l)),(1,.d (.int .i64 n)),(5,.d (.int .i64 0))],[]⟩ (by omega) (by simp[qai,qab])
  rw[qo1]at h;have hat:∃at_:Nat,at_=qlu l n/\at_<=l.length/\qdM XV (XV.lin 112) 0 [0,1,5] qkE ⟨[(0,.d (is l)),(1,.d (.int .i64 n)),(5,.d (.int .i64 0))],[]⟩=some (.exit 0,⟨[(0,.d (is l)),(1,.d (.int .i64 n)),(5,.d (.int .i64 at_)),(24,.d (.bool false))],[]⟩):=by
   have hq:qlu l n=match qaq (fun i=> !decide (iAt l i<n)) l.length 0 with|some j=>j|none=>l.length:=by
    unfold qlu;rw[qdC];have:qaq (fun i=>decide (iAt l i>n)) l.length 0=qaq (fun i=> !decide (iAt l i<n)) l.length 0:=by
     refine qhP _ _ _ _ fun j h1 h2=> ?_
     have hlt:j<l.length:=by omega
     have hne:iAt l j≠n:=by
      intro he;rw[<-qcy hlt]at he;rw[<-he]at hc';have:=List.getElem_mem hlt;rw[<-List.contains_iff_mem]at this;rw[hc']at this;simp at this
     rw[Bool.eq_iff_iff];simp;omega
    rw[this]
    try (cases qaq (fun i=> !decide (iAt l i<n)) l.length 0<;>rfl)
   refine⟨qlu l n,rfl,List.findIdx_le_length,?_⟩;rw[h,hq];cases qaq (fun i=> !decide (iAt l i<n)) l.length 0<;>rfl
  obtain⟨k,hk,hkl,hloop⟩:=hat;have hr:qaN l n=l.take k++[n]++l.drop k:=by unfold qaN;rw[if_neg hc,<-hk];simp
  have a1:=qij [] (l.take k) .sub (by simp;omega);have a2:=qij (l.take k) [n] U (by simp;omega);have a3:=qij (l.take k++[n]) (l.drop k) .sub (by simp;omega);simp only[List.map_nil,List.nil_append,List.map_take,List.map_drop,List.map_append,List.map_cons]at a1 a2 a3;rw[hr];have hal:=qwM l;have hk0:(k:Int)<=l.length:=by omega
  simp only[qCf]at hloop;simp[qzk,qiY,qiX,qiW,qiV,qiU,qiT,qiS,qiR,qiQ,hin];rw[hloop];have ht:List.take l.length (l.map (DV.int .i64))=l.map (DV.int .i64):=List.take_of_length_le (by simp);simp[qzk,qiY,qiX,qiW,qiV,qiU,qiT,qiS,qiR,qiQ,hal,hkl,hk0,a1,a2,a3,ht]
def eV(x:T)(l:List Int):List Int:=if x.f= -1 then qaN l x.v else l
def IV(n:Nat)(l:List Int):Prop:=l.length+n<=1099511627778
theorem qHd(n:Nat)(l:List Int)(x:T)(h:IV (n+1) l):IV n (eV x l):=by
 unfold IV eV at*
 have:=qoj l x.v;split<;>omega
def qc2(t:T):List Int:=T.fold eV t []
theorem qmc(t:T)(ht:t.inner<=1099511627776):(qc2 t).length<=1099511627778:=by
 have:=qp2 (I:=IV) qHd t 0 [] (by simp[IV];omega);unfold IV at this;exact this
theorem qgi(t:T)(ht:t.inner<=1099511627776):qac XV 104 [.d (t.enc .sub)] []=some (.d (.sl U ((qc2 t).map (.int .i64))),[]):=by
 rw[qar XV _ _ _ qDh rfl qtr rfl];have key:=qp8 IV (fun l:List Int=>[some [.d (.int .i64 t.f),.d (.int .i64 t.v),.d (qak .sub t.kids)],some [.d (.sl U (l.map (.int .i64)))]]) eV 105 [.ptr 1 0] 2 (fun _=>rfl) (fun n hn=>by simp;omega) rfl (by simp) qHd (fun x l r n hn=>by
  rw[qar XV _ _ _ qBm rfl qtq rfl];obtain⟨xf,xv,xk⟩:=x;have hv:=qly (.node xf xv xk);simp only[T.qdq]at hv;have hle:l.length<=1099511627777:=by unfold IV at hn;omega
  unfold eV;simp only[T.qdq,T.qfk]
  by_cases h1:xf= -1
  ·subst h1
   simp only[BEq.rfl]at hv;have ha:=qlE .sub l xv [] hle;simp[qBm,quR,quQ,quP,hv,splice,ha]
  ·have b1:(xf== -1)=false:=by simp[h1]
   rw[b1]at hv;simp[qBm,quR,quQ,quP,hv,h1,splice]) t ht [] [] 0 (by simp[IV];omega)
 simp only[List.append_nil,qak,List.map_nil]at key;simp[qDh,qz1,qz0,qzZ,qzY,splice,key,qc2]
theorem qnU(f v:Int)(ks:List T)(hl:ks.length<=1099511627776)(n0:Nat)
 (hrec:∀s,s∈ks->∀(l:List Int) (n:Nat),IV (s.inner+1+n) l->qac XV 111 [.d (s.enc .sub),.d (is l)] []=some (.d (is (T.fold eV s l)),[])) (l:List Int) (h0:IV (ks.length+T.inners ks+1+n0) l):
 qac XV 111 [.d ((T.node f v ks).enc .sub),.d (is l)] []=some (.d (is (T.fold eV (.node f v ks) l)),[]):=by
 rw[qar XV _ _ _ qxS rfl qto rfl];have h1I:IV (ks.length+T.inners ks+n0) (eV (.node f v ks) l):=qHd _ _ _ (by rw[show ks.length+T.inners ks+n0+1=ks.length+T.inners ks+1+n0 by omega];exact h0);have h:=qgd (X:=XV) (T:=XV.lin 111) (L:=1) (live:=[1,2,5]) (b:=qqt) (n:=ks.length) (γ:=Unit) (st:=fun(l:List Int) i=>⟨[(1,.d (is l)),(2,.ptr 0 0),(5,.d (.int .i64 i))],[some [.d (.int .i64 f),.d (.int .i64 v),.d (qak .sub ks)]]⟩) (step:=qkX eV ks)
  (F:=fun l=>(.exit 0,⟨[(1,.d (is l)),(2,.ptr 0 0),(5,.d (.int .i64 ks.length)),(17,.d (.bool false))],[some [.d (.int .i64 f),.d (.int .i64 v),.d (qak .sub ks)]]⟩)) (R:=fun r=>(.ret,⟨[],[]⟩))
  (fun l i=>IV (qer ks i+n0) l)
  (fun _ _=>⟨by simp,by simp[qqt,qi6,qi5,qi4,qi3,qi2,qi0,qi1,qiZ]⟩)
  (fun l i hi hIn=>by
   have hw:=qax (n:=i) (by omega);have hsplit:=qiC hi;rw[show qer ks i+n0=(tAt ks i).inner+1+(qer ks (i+1)+n0)by omega]at hIn;have hnext:=qp2 qHd (tAt ks i) _ l hIn;have hc:=hrec _ (qaT hi) l _ hIn;refine⟨?_,fun a' ha'=>by unfold qkX at ha';simp only[Sum.inl.injEq]at ha';subst ha';exact hnext⟩;exact⟨_,by simp[qqt,qi6,qi5,qi4,qi3,qi2,qi0,qi1,qiZ,hi,hw,cut,qaF hi,hc];rfl,by simp[qai,qab]⟩)
  ks.length (eV (.node f v ks) l) 0 ⟨[(1,.d (is (eV (.node f v ks) l))),(2,.ptr 0 0),(5,.d (.int .i64 0))],[some [.d (.int .i64 f),.d (.int .i64 v),.d (qak .sub ks)]]⟩ (by omega) (by rw[qiB];exact h1I) (by simp[qai,qab])
 rw[qG6 eV ks _ _ _ (by omega)]at h;have hfin:T.folds eV ks (eV (.node f v ks) l)=T.fold eV (.node f v ks) l:=by simp[T.fold]
 simp only[List.drop_zero,qak,qCg,hfin]at h;have hle:l.length<=1099511627777:=by unfold IV at h0;omega
 have ha:=qkZ l v (by omega)
 by_cases c1:f= -1
 ·subst c1
  have he:eV (.node (-1) v ks) l=qaN l v:=by simp[eV]
  rw[he]at h;simp[qxS,qi6,qi5,qi4,qi3,qi2,qi0,qi1,qiZ,ha];rw[h];simp[qxS,qi6,qi5,qi4,qi3,qi2,qi0,qi1,qiZ]
 ·have he:eV (.node f v ks) l=l:=by simp[eV,c1]
  have b1:(f== -1)=false:=by simp[c1]
  rw[he]at h;simp[qxS,qi6,qi5,qi4,qi3,qi2,qi0,qi1,qiZ,b1];rw[h];simp[qxS,qi6,qi5,qi4,qi3,qi2,qi0,qi1,qiZ]
theorem qis(t:T)(ht:t.inner<=1099511627776)(l:List Int)(n:Nat)(h0:IV (t.inner+1+n) l):qac XV 111 [.d (t.enc .sub),.d (is l)] []=some (.d (is (T.fold eV t l)),[]):=by
 match t,ht with
 | .node f v ks,ht=>
  simp only[T.inner]at ht h0;exact qnU f v ks (by omega) n (fun s hs l n h=>qis s (by have:=T.qaD hs;omega) l n h) l h0
termination_by t
decreasing_by
 simp_wf
 have:=List.sizeOf_lt_of_mem hs;omega
theorem qfB(t:T)(ht:t.inner<=1099511627776):qac XV 110 [.d (t.enc .sub)] []=some (.d (is (qc2 t)),[]):=by
 rw[qar XV _ _ _ qDg rfl qtp rfl];have h:=qis t ht [] 0 (by simp[IV];omega);obtain⟨f,v,ks⟩:=t;simp only[List.map_nil,is]at h;simp[qDg,qzV,qzU,h,qc2]
theorem qgk(t:T)(ht:t.inner<=1099511627776):qac XV 103 [.d (t.enc .sub)] []=some (.d (.bool ((qc2 t).length==0)),[]):=by
 rw[qar XV _ _ _ qDi rfl qts rfl];have h:=qgi t ht;obtain⟨f,v,ks⟩:=t;simp[qDi,qz3,qz2,h];rw[Bool.eq_iff_iff];simp
theorem qfD(t:T)(ht:t.inner<=1099511627776):qac XV 102 [.d (t.enc .sub)] []=some (.d (.bool ((qc2 t).length==0)),[]):=by
 rw[qar XV _ _ _ qDj rfl qtt rfl];have h:=qfB t ht;obtain⟨f,v,ks⟩:=t;simp[qDj,qz5,qz4,h];rw[Bool.eq_iff_iff];simp
end Go.Proofs.Ytfiakfiocdfpbaa.VS
namespace Go.Proofs.Ytfiakfiocdfpbaa.VS
@[simp high] theorem qDl(l:List Int):(l.map (DV.int .u8)).map DV.clr=l.map (DV.int .u8):=by simp[List.map_map,Function.comp_def]
theorem qGS(bs:List Int):qac XV 133 [.d (.sl .sub (bs.map (.int .u8)))] []=some (.d (.bool (decide (1048576<bs.length))),[]):=by
 rw[qar XV _ _ _ qDf rfl qtk rfl];have h:decide ((1048576:Int)<bs.length)=decide (1048576<bs.length):=by congr 1;apply propext;omega
 simp[qDf,qzT,qzS,h]
end Go.Proofs.Ytfiakfiocdfpbaa.VS
namespace Go.Proofs.Ytfiakfiocdfpbaa.VS
def mk:Nat->Nat->List Int
 |0,_=>[]
 |n+1,k=>(k:Int)::mk n (k+1)
theorem qAn(B:qaj)(n:Nat)(v:DV):AV.frzC B n (.d v)=some v:=by cases n<;>simp only[AV.frzC]
end Go.Proofs.Ytfiakfiocdfpbaa.VS
namespace Go.Proofs.Ytfiakfiocdfpbaa.VS
mutual
def T.nb:T->Nat
 | .node _ _ []=>0
 | .node _ _ (t::r)=>T.nbs (t::r)+1
def T.nbs:List T->Nat
 | []=>0
 |t::r=>t.nb+T.nbs r
end
def qLH(ks:List T):Nat:=if ks=[]then 0 else T.nbs ks+1
def qLF(b:Nat)(ks:List T):AV:=if ks=[]then .d (qak .sub [])else .tsl true (b+T.nbs ks) 3 ks.length
def qzm(b:Nat):List T->List AV
 | []=>[]
 | .node f v ks::r=> .d (.int .i64 f):: .d (.int .i64 v)::qLF b ks::qzm (b+qLH ks) r
mutual
def T.bx(b:Nat):T->qaj
 | .node _ _ []=>[]
 | .node _ _ (t::r)=>T.bxs b (t::r)++[some (qzm b (t::r))]
def T.bxs(b:Nat):List T->qaj
 | []=>[]
 |t::r=>t.bx b++T.bxs (b+t.nb) r
end
def qeh(l:List T):Nat:=l.length+T.inners l
theorem qni(t:T):qeh t.kids=t.inner:=by cases t;simp[qeh,T.inner]
theorem qd4:∀(a c:List T),T.inners (a++c)=T.inners a+T.inners c
 | [],c=>by simp[T.inners]
 |t::r,c=>by simp[T.inners,qd4 r c];omega
theorem qbX(t:T)(l:List T):qeh (t::l)=(t.inner+1)+qeh l:=by unfold qeh;simp[T.inners];omega
theorem qfz(ks:List T)(i:Nat)(hi:i<ks.length):ks.take (i+1)=ks.take i++[tAt ks i]:=by
 rw[<-qaF hi,List.take_append_getElem hi]
theorem qCF(ks:List T)(i:Nat):qeh (ks.take i)<=qeh ks:=by
 have h:qeh (ks.take i++ks.drop i)=qeh (ks.take i)+qeh (ks.drop i):=by unfold qeh;rw[qd4];simp;omega
 rw[List.take_append_drop]at h;omega
end Go.Proofs.Ytfiakfiocdfpbaa.VS
namespace Go.Proofs.Ytfiakfiocdfpbaa.VS
end Go.Proofs.Ytfiakfiocdfpbaa.VS
namespace Go.Proofs.Ytfiakfiocdfpbaa.VS
end Go.Proofs.Ytfiakfiocdfpbaa.VS
namespace Go.Proofs.Ytfiakfiocdfpbaa.VS
def wW(l:List SymL)(x:T):Int:=if qcT l x.f=true/\0<x.kids.length then(x.kids.length:Int)-1 else 1
def qah(f v:Int)(ks:List T):qaj:=[some [.d (.int .i64 f),.d (.int .i64 v),.d (qak .sub ks)]]
theorem qlD(l:List SymL)(hs:l.length<=1099511627776)(f v:Int)(ks:List T)(hl:ks.length<=1099511627776)(hrec:∀s,s∈ks->qac XV 118 [.d (sg l),.d (s.enc .sub)] []=some (.d (.int .i64 (IntKind.i64.wrap (T.sum (wW l) s))),[])):
 qac XV 118 [.d (sg l),.d ((T.node f v ks).enc .sub)] []=some (.d (.int .i64 (IntKind.i64.wrap (T.sum (wW l) (.node f v ks)))),[]):=by
 rw[qar XV _ _ _ qtF rfl qtl rfl];have h:=fun m=>qaA (X:=XV) (T:=XV.lin 118) (L:=1) (live:=[0,5,23,24,25]) (b:=qqr) (n:=ks.length) (γ:=Unit) (st:=fun(m:Int) i=>⟨[(0,.d (sg l)),(5,.d (.int .i64 m)),(23,.d (qak .sub ks)),(24,.d (.int .i64 ks.length)),(25,.d (.int .i64 i))],qah f v ks⟩) (step:=qqN (fun t=>IntKind.i64.wrap (T.sum (wW l) t)) ks)
  (F:=fun m=>(.exit 0,⟨[(0,.d (sg l)),(5,.d (.int .i64 m)),(23,.d (qak .sub ks)),(24,.d (.int .i64 ks.length)),(25,.d (.int .i64 ks.length)),(26,.d (.bool false))],qah f v ks⟩)) (R:=fun r=>(.ret,⟨[],[]⟩))
  (fun _=>⟨by simp,by simp[qqr,qfX,qfW,qfV,qfU,qfT,qfS,qfR,qfQ,qfP,qfO]⟩)
  (fun m i hi=>by
   have hw:=qax (n:=i) (by omega);have hc:=hrec _ (qaT hi);unfold qah;exact⟨_,by simp[qqr,qfX,qfW,qfV,qfU,qfT,qfS,qfR,qfQ,qfP,qfO,hi,hw,cut,qaF hi,hc,splice];rfl,by simp[qai,qab]⟩)
  ks.length (IntKind.i64.wrap m) 0 ⟨[(0,.d (sg l)),(5,.d (.int .i64 (IntKind.i64.wrap m))),(23,.d (qak .sub ks)),(24,.d (.int .i64 ks.length)),(25,.d (.int .i64 0))],qah f v ks⟩ (by omega) (by simp[qai,qab,qah])
 have h':=fun m=>by
  have:=h m;rw[qEc _ _ _ _ _ (by omega)]at this;simpa only[List.drop_zero,qak,qah,qCe]using this
 have hs2:T.sum (wW l) (T.node f v ks)=wW l (.node f v ks)+T.sums (wW l) ks:=by simp[T.sum]
 have hb:=qmV l hs f;have hw1:IntKind.i64.wrap ((ks.length:Int)-1)=ks.length-1:=wrap_i64 (by omega) (by omega);rw[hs2];have h1:=h' 1;rw[show IntKind.i64.wrap 1=1 from rfl]at h1;have h2:=h' (ks.length-1);rw[hw1]at h2;simp only[wW,T.qdq,T.qbb]
 by_cases c1:qcT l f=true
 case neg=>
  have c1':qcT l f=false:=by simpa using c1
  rw[c1']at hb;simp only[c1',Bool.false_eq_true,false_and,if_false];simp[qtF,qfX,qfW,qfV,qfU,qfT,qfS,qfR,qfQ,qfP,qfO,hb];rw[h1];simp[qtF,qfX,qfW,qfV,qfU,qfT,qfS,qfR,qfQ,qfP,qfO]
 case pos=>
  rw[c1]at hb;simp only[c1,true_and]
  by_cases c2:0<ks.length
  ·simp[qtF,qfX,qfW,qfV,qfU,qfT,qfS,qfR,qfQ,qfP,qfO,hb,c2,hw1]
   rw[h2];simp[qtF,qfX,qfW,qfV,qfU,qfT,qfS,qfR,qfQ,qfP,qfO]
  ·simp[qtF,qfX,qfW,qfV,qfU,qfT,qfS,qfR,qfQ,qfP,qfO,hb,c2]
   rw[h1];simp[qtF,qfX,qfW,qfV,qfU,qfT,qfS,qfR,qfQ,qfP,qfO]
theorem qd5(l:List SymL)(hs:l.length<=1099511627776)(t:T)(ht:t.inner<=1099511627776):qac XV 118 [.d (sg l),.d (t.enc .sub)] []=some (.d (.int .i64 (IntKind.i64.wrap (T.sum (wW l) t))),[]):=by
 match t,ht with
 | .node f v ks,ht=>
  simp only[T.inner]at ht;exact qlD l hs f v ks (by omega) (fun s h=>qd5 l hs s (by have:=T.qaD h;omega))
termination_by t
decreasing_by
 simp_wf
 have:=List.sizeOf_lt_of_mem h;omega
theorem qkY(l:List SymL)(hs:l.length<=1099511627776)(f v:Int)(ks:List T)(hl:ks.length<=1099511627776)(hrec:∀s,s∈ks->qac XV 117 [.d (sg l),.d (s.enc .sub)] []=some (.d (.int .i64 (IntKind.i64.wrap (T.sum (wW l) s))),[])):
 qac XV 117 [.d (sg l),.d ((T.node f v ks).enc .sub)] []=some (.d (.int .i64 (IntKind.i64.wrap (T.sum (wW l) (.node f v ks)))),[]):=by
 rw[qar XV _ _ _ qtG rfl qtm rfl];have h:=fun m=>qaA (X:=XV) (T:=[]) (L:=1) (live:=[0,3,5,6]) (b:=qqs) (n:=ks.length) (γ:=Unit) (st:=fun(m:Int) i=>⟨[(0,.d (sg l)),(3,.ptr 0 0),(5,.d (.int .i64 m)),(6,.d (.int .i64 i))],qah f v ks⟩) (step:=qqN (fun t=>IntKind.i64.wrap (T.sum (wW l) t)) ks)
  (F:=fun m=>(.exit 0,⟨[(0,.d (sg l)),(3,.ptr 0 0),(5,.d (.int .i64 m)),(6,.d (.int .i64 ks.length)),(25,.d (.bool false))],qah f v ks⟩)) (R:=fun r=>(.ret,⟨[],[]⟩))
  (fun _=>⟨by simp,by simp[qqs,qf6,qf5,qf4,qf3,qf2,qf1,qfZ,qf0,qfY,qah]⟩)
  (fun m i hi=>by
   have hw:=qax (n:=i) (by omega);have hc:=hrec _ (qaT hi);unfold qah;exact⟨_,by simp[qqs,qf6,qf5,qf4,qf3,qf2,qf1,qfZ,qf0,qfY,hi,hw,cut,qaF hi,hc,splice];rfl,by simp[qai,qab]⟩)
  ks.length (IntKind.i64.wrap m) 0 ⟨[(0,.d (sg l)),(3,.ptr 0 0),(5,.d (.int .i64 (IntKind.i64.wrap m))),(6,.d (.int .i64 0))],qah f v ks⟩ (by omega) (by simp[qai,qab,qah])
 have h':=fun m=>by
  have:=h m;rw[qEc _ _ _ _ _ (by omega)]at this;simpa only[List.drop_zero,qak,qah]using this
 have hs2:T.sum (wW l) (T.node f v ks)=wW l (.node f v ks)+T.sums (wW l) ks:=by simp[T.sum]
 have hb:=qhu l hs f;have hw1:IntKind.i64.wrap ((ks.length:Int)-1)=ks.length-1:=wrap_i64 (by omega) (by omega);rw[hs2];have h1:=h' 1;rw[show IntKind.i64.wrap 1=1 from rfl]at h1;have h2:=h' (ks.length-1);rw[hw1]at h2;simp only[wW,T.qdq,T.qbb]
 by_cases c1:qcT l f=true
 case neg=>
  have c1':qcT l f=false:=by simpa using c1
  rw[c1']at hb;simp only[c1',Bool.false_eq_true,false_and,if_false];simp[qtG,qf6,qf5,qf4,qf3,qf2,qf1,qfZ,qf0,qfY,hb];rw[h1];simp[qtG,qf6,qf5,qf4,qf3,qf2,qf1,qfZ,qf0,qfY]
 case pos=>
  rw[c1]at hb;simp only[c1,true_and]
  by_cases c2:0<ks.length
  ·simp[qtG,qf6,qf5,qf4,qf3,qf2,qf1,qfZ,qf0,qfY,hb,c2,hw1]
   rw[h2];simp[qtG,qf6,qf5,qf4,qf3,qf2,qf1,qfZ,qf0,qfY]
  ·simp[qtG,qf6,qf5,qf4,qf3,qf2,qf1,qfZ,qf0,qfY,hb,c2]
   rw[h1];simp[qtG,qf6,qf5,qf4,qf3,qf2,qf1,qfZ,qf0,qfY]
theorem qdU(l:List SymL)(hs:l.length<=1099511627776)(t:T)(ht:t.inner<=1099511627776):qac XV 117 [.d (sg l),.d (t.enc .sub)] []=some (.d (.int .i64 (IntKind.i64.wrap (T.sum (wW l) t))),[]):=by
 match t,ht with
 | .node f v ks,ht=>
  simp only[T.inner]at ht;exact qkY l hs f v ks (by omega) (fun s h=>qdU l hs s (by have:=T.qaD h;omega))
termination_by t
decreasing_by
 simp_wf
 have:=List.sizeOf_lt_of_mem h;omega
end Go.Proofs.Ytfiakfiocdfpbaa.VS
