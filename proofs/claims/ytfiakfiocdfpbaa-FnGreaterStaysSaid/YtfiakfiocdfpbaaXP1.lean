/- Contracts of the program's functions on the evaluator without names, and plain lemmas: part 1. -/
import Derived.Test.YtfiakfiocdfpbaaLin
set_option linter.unusedSimpArgs false
set_option linter.unusedVariables false
namespace Go.Proofs.Ytfiakfiocdfpbaa.VS
inductive T where
 |node (f v:Int) (kids:List T)
 deriving Inhabited
def T.f:T->Int| .node f _ _=>f
def T.v:T->Int| .node _ v _=>v
def T.kids:T->List T| .node _ _ k=>k
mutual
def T.enc(g:Tag):T->DV
 | .node f v ks=> .agg [.int .i64 f,.int .i64 v,.sl g (T.encs g ks)]
def T.encs(g:Tag):List T->List DV
 | []=>[]
 |t::r=>t.enc g::T.encs g r
end
theorem T.qeb(g:Tag):∀l:List T,T.encs g l=l.map (T.enc g)
 | []=>by unfold T.encs;rfl
 |t::r=>by unfold T.encs;simp[T.qeb g r]
abbrev qai(g:Tag)(l:List T):DV:= .sl g (l.map (T.enc g))
theorem T.qbP(g:Tag)(t:T):t.enc g= .agg [.int .i64 t.f,.int .i64 t.v,qai g t.kids]:=by
 cases t;simp[T.enc,T.qeb,qai,T.f,T.v,T.kids]
@[simp] theorem agg_enc(g:Tag)(f v:Int)(ks:List T):DV.agg [.int .i64 f,.int .i64 v,qai g ks]=(T.node f v ks).enc g:=by
 simp[T.enc,T.qeb,qai]
@[simp] theorem T.eta(t:T):T.node t.f t.v t.kids=t:=by cases t;rfl
@[simp] theorem T.qbv(f v:Int)(k:List T):(T.node f v k).f=f:=rfl
@[simp] theorem T.qcS(f v:Int)(k:List T):(T.node f v k).v=v:=rfl
@[simp] theorem T.qaH(f v:Int)(k:List T):(T.node f v k).kids=k:=rfl
@[simp] theorem T.qre(g:Tag)(t:T):(t.enc g).cells=[.int .i64 t.f,.int .i64 t.v,qai g t.kids]:=by rw[T.qbP];rfl
@[simp] theorem T.qnu(g:Tag)(t:T):(AV.d (t.enc g)).cells=[.d (.int .i64 t.f),.d (.int .i64 t.v),.d (qai g t.kids)]:=by rw[T.qbP];rfl
@[simp] theorem T.qnt(g:Tag)(t:T):(t.enc g).isCell=false:=by rw[T.qbP];rfl
mutual
theorem T.qfI(g:Tag):∀t:T,(t.enc g).clr=t.enc .sub
 | .node f v ks=>by simp only[T.enc,DV.clr,DV.clrs,T.qeW g ks]
theorem T.qeW(g:Tag):∀l:List T,DV.clrs (T.encs g l)=T.encs .sub l
 | []=>by simp only[T.encs,DV.clrs]
 |t::r=>by simp only[T.encs,DV.clrs,T.qfI g t,T.qeW g r]
end
attribute [simp] T.qfI
@[simp high] theorem qb2(g:Tag)(l:List T):(l.map (T.enc g)).map DV.clr=l.map (T.enc .sub):=by
 rw[<-T.qeb,<-T.qeb,<-DV.qav,T.qeW]
def tAt(l:List T)(i:Nat):T:=(l[i]?).getD (.node 0 0 [])
theorem qaF{l:List T}{i:Nat}(h:i<l.length):l[i]=tAt l i:=by simp[tAt,h]
theorem qaK{l:List T}{i:Nat}(h:i<l.length):tAt l i∈l:=by rw[<-qaF h];exact List.getElem_mem h
theorem qyY{l:List T}{i:Nat}(h:i<l.length):l[i]?=some (tAt l i):=by simp[tAt,h]
@[simp] theorem qLd(g:Tag){l:List T}{i:Nat}(h:i<l.length):(l.map (T.enc g))[i]?=some ((tAt l i).enc g):=by simp[qyY h]
mutual
def T.inner:T->Nat
 | .node _ _ ks=>ks.length+T.inners ks
def T.inners:List T->Nat
 | []=>0
 |t::r=>t.inner+T.inners r
end
theorem T.qhG(t:T):t.inner=t.kids.length+T.inners t.kids:=by cases t;simp[T.inner]
end Go.Proofs.Ytfiakfiocdfpbaa.VS
namespace Go.Proofs.Ytfiakfiocdfpbaa.VS
mutual
def T.ok:T->Prop
 | .node _ _ ks=>ks.length<=maxLen/\T.oks ks
def T.oks:List T->Prop
 | []=>True
 |t::r=>t.ok/\T.oks r
end
theorem qJq(g:Tag)(l:List T):∀x:DV,x∈l.map (T.enc g)->qG1 true 3 x:=by
 intro x hx;simp only[List.mem_map]at hx;obtain⟨t,_,rfl⟩:=hx;exact⟨by simp,by simp[qaa,qac],fun _=>⟨_,T.qbP g t⟩,by simp⟩
end Go.Proofs.Ytfiakfiocdfpbaa.VS
namespace Go.Proofs.Ytfiakfiocdfpbaa.VS
set_option profiler true
set_option profiler.threshold 2000
theorem T.qaE:∀{l:List T} {t:T},t∈l->t.inner<=T.inners l
 | [],t,h=>by simp at h
 |s::r,t,h=>by
  simp only[T.inners];rcases List.mem_cons.1 h with rfl|h
  ·omega
  ·have:=T.qaE h;omega
mutual
def T.cmp:T->T->Int
 | .node f v ks,.node f' v' ks'=>
  if f<f' then-1 else if f>f' then 1 else if v<v' then-1 else if v>v' then 1 else
  if ks.length<ks'.length then-1 else if ks.length>ks'.length then 1 else T.cmps ks ks'
def T.cmps:List T->List T->Int
 |a::as,b::bs=>if T.cmp a b≠0 then T.cmp a b else T.cmps as bs
 |_,_=>0
end
def qmk(l m:List T)(_:Unit)(i:Nat):Unit⊕Int:=if T.cmp (tAt l i) (tAt m i)≠0 then .inr (T.cmp (tAt l i) (tAt m i))else .inl ()
theorem qLk(l m:List T)(hl:l.length=m.length):∀(k i:Nat),i+k=l.length->runN (qmk l m) k () i=if T.cmps (l.drop i) (m.drop i)=0 then .inl ()else .inr (T.cmps (l.drop i) (m.drop i))
 |0,i,h=>by
  have h1:l.drop i=[]:=List.drop_eq_nil_of_le (by omega);simp[runN,h1,T.cmps]
 |k+1,i,h=>by
  have hlt:i<l.length:=by omega
  have hlt':i<m.length:=by omega
  rw[List.drop_eq_getElem_cons hlt,List.drop_eq_getElem_cons hlt',qaF hlt,qaF hlt'];simp only[runN,qmk,T.cmps]
  by_cases hc:T.cmp (tAt l i) (tAt m i)=0
  ·simp only[hc,ne_eq,not_true_eq_false,if_false]
   exact qLk l m hl k (i+1) (by omega)
  ·simp[hc]
def qfj(a b c d e f:Int)(i:Nat):Int×Int:=if i=0 then(a,b)else if i=1 then(c,d)else(e,f)
def qkc(a b c d e f:Int)(_:Unit)(i:Nat):Unit⊕(Int×(Int×Int)):=if(qfj a b c d e f i).1<(qfj a b c d e f i).2 then .inr (-1,qfj a b c d e f i)else if(qfj a b c d e f i).1>(qfj a b c d e f i).2 then .inr (1,qfj a b c d e f i)else .inl ()
def qeu(f v:Int)(ks:List T)(f' v':Int)(ks':List T):qal:=[some [.d (.int .i64 f),.d (.int .i64 v),.d (qai .sub ks)],some [.d (.int .i64 f'),.d (.int .i64 v'),.d (qai .sub ks')]]
def qw7(a b c d e f:Int):List DV:=[.agg [.int .i64 a,.int .i64 b],.agg [.int .i64 c,.int .i64 d],.agg [.int .i64 e,.int .i64 f]]
theorem quO(a b c d e f:Int)(i:Nat)(hi:i<3):(qw7 a b c d e f)[i]?=some (.agg [.int .i64 (qfj a b c d e f i).1,.int .i64 (qfj a b c d e f i).2]):=by
 match i,hi with
 |0,_=>rfl
 |1,_=>rfl
 |2,_=>rfl
theorem qw1(a b c d e f:Int)(B:qal)(hB:B.length=2):
 qbm XV [] 2 [2,3,26,27,28] qxt ⟨[(2,.ptr 0 0),(3,.ptr 1 0),(26,.d (.sl .sub (qw7 a b c d e f))),(27,.d (.int .i64 3)),(28,.d (.int .i64 0))],B⟩=
  some (match runN (qkc a b c d e f) 3 () 0 with
   | .inl _=>(.exit 0,⟨[(2,.ptr 0 0),(3,.ptr 1 0),(26,.d (.sl .sub (qw7 a b c d e f))),(27,.d (.int .i64 3)),(28,.d (.int .i64 3)),(29,.d (.bool false))],B⟩)
   | .inr r=>(.ret,⟨[(4,.d (.int .i64 r.1))],B++[some [.d (.int .i64 r.2.1),.d (.int .i64 r.2.2)]]⟩)):=by
 obtain⟨x0,x1,rfl⟩:∃x0 x1,B=[x0,x1]:=by
  match B,hB with
  | [x0,x1],_=>exact⟨x0,x1,rfl⟩
 have key:=qau (X:=XV) (T:=[]) (L:=2) (live:=[2,3,26,27,28]) (b:=qxt) (n:=3) (γ:=Int×(Int×Int)) (st:=fun(_:Unit) i=>⟨[(2,.ptr 0 0),(3,.ptr 1 0),(26,.d (.sl .sub (qw7 a b c d e f))),(27,.d (.int .i64 3)),(28,.d (.int .i64 i))],[x0,x1]⟩) (step:=qkc a b c d e f)
  (F:=fun _=>(.exit 0,⟨[(2,.ptr 0 0),(3,.ptr 1 0),(26,.d (.sl .sub (qw7 a b c d e f))),(27,.d (.int .i64 3)),(28,.d (.int .i64 3)),(29,.d (.bool false))],[x0,x1]⟩)) (R:=fun r=>(.ret,⟨[(4,.d (.int .i64 r.1))],[x0,x1]++[some [.d (.int .i64 r.2.1),.d (.int .i64 r.2.2)]]⟩))
  (fun _=>⟨by simp,by simp[qxt,qEB]⟩)
  (fun _ i hi=>by
   have hw:=qan (n:=i) (by omega);have hi':(i:Int)<3:=by omega
   have hb:=quO a b c d e f i hi;unfold qkc;generalize qfj a b c d e f i=q at hb;obtain⟨x,y⟩:=q;simp only at hb⊢
   by_cases h1:x<y
   ·rw[if_pos h1]
    refine⟨by simp,?_⟩;simp[qxt,qEB,qIq,qIp,qIo,hi',hb,cut,h1,qaa,splice,qae,qaf,qar]
   ·rw[if_neg h1]
    by_cases h2:x>y
    ·rw[if_pos h2]
     refine⟨by simp,?_⟩;simp[qxt,qEB,qIq,qIp,qIo,qLD,qLC,hi',hb,cut,h1,h2,qaa,splice,qae,qaf,qar]
    ·rw[if_neg h2]
     refine⟨_,by simp[qxt,qEB,qIq,qIp,qIo,qLD,qLC,qQd,hi',hb,cut,h1,h2,hw,qaa,splice,qae,qaf,qar];rfl,?_⟩;simp[qah,qab])
  3 () 0 ⟨[(2,.ptr 0 0),(3,.ptr 1 0),(26,.d (.sl .sub (qw7 a b c d e f))),(27,.d (.int .i64 3)),(28,.d (.int .i64 0))],[x0,x1]⟩ (by omega) (by simp[qah,qab])
 rw[key];cases runN (qkc a b c d e f) 3 () 0<;>rfl
theorem qw0(f v:Int)(ks:List T)(f' v':Int)(ks':List T)(hl:ks.length<=1099511627776)(hlen:ks.length=ks'.length)
 (hrec:∀s s',s∈ks->s'∈ks'->qad XV 6 [.d (s.enc .sub),.d (s'.enc .sub)] []=some (.d (.int .i64 (T.cmp s s')),[])):
 qbm XV [] 2 [2,3,47,48] qCy ⟨[(2,.ptr 0 0),(3,.ptr 1 0),(47,.d (.int .i64 ks.length)),(48,.d (.int .i64 0))],qeu f v ks f' v' ks'⟩=
  some (if T.cmps ks ks'=0 then(.exit 3,⟨[(2,.ptr 0 0),(3,.ptr 1 0),(47,.d (.int .i64 ks.length)),(48,.d (.int .i64 ks.length)),(49,.d (.bool false))],qeu f v ks f' v' ks'⟩)else(.ret,⟨[(4,.d (.int .i64 (T.cmps ks ks')))],qeu f v ks f' v' ks'⟩)):=by
 have h:=qau (X:=XV) (T:=[]) (L:=2) (live:=[2,3,47,48]) (b:=qCy) (n:=ks.length) (γ:=Int) (st:=fun(_:Unit) i=>⟨[(2,.ptr 0 0),(3,.ptr 1 0),(47,.d (.int .i64 ks.length)),(48,.d (.int .i64 i))],qeu f v ks f' v' ks'⟩) (step:=qmk ks ks')
  (F:=fun _=>(.exit 3,⟨[(2,.ptr 0 0),(3,.ptr 1 0),(47,.d (.int .i64 ks.length)),(48,.d (.int .i64 ks.length)),(49,.d (.bool false))],qeu f v ks f' v' ks'⟩)) (R:=fun r=>(.ret,⟨[(4,.d (.int .i64 r))],qeu f v ks f' v' ks'⟩))
  (fun _=>⟨by simp,by simp[qCy,qrL]⟩)
  (fun _ i hi=>by
   have hw:=qan (n:=i) (by omega);have hi2:i<ks'.length:=by omega
   have hc:=hrec _ _ (qaK hi) (qaK hi2);unfold qmk qeu
   by_cases h0:T.cmp (tAt ks i) (tAt ks' i)=0
   ·rw[h0]at hc⊢
    simp only[ne_eq,not_true_eq_false,if_false];refine⟨_,by simp[qCy,qrL,qzq,qFa,qzp,qzo,qzn,hi,hi2,hw,cut,qaF hi,qaF hi2,hc,qae];rfl,?_⟩;simp[qah,qab]
   ·simp only[ne_eq,h0,not_false_eq_true,if_true]
    have h0':(T.cmp (tAt ks i) (tAt ks' i) !=0)=true:=by simp[h0]
    refine⟨by simp,?_⟩;simp[qCy,qrL,qzq,qFa,qzp,qzo,qzn,hi,hi2,hw,cut,qaF hi,qaF hi2,hc,qae,h0'])
  ks.length () 0 ⟨[(2,.ptr 0 0),(3,.ptr 1 0),(47,.d (.int .i64 ks.length)),(48,.d (.int .i64 0))],qeu f v ks f' v' ks'⟩ (by omega) (by simp[qah,qab,qeu])
 rw[qLk ks ks' hlen _ _ (by omega)]at h;simp only[List.drop_zero]at h;rw[h]
 by_cases h0:T.cmps ks ks'=0<;>simp[h0]
def qqS(a b c d e f:Int)(r:Int):Int:=if a<b then-1 else if a>b then 1 else if c<d then-1 else if c>d then 1 else if e<f then-1 else if e>f then 1 else r
theorem qSI(a b c d e f:Int):(runN (qkc a b c d e f) 3 () 0= .inl ()/\a=b/\c=d/\e=f)\/∃r,runN (qkc a b c d e f) 3 () 0= .inr r/\∀z,qqS a b c d e f z=r.1:=by
 simp only[runN,qkc,qfj,qqS]
 by_cases c1:a<b
 ·right;refine⟨_,by simp[c1];rfl,fun z=> ?_⟩;simp[c1]
 by_cases c2:a>b
 ·right;refine⟨_,by simp[c1,c2];rfl,fun z=> ?_⟩;simp[c1,c2]
 by_cases c3:c<d
 ·right;refine⟨_,by simp[c1,c2,c3];rfl,fun z=> ?_⟩;simp[c1,c2,c3]
 by_cases c4:c>d
 ·right;refine⟨_,by simp[c1,c2,c3,c4];rfl,fun z=> ?_⟩;simp[c1,c2,c3,c4]
 by_cases c5:e<f
 ·right;refine⟨_,by simp[c1,c2,c3,c4,c5];rfl,fun z=> ?_⟩;simp[c1,c2,c3,c4,c5]
 by_cases c6:e>f
 ·right;refine⟨_,by simp[c1,c2,c3,c4,c5,c6];rfl,fun z=> ?_⟩;simp[c1,c2,c3,c4,c5,c6]
 left;exact⟨by simp[c1,c2,c3,c4,c5,c6],by omega,by omega,by omega⟩
theorem qjT(f v:Int)(ks:List T)(f' v':Int)(ks':List T):T.cmp (.node f v ks) (.node f' v' ks')=qqS f f' v v' ks.length ks'.length (T.cmps ks ks'):=by
 simp only[T.cmp,qqS,Int.ofNat_lt,gt_iff_lt]
theorem qwZ(f v:Int)(ks:List T)(f' v':Int)(ks':List T)(hl:ks.length<=1099511627776)(hl':ks'.length<=1099511627776)
 (hrec:∀s s',s∈ks->s'∈ks'->qad XV 6 [.d (s.enc .sub),.d (s'.enc .sub)] []=some (.d (.int .i64 (T.cmp s s')),[])):
 qad XV 6 [.d ((T.node f v ks).enc .sub),.d ((T.node f' v' ks').enc .sub)] []=some (.d (.int .i64 (T.cmp (.node f v ks) (.node f' v' ks'))),[]):=by
 rw[qap XV _ _ _ v6 rfl qxX rfl];have h1:=qw1 f f' v v' ks.length ks'.length (qeu f v ks f' v' ks') rfl;simp[v6,qQf,qQe,qaa,qac,qaf,qar,splice,qae,qaJ,List.replicate];simp only[qw7,qeu]at h1;rw[h1,qjT];rcases qSI f f' v v' ks.length ks'.length with⟨h3,e1,e2,e3⟩|⟨r,h3,h4⟩
 ·rw[h3]
  have hlen:ks.length=ks'.length:=by omega
  have h2:=qw0 f v ks f' v' ks' hl hlen hrec;simp only[qeu]at h2;subst e1;subst e2
  simp[qQc,qae];rw[h2];have h5:qqS f f v v ks.length ks'.length (T.cmps ks ks')=T.cmps ks ks':=by simp[qqS,hlen]
  rw[h5]
  by_cases c7:T.cmps ks ks'=0
  ·simp[c7,qIr]
  ·simp[c7]
 ·rw[h3,h4];simp
theorem qin(a b:T)(ha:a.inner<=1099511627776)(hb:b.inner<=1099511627776):qad XV 6 [.d (a.enc .sub),.d (b.enc .sub)] []=some (.d (.int .i64 (T.cmp a b)),[]):=by
 match a,b,ha,hb with
 | .node f v ks,.node f' v' ks',ha,hb=>
  simp only[T.inner]at ha hb;exact qwZ f v ks f' v' ks' (by omega) (by omega) (fun s s' hs hs'=>qin s s' (by have:=T.qaE hs;omega) (by have:=T.qaE hs';omega))
termination_by a
decreasing_by
 simp_wf
 have:=List.sizeOf_lt_of_mem hs;omega
end Go.Proofs.Ytfiakfiocdfpbaa.VS
namespace Go.Proofs.Ytfiakfiocdfpbaa.VS
theorem cmp_zero(f v:Int)(ks:List T)(f' v':Int)(ks':List T):T.cmp (.node f v ks) (.node f' v' ks')=0↔f=f'/\v=v'/\ks.length=ks'.length/\T.cmps ks ks'=0:=by
 rw[qjT];unfold qqS
 constructor
 ·intro h
  iterate 6 (split at h;·omega)
  exact⟨by omega,by omega,by omega,h⟩
 ·rintro⟨rfl,rfl,h,h'⟩
  simp[h,h']
theorem qrE(f v:Int)(ks:List T)(f' v':Int)(ks':List T)(hl:ks.length<=1099511627776)(hl':ks'.length<=1099511627776)
 (hrec:∀s s',s∈ks->s'∈ks'->qad XV 3 [.d (s.enc .sub),.d (s'.enc .sub)] []=some (.d (.bool (T.cmp s s'==0)),[])):
 qad XV 3 [.d ((T.node f v ks).enc .sub),.d ((T.node f' v' ks').enc .sub)] []=some (.d (.bool (T.cmp (.node f v ks) (.node f' v' ks')==0)),[]):=by
 rw[qap XV _ _ _ v3 rfl qHA rfl];have hz:=cmp_zero f v ks f' v' ks';have ne:¬(f=f'/\v=v'/\ks.length=ks'.length/\T.cmps ks ks'=0)->(T.cmp (.node f v ks) (.node f' v' ks')==0)=false:=fun h=>by
  rw[<-hz]at h;simpa using h
 have hlc:(ks.length:Int)=ks'.length↔ks.length=ks'.length:=by omega
 by_cases c1:f=f'
 case neg=>
  rw[ne (fun h=>c1 h.1)];have b1:(f !=f')=true:=by simp[c1]
  simp[v3,qL1,qL0,qLZ,b1]
 by_cases c2:v=v'
 case neg=>
  rw[ne (fun h=>c2 h.2.1)];have b2:(v !=v')=true:=by simp[c2]
  simp[v3,qL1,qL0,qLZ,c1,b2]
 by_cases c3:ks.length=ks'.length
 case neg=>
  rw[ne (fun h=>c3 h.2.2.1)];have b3:((ks.length:Int) !=ks'.length)=true:=by simp;omega
  simp[v3,qL1,qL0,qLZ,c1,c2,b3]
 have h:=qau (X:=XV) (T:=[]) (L:=2) (live:=[2,3,5]) (b:=qOr) (n:=ks.length) (γ:=Int) (st:=fun(_:Unit) i=>⟨[(2,.ptr 0 0),(3,.ptr 1 0),(5,.d (.int .i64 i))],qeu f v ks f' v' ks'⟩) (step:=qmk ks ks')
  (F:=fun _=>(.exit 0,⟨[(2,.ptr 0 0),(3,.ptr 1 0),(5,.d (.int .i64 ks.length)),(31,.d (.bool false))],qeu f v ks f' v' ks'⟩)) (R:=fun r=>(.ret,⟨[(4,.d (.bool false))],qeu f v ks f' v' ks'⟩))
  (fun _=>⟨by simp,by simp[qOr,qOG,qeu]⟩)
  (fun _ i hi=>by
   have hw:=qan (n:=i) (by omega);have hi2:i<ks'.length:=by omega
   have hc:=hrec _ _ (qaK hi) (qaK hi2);unfold qmk qeu
   by_cases h0:T.cmp (tAt ks i) (tAt ks' i)=0
   ·rw[h0]at hc⊢
    simp only[ne_eq,not_true_eq_false,if_false];refine⟨_,by simp[qOr,qOG,qQj,qTl,qQh,hi,hi2,hw,cut,qaF hi,qaF hi2,hc];rfl,?_⟩;simp[qah,qab]
   ·simp only[ne_eq,h0,not_false_eq_true,if_true]
    have h0':(T.cmp (tAt ks i) (tAt ks' i)==0)=false:=by simp[h0]
    rw[h0']at hc;refine⟨by simp,?_⟩;simp[qOr,qOG,qQj,qTl,qQh,hi,hi2,hw,cut,qaF hi,qaF hi2,hc])
  ks.length () 0 ⟨[(2,.ptr 0 0),(3,.ptr 1 0),(5,.d (.int .i64 0))],qeu f v ks f' v' ks'⟩ (by omega) (by simp[qah,qab,qeu])
 rw[qLk ks ks' c3 _ _ (by omega)]at h;simp only[List.drop_zero,qeu]at h;simp[v3,qL1,qL0,qLZ,qSJ,c1,c2,hlc,c3];subst c1;subst c2
 rw[c3]at h;rw[h]
 by_cases h0:T.cmps ks ks'=0
 ·have:T.cmp (.node f v ks) (.node f v ks')=0:=hz.2 ⟨rfl,rfl,c3,h0⟩
  simp[h0,qQg,this]
 ·have:¬T.cmp (.node f v ks) (.node f v ks')=0:=fun h=>h0 (hz.1 h).2.2.2
  simp[h0,qQg,this]
theorem qke(a b:T)(ha:a.inner<=1099511627776)(hb:b.inner<=1099511627776):qad XV 3 [.d (a.enc .sub),.d (b.enc .sub)] []=some (.d (.bool (T.cmp a b==0)),[]):=by
 match a,b,ha,hb with
 | .node f v ks,.node f' v' ks',ha,hb=>
  simp only[T.inner]at ha hb;exact qrE f v ks f' v' ks' (by omega) (by omega) (fun s s' hs hs'=>qke s s' (by have:=T.qaE hs;omega) (by have:=T.qaE hs';omega))
termination_by a
decreasing_by
 simp_wf
 have:=List.sizeOf_lt_of_mem hs;omega
end Go.Proofs.Ytfiakfiocdfpbaa.VS
namespace Go.Proofs.Ytfiakfiocdfpbaa.VS
theorem qmI(k i:Nat):runN (fun(_:Unit) (_:Nat)=>(Sum.inl ():Unit⊕Unit)) k () i= .inl ():=by
 induction k generalizing i with
 |zero=>rfl
 |succ k ih=>simp[runN,ih]
@[simp] theorem qNz(cs:List DV):isAgg (.agg cs)=true:=rfl
@[simp] theorem qNy(k:IntKind)(n:Int):isAgg (.int k n)=false:=rfl
@[simp] theorem qSx(s:SymL):s.enc.cn=s.enc:=by simp[SymL.enc,SymL.cells]
@[simp] theorem qNx(s:SymL):isAgg s.enc=true:=rfl
@[simp] theorem qPv(s:SymL):s.enc.clr=s.enc:=by simp[SymL.enc,SymL.cells]
@[simp] theorem qKp(s:SymL):s.enc.cells=[.str s.name,.int .i64 s.arity,.bool s.ac]:=rfl
@[simp] theorem qJM(s:SymL):(AV.d s.enc).cells=[.d (.str s.name),.d (.int .i64 s.arity),.d (.bool s.ac)]:=rfl
@[simp] theorem qJc(s:SymL):s.enc.isCell=false:=rfl
@[simp] theorem qPy(n:ByteArray)(a:Int)(b:Bool):DV.agg [.str n,.int .i64 a,.bool b]=SymL.enc ⟨n,a,b⟩:=rfl
@[simp high] theorem qfA(l:List SymL):(l.map SymL.enc).map DV.clr=l.map SymL.enc:=by simp[List.map_map,Function.comp_def]
def qaG(l:List SymL)(i:Nat):SymL:=(l[i]?).getD ⟨⟨#[]⟩,0,false⟩
theorem qaz{l:List SymL}{i:Nat}(h:i<l.length):l[i]=qaG l i:=by simp[qaG,h]
theorem qpd{l:List SymL}{i:Nat}(h:i<l.length):qaG l i∈l:=by rw[<-qaz h];exact List.getElem_mem h
abbrev sg(l:List SymL):DV:= .sl .sub (l.map SymL.enc)
@[simp] theorem qN3(a b:ByteArray):qfy .eql (.str a) (.str b)=some (.bool (qf1 a b)):=rfl
@[simp] theorem qN2(a b:ByteArray):qfy .neq (.str a) (.str b)=some (.bool !(qf1 a b)):=rfl
def inB(x lo hi:Int):Bool:=decide (lo<=x)&&decide (x<=hi)
theorem qif(x lo hi:Int):qad XV 30 [.d (.int .i64 x),.d (.int .i64 lo),.d (.int .i64 hi)] []=some (.d (.bool (inB x lo hi)),[]):=by
 rw[qap XV _ _ _ v30 rfl qDB rfl];unfold inB
 by_cases h:lo<=x
 ·have h':x>=lo:=h
  simp[v30,qID,qIC,h]
 ·have h':¬x>=lo:=h
  simp[v30,qID,qIC,h]
theorem qia(x lo hi:Int):qad XV 31 [.d (.int .i64 x),.d (.int .i64 lo),.d (.int .i64 hi)] []=some (.d (.bool (inB x lo hi)),[]):=by
 rw[qap XV _ _ _ v31 rfl qDA rfl];unfold inB
 by_cases h:lo<=x
 ·simp[v31,qIB,qIA,h]
 ·simp[v31,qIB,qIA,h]
def qe0(l:List SymL)(f:Int):Bool:=inB f 0 (l.length-1)
theorem qeA{l:List SymL}{f:Int}(h:qe0 l f=true):0<=f/\f.toNat<l.length:=by
 simp[qe0,inB]at h;omega
theorem qul(l:List SymL)(hl:l.length<=1099511627776)(f:Int):qad XV 29 [.d (sg l),.d (.int .i64 f)] []=some (.d (.bool (qe0 l f)),[]):=by
 rw[qap XV _ _ _ v29 rfl qDC rfl];have hw:IntKind.i64.wrap ((l.length:Int)-1)=l.length-1:=wrap_i64 (by omega) (by omega);have h:=qif f 0 (l.length-1);simp[v29,qL3,qL2,hw,h,qe0]
def qbb(l:List SymL)(f:Int):Bool:=qe0 l f&&(qaG l f.toNat).ac
theorem qfn(l:List SymL)(hl:l.length<=1099511627776)(f:Int):qad XV 34 [.d (sg l),.d (.int .i64 f)] []=some (.d (.bool (qbb l f)),[]):=by
 rw[qap XV _ _ _ v34 rfl qDy rfl];have h:=qul l hl f;unfold qbb;cases hs:qe0 l f with
 |false=>
  rw[hs]at h;simp[v34,qIx,qIw,h]
 |true=>
  rw[hs]at h;obtain⟨h1,h2⟩:=qeA hs;simp[v34,qIx,qIw,h,h1,h2,qaz h2,cut]
theorem qiC(l:List SymL)(hl:l.length<=1099511627776)(f:Int):qad XV 33 [.d (sg l),.d (.int .i64 f)] []=some (.d (.bool (qbb l f)),[]):=by
 rw[qap XV _ _ _ v33 rfl qDz rfl];have hw:IntKind.i64.wrap ((l.length:Int)-1)=l.length-1:=wrap_i64 (by omega) (by omega);have h:=qia f 0 (l.length-1);unfold qbb qe0;cases hs:inB f 0 (l.length-1)with
 |false=>
  rw[hs]at h;simp[v33,qIz,qIy,h,hw]
 |true=>
  rw[hs]at h;obtain⟨h1,h2⟩:=qeA (l:=l) (f:=f) hs;simp[v33,qIz,qIy,h,hw,h1,h2,qaz h2,cut]
end Go.Proofs.Ytfiakfiocdfpbaa.VS
namespace Go.Proofs.Ytfiakfiocdfpbaa.VS
def qu7(x:Int):Int:=IntKind.i64.wrap ((BitVec.ofInt 64 x&&&BitVec.ofInt 64 255).toNat:Int)
def qTr(x y:Int):Int:=IntKind.i64.wrap ((BitVec.ofInt 64 x^^^BitVec.ofInt 64 y).toNat:Int)
theorem qjc(x:Int):qdD .and .i64 x 255=some (.int .i64 (qu7 x)):=rfl
theorem qqH(x y:Int):qdD .xor .i64 x y=some (.int .i64 (qTr x y)):=rfl
theorem qlN(x:Int):qdD .shr .i64 x 33=some (.int .i64 (x.fdiv 8589934592)):=rfl
theorem qlM(x:Int):qdD .shr .i64 x 45=some (.int .i64 (x.fdiv 35184372088832)):=rfl
theorem qq7(x:Int):0<=qu7 x/\qu7 x<=255:=by
 have h:(BitVec.ofInt 64 x&&&BitVec.ofInt 64 255).toNat<=255:=by
  rw[BitVec.toNat_and];exact Nat.le_trans Nat.and_le_right (by decide)
 unfold qu7;generalize (BitVec.ofInt 64 x&&&BitVec.ofInt 64 255).toNat=n at*
 rw[wrap_i64 (by omega) (by omega)];omega
def qa9(bs:List Int)(pos st:Int):List AV:=[.d (.sl .sub (bs.map (.int .u8))),.d (.int .i64 pos),.d (.int .i64 st)]
theorem quU{B:qal}{i:Nat}{c:List AV}(h:i<B.length):qa3 (B.set i (some c)) i=some c:=by simp[qa3,h]
theorem qsK{B:qal}{i:Nat}{c:List AV}(h:qa3 B i=some c):i<B.length:=by
 rcases Nat.lt_or_ge i B.length with h1|h1
 ·exact h1
 ·simp[qa3,List.getElem?_eq_none h1]at h
theorem qc4{B:qal}{i:Nat}{c:List AV}(h:qa3 B i=some c):B[i]?=some (some c):=by
 unfold qa3 at h;split at h
 ·rename_i c' hc;rw[hc];simpa using h
 ·simp at h
theorem qAY(bs:List Int)(hl:bs.length<=1099511627776)(B:qal)(i:Nat)(pos st:Int)(hB:qa3 B i=some (qa9 bs pos st))(hp:0<=pos/\pos<=bs.length):
 ∃b pos' st':Int,(0<=b/\b<=255)/\(0<=pos'/\pos'<=bs.length)/\qad XV 165 [.ptr i 0] B=some (.d (.int .i64 b),B.set i (some (qa9 bs pos' st'))):=by
 have hi:=qsK hB;have hnl:¬B.length<=i:=by omega
 have htake:∀c:Option (List AV),List.take B.length (B.set i c)=B.set i c:=fun c=>List.take_of_length_le (by simp)
 have hset:∀c:Option (List AV),(B.set i c)[i]?=some c:=fun c=>by simp[hi]
 rw[qap XV _ _ _ qHT rfl qx6 rfl];have hB:=qc4 hB;unfold qa9 at hB⊢
 by_cases c:pos<bs.length
 ·have hw:IntKind.i64.wrap (pos+1)=pos+1:=wrap_i64 (by omega) (by omega)
  have hlt:pos.toNat<bs.length:=by omega
  refine⟨_,_,_,?_,?_,by simp[qHT,qAc,qAb,qG8,qG7,qG6,qz7,qz6,qae,hB,hset,splice,qjc,qqH,qlN,qlM,qcF,hnl,c,hp,hlt,hw,cut,qaa,qac,qaf,qar,qbA,htake];exact⟨rfl,rfl⟩⟩
  ·exact qq7 _
  ·exact⟨by omega,by omega⟩
 ·refine⟨_,_,_,?_,?_,by simp[qHT,qAc,qAb,qG8,qG7,qG6,qz7,qz6,qae,hB,hset,splice,qjc,qqH,qlN,qlM,qcF,hnl,c,cut,qaa,qac,qaf,qar,qbA,htake];exact⟨rfl,rfl⟩⟩
  ·exact qq7 _
  ·exact hp
def qcg(bs:List Int)(i:Nat)(B B':qal):Prop:=∃pos st:Int,(0<=pos/\pos<=bs.length)/\B'=B.set i (some (qa9 bs pos st))
def qcy(bs:List Int)(i:Nat)(B:qal):Prop:=∃pos st:Int,(0<=pos/\pos<=bs.length)/\qa3 B i=some (qa9 bs pos st)
theorem qcg.at{bs:List Int}{i:Nat}{B B':qal}(hi:i<B.length)(h:qcg bs i B B'):qcy bs i B':=by
 obtain⟨pos,st,hp,rfl⟩:=h;exact⟨pos,st,hp,quU hi⟩
theorem qcg.len{bs:List Int}{i:Nat}{B B':qal}(h:qcg bs i B B'):B'.length=B.length:=by
 obtain⟨pos,st,hp,rfl⟩:=h;simp
theorem qcg.trans{bs:List Int}{i:Nat}{B B' B'':qal}(h:qcg bs i B B')(h':qcg bs i B' B''):qcg bs i B B'':=by
 obtain⟨pos,st,hp,rfl⟩:=h;obtain⟨pos',st',hp',rfl⟩:=h';exact⟨pos',st',hp',by simp⟩
theorem qcy.lt{bs:List Int}{i:Nat}{B:qal}(h:qcy bs i B):i<B.length:=by
 obtain⟨_,_,_,h⟩:=h;exact qsK h
theorem qAZ(bs:List Int)(hl:bs.length<=1099511627776)(B:qal)(i:Nat)(h:qcy bs i B):∃(b:Int) (B':qal),(0<=b/\b<=255)/\qcg bs i B B'/\qad XV 165 [.ptr i 0] B=some (.d (.int .i64 b),B'):=by
 obtain⟨pos,st,hp,hB⟩:=h;obtain⟨b,pos',st',h1,h2,h3⟩:=qAY bs hl B i pos st hB hp;exact⟨b,_,h1,⟨pos',st',h2,rfl⟩,h3⟩
theorem qwN(x n:Int)(h:n≠0):qdD .rem .i64 x n=some (.int .i64 (x.tmod n)):=by simp[qdD,h]
theorem qca(bs:List Int)(hl:bs.length<=1099511627776)(B:qal)(i:Nat)(h:qcy bs i B)(n:Int)(hn:0<n)(hn2:n<=256):∃(r:Int) (B':qal),(0<=r/\r<n)/\qcg bs i B B'/\qad XV 159 [.ptr i 0,.d (.int .i64 n)] B=some (.d (.int .i64 r),B'):=by
 obtain⟨b,B',hb,hT,hc⟩:=qAZ bs hl B i h;have hi:=h.lt;have hlen:=hT.len;have hm:b.tmod n=b%n:=Int.tmod_eq_emod_of_nonneg hb.1;have hr:=qwN b n (by omega);have htake:List.take B.length B'=B':=List.take_of_length_le (by omega);refine⟨b%n,B',⟨Int.emod_nonneg _ (by omega),Int.emod_lt_of_pos _ hn⟩,hT,?_⟩;rw[qap XV _ _ _ qJ5 rfl qyc rfl];have c1:¬n<=0:=by omega
 simp[qJ5,qGd,qGc,qGb,qGa,qF9,qF8,qF7,qF6,qF5,qF4,c1,hn2,hc,hr,hm,htake,hi]
theorem qd5(bs:List Int)(hl:bs.length<=1099511627776)(B:qal)(i:Nat)(h:qcy bs i B)(l:List Int)(h0:0<l.length)(h1:l.length<=256):∃(j:Nat) (hj:j<l.length) (B':qal),qcg bs i B B'/\qad XV 160 [.ptr i 0,.d (.sl .sub (l.map (.int .i64)))] B=some (.d (.int .i64 l[j]),B'):=by
 obtain⟨r,B',hr,hT,hc⟩:=qca bs hl B i h l.length (by omega) (by omega);have hi:=h.lt;have hlen:=hT.len;have htake:List.take B.length B'=B':=List.take_of_length_le (by omega);refine⟨r.toNat,by omega,B',hT,?_⟩;rw[qap XV _ _ _ qJ4 rfl qyb rfl];have hlt:r.toNat<l.length:=by omega
 simp[qJ4,qF3,qF2,hc,hr,hlt,htake,hi,cut]
def qPx(x:Int):Int:=IntKind.i64.wrap ((BitVec.ofInt 64 x&&&BitVec.ofInt 64 1073741823).toNat:Int)
theorem qwO(x:Int):qdD .and .i64 x 1073741823=some (.int .i64 (qPx x)):=rfl
def qFJ(bs:List Int)(s:Int)(i:Nat):Int⊕Unit:= .inl (qPx (IntKind.i64.wrap (IntKind.i64.wrap (IntKind.i64.wrap (s*131)+IntKind.i64.wrap ((bs[i]?).getD 0))+7)))
theorem qs8{β:Type}(f:β->Nat->β):∀(k:Nat) (a:β) (i:Nat),∃b,runN (fun a i=>(.inl (f a i):β⊕Unit)) k a i= .inl b
 |0,a,i=>⟨a,rfl⟩
 |k+1,a,i=>by simp only[runN];exact qs8 f k _ _
theorem qui(bs:List Int)(hl:bs.length<=1099511627776)(B:qal):∃st:Int,qad XV 156 [.d (.sl .sub (bs.map (.int .u8)))] B=some (.ptr B.length 0,B++[some (qa9 bs 0 st)]):=by
 have hn:min bs.length 4000<=bs.length:=Nat.min_le_left _ _;have h:=qau (X:=XV) (T:=XV.lin 156) (L:=B.length) (live:=[0,3,4]) (b:=qq3) (n:=min bs.length 4000) (γ:=Unit) (st:=fun(s:Int) i=>⟨[(0,.d (.sl .sub (bs.map (.int .u8)))),(3,.d (.int .i64 s)),(4,.d (.int .i64 i))],B⟩) (step:=qFJ bs)
  (F:=fun s=>(.exit 0,⟨[(0,.d (.sl .sub (bs.map (.int .u8)))),(3,.d (.int .i64 s)),(4,.d (.int .i64 (min bs.length 4000:Nat))),(15,.d (.bool false))],B⟩)) (R:=fun _=>(.ret,⟨[],B⟩))
  (fun s=>⟨by simp,by
   by_cases c:bs.length<=4000
   ·rw[Nat.min_eq_left c];simp[qq3,qpW,qpV,qpU,qtT,qtR,qtS,qpT]
   ·have c1:(4000:Int)<bs.length:=by omega
    rw[Nat.min_eq_right (by omega)];simp[qq3,qpW,qpV,qpU,qtT,qtR,qtS,qpT,c1,show¬bs.length<=4000 from c]⟩)
  (fun s i hi=>by
   have hw:=qan (n:=i) (by omega);have h1:i<bs.length:=by omega
   have h2:(i:Int)<4000:=by omega
   refine⟨_,by simp[qq3,qpW,qpV,qpU,qtT,qtR,qtS,qpT,h1,h2,hw,cut,qwO];rfl,by simp[qah,qab,h1]⟩)
  (min bs.length 4000) (IntKind.i64.wrap (27064+bs.length)) 0 ⟨[(0,.d (.sl .sub (bs.map (.int .u8)))),(3,.d (.int .i64 (IntKind.i64.wrap (27064+bs.length)))),(4,.d (.int .i64 0))],B⟩ (by omega) (by simp[qah,qab])
 obtain⟨st,hst⟩:=qs8 (fun(s:Int) (i:Nat)=>qPx (IntKind.i64.wrap (IntKind.i64.wrap (IntKind.i64.wrap (s*131)+IntKind.i64.wrap ((bs[i]?).getD 0))+7))) (min bs.length 4000) (IntKind.i64.wrap (27064+bs.length)) 0;rw[show qFJ bs=fun s i=>(.inl (qPx (IntKind.i64.wrap (IntKind.i64.wrap (IntKind.i64.wrap (s*131)+IntKind.i64.wrap ((bs[i]?).getD 0))+7))):Int⊕Unit)from rfl,hst]at h;refine⟨st,?_⟩;rw[qap XV _ _ _ qJ7 rfl qyf rfl];simp[qJ7,qpW,qpV,qpU];simp only[qI1]at h;rw[h];simp[qpT,qa9,qaa,qac,qaf,qar,splice,qae]
end Go.Proofs.Ytfiakfiocdfpbaa.VS
namespace Go.Proofs.Ytfiakfiocdfpbaa.VS
mutual
def T.fold{σ:Type}(e:T->σ->σ):T->σ->σ
 | .node f v ks,s=>T.folds e ks (e (.node f v ks) s)
def T.folds{σ:Type}(e:T->σ->σ):List T->σ->σ
 | [],s=>s
 |t::r,s=>T.folds e r (T.fold e t s)
end
theorem qs6{α:Type}(B:List α)(x v:α)(r:List α):(B++x::r).set B.length v=B++v::r:=by simp
theorem get_at{α:Type}(B:List α)(x:α)(r:List α):(B++x::r)[B.length]?=some x:=by simp
theorem qza{α:Type}(B:List α)(x y v:α)(r:List α):(B++x::y::r).set (B.length+1) v=B++x::v::r:=by
 rw[List.set_append_right _ _ (by omega),show B.length+1-B.length=1 by omega];rfl
theorem qBe{α:Type}(B:List α)(x y:α)(r:List α):(B++x::y::r)[B.length+1]?=some y:=by
 rw[List.getElem?_append_right (by omega),show B.length+1-B.length=1 by omega];rfl
theorem take_at{α:Type}(B r:List α):(B++r).take B.length=B:=by simp
theorem qcf{L:Nat}{live:List Nat}{s:XS}{r':List (Nat×AV)}{B e:qal}(h:keep s.r live=r')(hs:qab L r'=true)(hl:B.length=L)(he:s.B=B++e):qah L live s=some ⟨r',B⟩:=by
 unfold qah;rw[h,he,if_pos ⟨hs,by simp;omega⟩,<-hl,take_at]
def qnG{σ:Type}(e:T->σ->σ)(l:List T)(s:σ)(i:Nat):σ⊕Unit:= .inl (T.fold e (tAt l i) s)
theorem qOE{σ:Type}(e:T->σ->σ)(l:List T):∀(k i:Nat) (s:σ),i+k=l.length->runN (qnG e l) k s i= .inl (T.folds e (l.drop i) s)
 |0,i,s,h=>by
  have h1:l.drop i=[]:=List.drop_eq_nil_of_le (by omega);simp[runN,h1,T.folds]
 |k+1,i,s,h=>by
  have hlt:i<l.length:=by omega
  rw[List.drop_eq_getElem_cons hlt,qaF hlt];simp only[runN,qnG,T.folds];exact qOE e l k (i+1) _ (by omega)
theorem qJr{σ:Type}(st:σ->qal)(e:T->σ->σ)(k:Nat)(caps:List AV)(m:Nat)(hm:∀s,(st s).length=m)(hcs:∀n,m<=n->AV.safe.safes n caps=true)(hcc:caps.map AV.clr=caps)(hk:¬0∈XV.lin k)
 (f v:Int) (ks:List T) (hl:ks.length<=1099511627776)
 (hf:∀(x:T) (s:σ) (r:qal),qad XV k (.d (x.enc .sub)::caps) (st s++r)=some (.d (.tup []),st (e x s)++r))
 (hrec:∀x,x∈ks->∀(s:σ) (r:qal),qad XV 25 [.d (x.enc .sub),.fn k caps] (st s++r)=some (.d (.tup []),st (T.fold e x s)++r)) (s:σ) (r:qal):
 qad XV 25 [.d ((T.node f v ks).enc .sub),.fn k caps] (st s++r)=some (.d (.tup []),st (T.fold e (.node f v ks) s)++r):=by
 rw[qap XV _ _ _ v25 rfl qsS rfl];have hf1:=hf (.node f v ks) s (r++[some [.d (.int .i64 f),.d (.int .i64 v),.d (qai .sub ks)]]);have len:∀s,(st s++r).length=m+r.length:=fun s=>by simp[hm]
 have hloop:=qau (X:=XV) (T:=XV.lin 25) (L:=m+r.length+1) (live:=[1,10,11,12]) (b:=qsM) (n:=ks.length) (γ:=Unit) (st:=fun(s:σ) i=>⟨[(1,.fn k caps),(10,.d (qai .sub ks)),(11,.d (.int .i64 ks.length)),(12,.d (.int .i64 i))],(st s++r)++[some [.d (.int .i64 f),.d (.int .i64 v),.d (qai .sub ks)]]⟩) (step:=qnG e ks)
  (F:=fun s=>(.exit 0,⟨[(1,.fn k caps),(10,.d (qai .sub ks)),(11,.d (.int .i64 ks.length)),(12,.d (.int .i64 ks.length)),(13,.d (.bool false))],(st s++r)++[some [.d (.int .i64 f),.d (.int .i64 v),.d (qai .sub ks)]]⟩)) (R:=fun _=>(.ret,⟨[],[]⟩))
  (fun s=>⟨by simp,by simp[qsM,qzr,hcc]⟩)
  (fun s i hi=>by
   have hw:=qan (n:=i) (by omega);have hr:=hrec _ (qaK hi) s (r++[some [.d (.int .i64 f),.d (.int .i64 v),.d (qai .sub ks)],some [.d (.int .i64 (tAt ks i).f),.d (.int .i64 (tAt ks i).v),.d (qai .sub (tAt ks i).kids)]]);have hln:=len s;have hln2:=len (T.fold e (tAt ks i) s);simp only[<-List.append_assoc]at hr;generalize hB:st s++r=B at hr hln;generalize hB':st (T.fold e (tAt ks i) s)++r=B' at hr hln2;unfold qnG;refine⟨⟨[(1,.fn k caps),(10,.d (qai .sub ks)),(11,.d (.int .i64 ks.length)),(12,.d (.int .i64 (i+1:Nat)))],B'++[some [.d (.int .i64 f),.d (.int .i64 v),.d (qai .sub ks)],some [.d (.int .i64 (tAt ks i).f),.d (.int .i64 (tAt ks i).v),.d (qai .sub (tAt ks i).kids)]]⟩,?_,?_⟩
   ·simp[qsM,qzr,qIG,qIF,qIE,hi,hw,cut,qaF hi,hcc,hr,qs6,get_at,qza,qBe,splice]
   ·refine qcf (e:=[some [.d (.int .i64 (tAt ks i).f),.d (.int .i64 (tAt ks i).v),.d (qai .sub (tAt ks i).kids)]]) (by simp) (by simp[qab,hcs _ (show m<=m+r.length+1 by omega)]) (by simp[hln2,hB']) (by simp[<-hB']))
  ks.length (e (.node f v ks) s) 0 ⟨[(1,.fn k caps),(10,.d (qai .sub ks)),(11,.d (.int .i64 ks.length)),(12,.d (.int .i64 0))],(st (e (.node f v ks) s)++r)++[some [.d (.int .i64 f),.d (.int .i64 v),.d (qai .sub ks)]]⟩ (by omega) (qcf (e:=[]) (by simp) (by simp[qab,hcs _ (show m<=m+r.length+1 by omega)]) (by simp[hm];omega) (by simp))
 rw[qOE e ks _ _ _ (by omega)]at hloop;simp only[List.drop_zero]at hloop;have hl0:=len s;have hl1:=len (e (.node f v ks) s);have hl2:(st (T.fold e (.node f v ks) s)++r).length=m+r.length:=len _;have hfin:T.folds e ks (e (.node f v ks) s)=T.fold e (.node f v ks) s:=by simp[T.fold]
 rw[hfin]at hloop;simp only[<-List.append_assoc]at hf1;generalize hB0:st s++r=B0 at hf1 hl0;generalize hB1:st (e (.node f v ks) s)++r=B1 at hf1 hl1 hloop;generalize hB2:st (T.fold e (.node f v ks) s)++r=B2 at hl2 hloop;have hlen:B1.length=B0.length:=by omega
 rw[<-hl1]at hloop;simp only[qai,qGR]at hf1 hloop;simp[v25,qIJ,qII,qIH,qs6,get_at,hf1,hcc,hk,hlen.symm];rw[hloop];simp[show B1.length=B2.length by omega]
theorem qsw{σ:Type}(st:σ->qal)(e:T->σ->σ)(k:Nat)(caps:List AV)(m:Nat)(hm:∀s,(st s).length=m)(hcs:∀n,m<=n->AV.safe.safes n caps=true)(hcc:caps.map AV.clr=caps)(hk:¬0∈XV.lin k)
 (hf:∀(x:T) (s:σ) (r:qal),qad XV k (.d (x.enc .sub)::caps) (st s++r)=some (.d (.tup []),st (e x s)++r)) (t:T) (ht:t.inner<=1099511627776) (s:σ) (r:qal):
 qad XV 25 [.d (t.enc .sub),.fn k caps] (st s++r)=some (.d (.tup []),st (T.fold e t s)++r):=by
 match t,ht with
 | .node f v ks,ht=>
  simp only[T.inner]at ht;exact qJr st e k caps m hm hcs hcc hk f v ks (by omega) hf (fun x hx s r=>qsw st e k caps m hm hcs hcc hk hf x (by have:=T.qaE hx;omega) s r) s r
termination_by t
decreasing_by
 simp_wf
 have:=List.sizeOf_lt_of_mem hx;omega
end Go.Proofs.Ytfiakfiocdfpbaa.VS
namespace Go.Proofs.Ytfiakfiocdfpbaa.VS
theorem wrap_add(a b:Int):IntKind.i64.wrap (IntKind.i64.wrap a+b)=IntKind.i64.wrap (a+b):=by
 show(if(true&&decide (((if(true&&decide (a%18446744073709551616>=9223372036854775808))=true then a%18446744073709551616-18446744073709551616 else a%18446744073709551616)+b)%18446744073709551616>=9223372036854775808))=true then((if(true&&decide (a%18446744073709551616>=9223372036854775808))=true then a%18446744073709551616-18446744073709551616 else a%18446744073709551616)+b)%18446744073709551616-18446744073709551616 else((if(true&&decide (a%18446744073709551616>=9223372036854775808))=true then a%18446744073709551616-18446744073709551616 else a%18446744073709551616)+b)%18446744073709551616)=(if(true&&decide ((a+b)%18446744073709551616>=9223372036854775808))=true then(a+b)%18446744073709551616-18446744073709551616 else(a+b)%18446744073709551616);simp only[Bool.true_and,decide_eq_true_eq];have:((if a%18446744073709551616>=9223372036854775808 then a%18446744073709551616-18446744073709551616 else a%18446744073709551616)+b)%18446744073709551616=(a+b)%18446744073709551616:=by
  split<;>omega
 rw[this]
theorem qyJ(a b:Int):IntKind.i64.wrap (a+IntKind.i64.wrap b)=IntKind.i64.wrap (a+b):=by
 rw[Int.add_comm,wrap_add,Int.add_comm]
mutual
def T.sum(w:T->Int):T->Int
 | .node f v ks=>w (.node f v ks)+T.sums w ks
def T.sums(w:T->Int):List T->Int
 | []=>0
 |t::r=>T.sum w t+T.sums w r
end
def qKr(w:T->Int)(x:T)(n:Int):Int:=IntKind.i64.wrap (n+w x)
mutual
theorem qut(w:T->Int):∀(t:T) (n:Int),T.fold (qKr w) t (IntKind.i64.wrap n)=IntKind.i64.wrap (n+T.sum w t)
 | .node f v ks,n=>by
  simp only[T.fold,T.sum,qKr];rw[wrap_add,qqx w ks,Int.add_assoc]
theorem qqx(w:T->Int):∀(l:List T) (n:Int),T.folds (qKr w) l (IntKind.i64.wrap n)=IntKind.i64.wrap (n+T.sums w l)
 | [],n=>by simp[T.folds,T.sums]
 |t::r,n=>by
  simp only[T.folds,T.sums];rw[qut w t,qqx w r,Int.add_assoc]
end
def qvq(c:T->Int)(l:List T)(n:Int)(i:Nat):Int⊕Unit:= .inl (IntKind.i64.wrap (n+c (tAt l i)))
theorem qLl(w:T->Int)(l:List T):∀(k i:Nat) (n:Int),i+k=l.length->runN (qvq (fun t=>IntKind.i64.wrap (T.sum w t)) l) k (IntKind.i64.wrap n) i= .inl (IntKind.i64.wrap (n+T.sums w (l.drop i)))
 |0,i,n,h=>by
  have h1:l.drop i=[]:=List.drop_eq_nil_of_le (by omega);simp[runN,h1,T.sums]
 |k+1,i,n,h=>by
  have hlt:i<l.length:=by omega
  rw[List.drop_eq_getElem_cons hlt,qaF hlt];simp only[runN,qvq,T.sums];rw[qyJ,wrap_add,qLl w l k (i+1) _ (by omega),Int.add_assoc]
theorem qqt(t:T)(ht:t.inner<=1099511627776):qad XV 23 [.d (t.enc .sub)] []=some (.d (.int .i64 (IntKind.i64.wrap (T.sum (fun _=>1) t))),[]):=by
 rw[qap XV _ _ _ v23 rfl qDE rfl];have key:∀(n:Int),qad XV 25 [.d (t.enc .sub),.fn 24 [.ptr 1 0]] ([some [.d (.int .i64 t.f),.d (.int .i64 t.v),.d (qai .sub t.kids)],some [.d (.int .i64 n)]]++[])=some (.d (.tup []),[some [.d (.int .i64 t.f),.d (.int .i64 t.v),.d (qai .sub t.kids)],some [.d (.int .i64 (T.fold (qKr fun _=>1) t n))]]++[]):=fun n=>
  qsw (fun n:Int=>[some [.d (.int .i64 t.f),.d (.int .i64 t.v),.d (qai .sub t.kids)],some [.d (.int .i64 n)]]) (qKr fun _=>1) 24 [.ptr 1 0] 2 (fun _=>rfl) (fun n hn=>by simp;omega) rfl (by simp) (fun x s r=>by
   rw[qap XV _ _ _ v24 rfl qDD rfl];simp[v24,qL5,qL4,splice,qKr]) t ht n []
 have k0:=key 0;have h0:=qut (fun _=>1) t 0;rw[show IntKind.i64.wrap 0=0 from rfl,Int.zero_add]at h0;rw[h0]at k0;simp only[List.append_nil,qai]at k0;simp[v23,qL9,qL8,qL7,qL6,splice,k0]
theorem qpn(f v:Int)(ks:List T)(hl:ks.length<=1099511627776)(hrec:∀s,s∈ks->qad XV 22 [.d (s.enc .sub)] []=some (.d (.int .i64 (IntKind.i64.wrap (T.sum (fun _=>1) s))),[])):
 qad XV 22 [.d ((T.node f v ks).enc .sub)] []=some (.d (.int .i64 (IntKind.i64.wrap (T.sum (fun _=>1) (.node f v ks)))),[]):=by
 rw[qap XV _ _ _ v22 rfl qDF rfl];have h:=qau (X:=XV) (T:=[]) (L:=1) (live:=[1,3,4]) (b:=qFt) (n:=ks.length) (γ:=Unit) (st:=fun(n:Int) i=>⟨[(1,.ptr 0 0),(3,.d (.int .i64 n)),(4,.d (.int .i64 i))],[some [.d (.int .i64 f),.d (.int .i64 v),.d (qai .sub ks)]]⟩) (step:=qvq (fun t=>IntKind.i64.wrap (T.sum (fun _=>1) t)) ks)
  (F:=fun n=>(.exit 0,⟨[(1,.ptr 0 0),(3,.d (.int .i64 n)),(4,.d (.int .i64 ks.length)),(9,.d (.bool false))],[some [.d (.int .i64 f),.d (.int .i64 v),.d (qai .sub ks)]]⟩)) (R:=fun r=>(.ret,⟨[],[]⟩))
  (fun _=>⟨by simp,by simp[qFt,qIK]⟩)
  (fun n i hi=>by
   have hw:=qan (n:=i) (by omega);have hc:=hrec _ (qaK hi);exact⟨_,by simp[qFt,qIK,qMc,qMb,hi,hw,cut,qaF hi,hc];rfl,by simp[qah,qab]⟩)
  ks.length (IntKind.i64.wrap 1) 0 ⟨[(1,.ptr 0 0),(3,.d (.int .i64 1)),(4,.d (.int .i64 0))],[some [.d (.int .i64 f),.d (.int .i64 v),.d (qai .sub ks)]]⟩ (by omega) (by simp[qah,qab,show IntKind.i64.wrap 1=1 from rfl])
 rw[qLl _ _ _ _ _ (by omega)]at h;simp only[List.drop_zero,qai]at h;have hs:T.sum (fun _=>1) (T.node f v ks)=1+T.sums (fun _=>1) ks:=by simp[T.sum]
 simp[v22,qMf,qMe,qMd,hs];rw[h];simp[qMa]
theorem qiB(t:T)(ht:t.inner<=1099511627776):qad XV 22 [.d (t.enc .sub)] []=some (.d (.int .i64 (IntKind.i64.wrap (T.sum (fun _=>1) t))),[]):=by
 match t,ht with
 | .node f v ks,ht=>
  simp only[T.inner]at ht;exact qpn f v ks (by omega) (fun s hs=>qiB s (by have:=T.qaE hs;omega))
termination_by t
decreasing_by
 simp_wf
 have:=List.sizeOf_lt_of_mem hs;omega
end Go.Proofs.Ytfiakfiocdfpbaa.VS
namespace Go.Proofs.Ytfiakfiocdfpbaa.VS
mutual
theorem quu(w:T->Int)(e:T->Int->Int)(he:∀x m,e x (IntKind.i64.wrap m)=IntKind.i64.wrap (m+w x)):∀(t:T) (n:Int),T.fold e t (IntKind.i64.wrap n)=IntKind.i64.wrap (n+T.sum w t)
 | .node f v ks,n=>by
  simp only[T.fold,T.sum];rw[he,qqy w e he ks,Int.add_assoc]
theorem qqy(w:T->Int)(e:T->Int->Int)(he:∀x m,e x (IntKind.i64.wrap m)=IntKind.i64.wrap (m+w x)):∀(l:List T) (n:Int),T.folds e l (IntKind.i64.wrap n)=IntKind.i64.wrap (n+T.sums w l)
 | [],n=>by simp[T.folds,T.sums]
 |t::r,n=>by
  simp only[T.folds,T.sums];rw[quu w e he t,qqy w e he r,Int.add_assoc]
end
theorem qjP(t:T):qad XV 75 [.d (t.enc .sub)] []=some (.d (.bool (t.f== -1)),[]):=by
 rw[qap XV _ _ _ v75 rfl qDm rfl];simp[v75,qLv,qLu]
def wC(n:Int)(x:T):Int:=if x.f= -1/\x.v=n then 1 else 0
def eC(n:Int)(x:T)(m:Int):Int:=if x.f= -1/\x.v=n then IntKind.i64.wrap (m+1)else m
theorem qN9(n:Int)(x:T)(m:Int):eC n x (IntKind.i64.wrap m)=IntKind.i64.wrap (m+wC n x):=by
 unfold eC wC;split
 ·exact wrap_add m 1
 ·simp
theorem qfm(t:T)(ht:t.inner<=1099511627776)(n:Int):qad XV 73 [.d (t.enc .sub),.d (.int .i64 n)] []=some (.d (.int .i64 (IntKind.i64.wrap (T.sum (wC n) t))),[]):=by
 rw[qap XV _ _ _ v73 rfl qDo rfl];have key:∀(m:Int),qad XV 25 [.d (t.enc .sub),.fn 74 [.ptr 1 0,.ptr 2 0]] ([some [.d (.int .i64 t.f),.d (.int .i64 t.v),.d (qai .sub t.kids)],some [.d (.int .i64 n)],some [.d (.int .i64 m)]]++[])=some (.d (.tup []),[some [.d (.int .i64 t.f),.d (.int .i64 t.v),.d (qai .sub t.kids)],some [.d (.int .i64 n)],some [.d (.int .i64 (T.fold (eC n) t m))]]++[]):=fun m=>
  qsw (fun m:Int=>[some [.d (.int .i64 t.f),.d (.int .i64 t.v),.d (qai .sub t.kids)],some [.d (.int .i64 n)],some [.d (.int .i64 m)]]) (eC n) 74 [.ptr 1 0,.ptr 2 0] 3 (fun _=>rfl) (fun n hn=>by simp;omega) rfl (by simp) (fun x m r=>by
   rw[qap XV _ _ _ v74 rfl qDn rfl];obtain⟨xf,xv,xk⟩:=x;have hv:=qjP (.node xf xv xk);simp only[T.qbv]at hv;unfold eC;simp only[T.qbv,T.qcS]
   by_cases h1:xf= -1
   ·subst h1
    simp only[BEq.rfl]at hv
    by_cases h2:xv=n
    ·subst h2
     simp[v74,qEy,qEx,qEw,hv,splice]
    ·have b2:(xv==n)=false:=by simp[h2]
     simp[v74,qEy,qEx,qEw,hv,h2,b2,splice]
   ·have b1:(xf== -1)=false:=by simp[h1]
    rw[b1]at hv;simp[v74,qEy,qEx,qEw,hv,h1,splice]) t ht m []
 have k0:=key 0;have h0:=quu (wC n) (eC n) (qN9 n) t 0;rw[show IntKind.i64.wrap 0=0 from rfl,Int.zero_add]at h0;rw[h0]at k0;simp only[List.append_nil,qai]at k0;simp[v73,qLz,qLy,qLx,qLw,splice,k0]
theorem qHd(b:Bool):qad XV 85 [.d (.bool b)] []=some (.d (.int .i64 (if b then 1 else 0)),[]):=by
 rw[qap XV _ _ _ v85 rfl qDc rfl];cases b<;>simp[v85,qLp,qLo,qLn,qLm]
theorem qpp(n f v:Int)(ks:List T)(hl:ks.length<=1099511627776)(hrec:∀s,s∈ks->qad XV 81 [.d (s.enc .sub),.d (.int .i64 n)] []=some (.d (.int .i64 (IntKind.i64.wrap (T.sum (wC n) s))),[])):
 qad XV 81 [.d ((T.node f v ks).enc .sub),.d (.int .i64 n)] []=some (.d (.int .i64 (IntKind.i64.wrap (T.sum (wC n) (.node f v ks)))),[]):=by
 rw[qap XV _ _ _ v81 rfl qDg rfl];have h:=fun m=>qau (X:=XV) (T:=[]) (L:=1) (live:=[1,2,5,6]) (b:=qFs) (n:=ks.length) (γ:=Unit) (st:=fun(m:Int) i=>⟨[(1,.d (.int .i64 n)),(2,.ptr 0 0),(5,.d (.int .i64 m)),(6,.d (.int .i64 i))],[some [.d (.int .i64 f),.d (.int .i64 v),.d (qai .sub ks)]]⟩) (step:=qvq (fun t=>IntKind.i64.wrap (T.sum (wC n) t)) ks)
  (F:=fun m=>(.exit 0,⟨[(1,.d (.int .i64 n)),(2,.ptr 0 0),(5,.d (.int .i64 m)),(6,.d (.int .i64 ks.length)),(21,.d (.bool false))],[some [.d (.int .i64 f),.d (.int .i64 v),.d (qai .sub ks)]]⟩)) (R:=fun r=>(.ret,⟨[],[]⟩))
  (fun _=>⟨by simp,by simp[qFs,qn7,qn6,qn5,qn4,qn2,qn3,qn1]⟩)
  (fun m i hi=>by
   have hw:=qan (n:=i) (by omega);have hc:=hrec _ (qaK hi);exact⟨_,by simp[qFs,qn7,qn6,qn5,qn4,qn2,qn3,qn1,hi,hw,cut,qaF hi,hc];rfl,by simp[qah,qab]⟩)
  ks.length (IntKind.i64.wrap m) 0 ⟨[(1,.d (.int .i64 n)),(2,.ptr 0 0),(5,.d (.int .i64 (IntKind.i64.wrap m))),(6,.d (.int .i64 0))],[some [.d (.int .i64 f),.d (.int .i64 v),.d (qai .sub ks)]]⟩ (by omega) (by simp[qah,qab])
 have h':=fun m=>by
  have:=h m;rw[qLl _ _ _ _ _ (by omega)]at this;simpa only[List.drop_zero,qai]using this
 have hs:T.sum (wC n) (T.node f v ks)=wC n (.node f v ks)+T.sums (wC n) ks:=by simp[T.sum]
 have bt:=qHd true;have bf:=qHd false;simp only[if_true,Bool.false_eq_true,if_false]at bt bf;rw[hs];have h1:=h' 1;have h0:=h' 0;rw[show IntKind.i64.wrap 1=1 from rfl]at h1;rw[show IntKind.i64.wrap 0=0 from rfl]at h0
 by_cases c1:f= -1
 ·by_cases c2:v=n
  ·have hw:wC n (.node f v ks)=1:=by simp[wC,c1,c2]
   rw[hw];subst c1;subst c2
   simp[v81,qn7,qn6,qn5,qn4,qn2,qn3,qn1,bt,bf];rw[h1];simp[v81,qn7,qn6,qn5,qn4,qn2,qn3,qn1]
  ·have hw:wC n (.node f v ks)=0:=by simp[wC,c1,c2]
   have b2:(v==n)=false:=by simp[c2]
   rw[hw];subst c1;simp[v81,qn7,qn6,qn5,qn4,qn2,qn3,qn1,bt,bf,b2];rw[h0];simp[v81,qn7,qn6,qn5,qn4,qn2,qn3,qn1]
 ·have hw:wC n (.node f v ks)=0:=by simp[wC,c1]
  have b1:(f== -1)=false:=by simp[c1]
  rw[hw];simp[v81,qn7,qn6,qn5,qn4,qn2,qn3,qn1,bt,bf,b1];rw[h0];simp[v81,qn7,qn6,qn5,qn4,qn2,qn3,qn1]
theorem qe6(t:T)(ht:t.inner<=1099511627776)(n:Int):qad XV 81 [.d (t.enc .sub),.d (.int .i64 n)] []=some (.d (.int .i64 (IntKind.i64.wrap (T.sum (wC n) t))),[]):=by
 match t,ht with
 | .node f v ks,ht=>
  simp only[T.inner]at ht;exact qpp n f v ks (by omega) (fun s hs=>qe6 s (by have:=T.qaE hs;omega) n)
termination_by t
decreasing_by
 simp_wf
 have:=List.sizeOf_lt_of_mem hs;omega
end Go.Proofs.Ytfiakfiocdfpbaa.VS
namespace Go.Proofs.Ytfiakfiocdfpbaa.VS
abbrev is(l:List Int):DV:= .sl .sub (l.map (.int .i64))
def iAt(l:List Int)(i:Nat):Int:=(l[i]?).getD 0
theorem qc0{l:List Int}{i:Nat}(h:i<l.length):l[i]=iAt l i:=by simp[iAt,h]
@[simp high] theorem qOl(l:List Int):(l.map (DV.int .i64)).map DV.clr=l.map (DV.int .i64):=by simp[List.map_map,Function.comp_def]
end Go.Proofs.Ytfiakfiocdfpbaa.VS
namespace Go.Proofs.Ytfiakfiocdfpbaa.VS
def qiD(c:Int):Bool:=decide (97<=c)&&decide (c<=122)
def qqN(c:Int):Bool:=decide (48<=c)&&decide (c<=57)
theorem qmV(c:Int):qad XV 61 [.d (.int .u8 c)] []=some (.d (.bool (qiD c)),[]):=by
 rw[qap XV _ _ _ v61 rfl qDu rfl];cases h1:decide (97<=c)<;>simp[v61,qLH,qLG,h1,qiD]
theorem qmW(c:Int):qad XV 62 [.d (.int .u8 c)] []=some (.d (.bool (qqN c)),[]):=by
 rw[qap XV _ _ _ v62 rfl qDt rfl];cases h1:decide (48<=c)<;>simp[v62,qLF,qLE,h1,qqN]
def qoT(x:Int)(i:Nat):Prop:=(97<=x/\x<=122)\/(0<i/\48<=x/\x<=57)
instance (x:Int) (i:Nat):Decidable (qoT x i):=by unfold qoT;exact inferInstance
theorem qHc(s:ByteArray)(hs:s.size<=1099511627776)(i:Nat)(hlt:i<s.size)(x:Int)(hb:qlZ s i=some x):
 qax XV [] qCA ⟨[(0,.d (.str s)),(3,.d (.int .i64 i))],[]⟩=some (if qoT x i then(.normal,⟨[(0,.d (.str s)),(3,.d (.int .i64 (i+1:Nat)))],[]⟩)else(.ret,⟨[(2,.d (.bool false))],[]⟩)):=by
 have hw:=qan (n:=i) (by omega);simp[qCA,qIv,qLR,qLQ,qLS,hb,hlt,hw];cases h1:decide (97<=x)
 case true=>
  simp[hb];cases h2:decide (x<=122)
  case true=>
   simp[hb,hw];have:qoT x i:=by simp at h1 h2;exact .inl ⟨h1,h2⟩
   simp[this]
  case false=>
   simp[hb,hw];cases h3:decide (0<i)<;>simp[hb,hw]
   case true=>
    have h4:(48<=x):=by simp at h1;omega
    simp[h4,hb];have h5:¬(x<=57):=by simp at h1;omega
    have:¬qoT x i:=by simp at h1 h2;unfold qoT;omega
    simp[h5,this]
   case false=>
    have:¬qoT x i:=by simp at h1 h2 h3;unfold qoT;omega
    simp[this]
 case false=>
  simp[hb];cases h3:decide (0<i)
  case true=>
   simp[hb,hw];cases h4:decide (48<=x)
   case true=>
    simp[hb,hw];cases h5:decide (x<=57)
    case true=>
     have:qoT x i:=by simp at h1 h3 h4 h5;unfold qoT;omega
     simp[hw,this]
    case false=>
     have:¬qoT x i:=by simp at h1 h3 h4 h5;unfold qoT;omega
     simp[hw,this]
   case false=>
    have:¬qoT x i:=by simp at h1 h3 h4;unfold qoT;omega
    simp[hb,hw,this]
  case false=>
   have:¬qoT x i:=by simp at h1 h3;unfold qoT;omega
   simp[hb,hw,this]
def qEJ(s:ByteArray)(i:Nat):Bool:=decide (qoT (chr s i) i)
def qjA(s:ByteArray)(f:ByteArray->Nat->Bool)(i k:Nat):Bool:=(List.range' i k).all (f s)
theorem qnp(s:ByteArray)(f:ByteArray->Nat->Bool)(i:Nat):qjA s f i 0=true:=rfl
theorem qnq(s:ByteArray)(f:ByteArray->Nat->Bool)(i k:Nat):qjA s f i (k+1)=(f s i&&qjA s f (i+1) k):=by simp[qjA,List.range'_succ]
theorem qCN(s:ByteArray)(f:ByteArray->Nat->Bool)(i k:Nat):qjA s f i k=true↔∀j,i<=j->j<i+k->f s j=true:=by
 simp only[qjA,List.all_eq_true,List.mem_range'_1];exact⟨fun h j h1 h2=>h j ⟨h1,h2⟩,fun h j h1=>h j h1.1 h1.2⟩
theorem qGP(s:ByteArray)(hs:s.size<=1099511627776):∀(k i:Nat),i+k=s.size->
 qbm XV [] 0 [0,3] qCA ⟨[(0,.d (.str s)),(3,.d (.int .i64 i))],[]⟩=
  some (if qjA s qEJ i k then(.exit 0,⟨[(0,.d (.str s)),(3,.d (.int .i64 s.size)),(7,.d (.bool false))],[]⟩)else(.ret,⟨[(2,.d (.bool false))],[]⟩))
 |0,i,hk=>by
  have:i=s.size:=by omega
  subst this;rw[qd4];simp[qah,qab,qCA,qIv,qnp]
 |k+1,i,hk=>by
  have hlt:i<s.size:=by omega
  have ih:=qGP s hs k (i+1) (by omega);rw[qd4,qnq]
  by_cases h:qoT (chr s i) i
  ·have h2:qEJ s i=true:=by simp[qEJ,h]
   rw[h2,Bool.true_and,<-ih];simp[qah,qab,qHc s hs i hlt _ (qhA hlt),h]
  ·have h2:qEJ s i=false:=by simp[qEJ,h]
   simp[qah,qab,qHc s hs i hlt _ (qhA hlt),h,h2]
def qg6(s:ByteArray):Bool:=qjA s qEJ 0 s.size&&inB s.size 1 8
theorem qnK(s:ByteArray)(hs:s.size<=1099511627776):qad XV 59 [.d (.str s)] []=some (.d (.bool (qg6 s)),[]):=by
 rw[qap XV _ _ _ v59 rfl qDw rfl];have h:=qGP s hs s.size 0 (by omega);simp[v59,qLU,qLT,qLP];simp at h;rw[h];cases h1:qjA s qEJ 0 s.size
 ·simp[qg6,h1]
 ·simp[qg6,h1,qia]
def qon(s:ByteArray)(i:Nat):Bool:=qiD (chr s i)||qqN (chr s i)
theorem qHb(s:ByteArray)(hs:s.size<=1099511627776)(i:Nat)(hlt:i<s.size):
 qax XV [] qCz ⟨[(0,.d (.str s)),(5,.d (.int .i64 s.size)),(6,.d (.int .i64 i))],[]⟩=some (if qon s i then(.normal,⟨[(0,.d (.str s)),(5,.d (.int .i64 s.size)),(6,.d (.int .i64 (i+1:Nat)))],[]⟩)else(.ret,⟨[(2,.d (.bool false))],[]⟩)):=by
 have hw:=qan (n:=i) (by omega);have hb:=qhA hlt;simp[qCz,qIu,qLM,qLL,qLK,qLJ,hb,hlt,hw,qmV,qmW];cases h1:qiD (chr s i)
 ·simp[hb,qmW]
  cases h2:qqN (chr s i)<;>simp[hw,qon,h1,h2]
 ·simp[hw,qon,h1]
theorem qGO(s:ByteArray)(hs:s.size<=1099511627776):∀(k i:Nat),i+k=s.size->
 qbm XV [] 0 [0,5,6] qCz ⟨[(0,.d (.str s)),(5,.d (.int .i64 s.size)),(6,.d (.int .i64 i))],[]⟩=
  some (if qjA s qon i k then(.exit 0,⟨[(0,.d (.str s)),(5,.d (.int .i64 s.size)),(6,.d (.int .i64 s.size)),(7,.d (.bool false))],[]⟩)else(.ret,⟨[(2,.d (.bool false))],[]⟩))
 |0,i,hk=>by
  have:i=s.size:=by omega
  subst this;rw[qd4];simp[qah,qab,qCz,qIu,qnp]
 |k+1,i,hk=>by
  have hlt:i<s.size:=by omega
  have ih:=qGO s hs k (i+1) (by omega);rw[qd4,qnq];cases h:qon s i
  ·simp[qah,qab,qHb s hs i hlt,h]
  ·rw[Bool.true_and,<-ih]
   simp[qah,qab,qHb s hs i hlt,h]
def qln(s:ByteArray):Bool:=qjA s qon 0 s.size&&(inB s.size 1 8&&qiD (chr s 0))
theorem qoy(s:ByteArray)(hs:s.size<=1099511627776):qad XV 60 [.d (.str s)] []=some (.d (.bool (qln s)),[]):=by
 rw[qap XV _ _ _ v60 rfl qDv rfl];have h:=qGO s hs s.size 0 (by omega);simp[v60,qLO,qLN,qLI];simp at h;rw[h];cases h1:qjA s qon 0 s.size
 ·simp[qln,h1]
 ·simp[qln,h1,qif]
  cases h2:inB s.size 1 8
  ·simp[h2]
  ·have h3:0<s.size:=by simp[inB]at h2;omega
   simp[h2,qhA h3,qmV]
theorem qEI(s:ByteArray)(i:Nat):qEJ s i=true↔(97<=chr s i/\chr s i<=122)\/(0<i/\48<=chr s i/\chr s i<=57):=by
 unfold qEJ;rw[decide_eq_true_eq];rfl
theorem qAC(s:ByteArray)(i:Nat):qon s i=true↔(97<=chr s i/\chr s i<=122)\/(48<=chr s i/\chr s i<=57):=by
 simp[qon,qiD,qqN]
theorem qvx(x:Int):qiD x=true↔97<=x/\x<=122:=by simp[qiD]
theorem qse(s:ByteArray):qln s=qg6 s:=by
 rw[Bool.eq_iff_iff];simp only[qg6,qln,Bool.and_eq_true,qCN,qEI,qAC,qvx];constructor
 ·rintro⟨h1,h2,h3⟩
  refine⟨fun j hj hj2=> ?_,h2⟩;have h4:=h1 j hj hj2;rcases Nat.eq_zero_or_pos j with rfl|hp
  ·exact .inl h3
  ·omega
 ·rintro⟨h1,h2⟩
  have h0:0<s.size:=by simp[inB]at h2;omega
  have h5:=h1 0 (Nat.le_refl _) (by omega);refine⟨fun j hj hj2=> ?_,h2,?_⟩
  ·have h4:=h1 j hj hj2
   omega
  ·omega
end Go.Proofs.Ytfiakfiocdfpbaa.VS
namespace Go.Proofs.Ytfiakfiocdfpbaa.VS
def qao(q:Nat->Bool):Nat->Nat->Option Nat
 |0,_=>none
 |k+1,i=>if q i then some i else qao q k (i+1)
def qbT(q:Nat->Bool)(_:Unit)(i:Nat):Unit⊕Nat:=if q i then .inr i else .inl ()
theorem qpt(q:Nat->Bool):∀(k i:Nat),runN (qbT q) k () i=match qao q k i with|some j=> .inr j|none=> .inl ()
 |0,i=>rfl
 |k+1,i=>by
  simp only[runN,qbT,qao];cases h:q i
  ·simp[qpt q k (i+1)]
  ·simp
def qdA:Option Nat->Int
 |some j=>j
 |none=> -1
theorem qcE(q:Nat->Bool):∀(k i j:Nat),qao q k i=some j->i<=j/\j<i+k/\q j=true
 |0,i,j,h=>by simp[qao]at h
 |k+1,i,j,h=>by
  simp only[qao]at h;split at h
  ·simp at h;subst h;exact⟨Nat.le_refl _,by omega,by assumption⟩
  ·obtain⟨h1,h2,h3⟩:=qcE q k (i+1) j h;exact⟨by omega,by omega,h3⟩
def qd2(l:List SymL)(name:ByteArray):Int:=qdA (qao (fun i=>qf1 (qaG l i).name name) l.length 0)
theorem qpl(l:List SymL)(name:ByteArray)(hl:l.length<=1099511627776):qad XV 13 [.d (sg l),.d (.str name)] []=some (.d (.int .i64 (qd2 l name)),[]):=by
 rw[qap XV _ _ _ v13 rfl qDJ rfl];have h:=qau (X:=XV) (T:=[]) (L:=0) (live:=[0,1,5]) (b:=qCF) (n:=l.length) (st:=fun(_:Unit) i=>⟨[(0,.d (sg l)),(1,.d (.str name)),(5,.d (.int .i64 i))],[]⟩) (step:=qbT fun i=>qf1 (qaG l i).name name)
  (F:=fun _=>(.exit 0,⟨[(0,.d (sg l)),(1,.d (.str name)),(5,.d (.int .i64 l.length)),(9,.d (.bool false))],[]⟩)) (R:=fun(j:Nat)=>(.ret,⟨[(4,.d (.int .i64 j))],[]⟩))
  (fun a=>⟨by simp,by simp[qCF,qwk,qwj,qwi,qwg,qwf,qwh,qwe]⟩)
  (fun a i hi=>by
   have hw:=qan (n:=i) (by omega);unfold qbT
   by_cases hq:qf1 (qaG l i).name name=true
   ·rw[if_pos hq];exact⟨by simp,by simp[qCF,qwk,qwj,qwi,qwg,qwf,qwh,qwe,hi,hw,cut,qaz hi,hq]⟩
   ·rw[if_neg hq]
    have hq':qf1 (qaG l i).name name=false:=by simpa using hq
    exact⟨_,by simp[qCF,qwk,qwj,qwi,qwg,qwf,qwh,qwe,hi,hw,cut,qaz hi,hq'];rfl,by simp[qah,qab]⟩)
  l.length () 0 ⟨[(0,.d (sg l)),(1,.d (.str name)),(5,.d (.int .i64 0))],[]⟩ (by omega) (by simp[qah,qab])
 rw[qpt]at h;simp[v13,qwk,qwj,qwi,qwg,qwf,qwh,qwe];rw[h];unfold qd2;cases hq:qao (fun i=>qf1 (qaG l i).name name) l.length 0<;>simp[qdA,v13,qwk,qwj,qwi,qwg,qwf,qwh,qwe]
theorem qou(l:List SymL)(fk:Nat)(caps:List AV)(B:qal)(P:SymL->Bool)(hl:l.length<=1099511627776)(hs:AV.safe.safes B.length caps=true)(hcc:caps.map AV.clr=caps)(hk:¬0∈XV.lin fk)
 (hf:∀s,s∈l->qad XV fk (.d s.enc::caps) B=some (.d (.bool (P s)),B)):
 qad XV 19 [.d (sg l),.fn fk caps] B=some (.d (.int .i64 (qdA (qao (fun i=>P (qaG l i)) l.length 0))),B):=by
 rw[qap XV _ _ _ v19 rfl qDG rfl];have h:=qau (X:=XV) (T:=XV.lin 19) (L:=B.length) (live:=[0,1,7,8]) (b:=qCE) (n:=l.length) (st:=fun(_:Unit) i=>⟨[(0,.d (sg l)),(1,.fn fk caps),(7,.d (.int .i64 l.length)),(8,.d (.int .i64 i))],B⟩) (step:=qbT fun i=>P (qaG l i))
  (F:=fun _=>(.exit 0,⟨[(0,.d (sg l)),(1,.fn fk caps),(7,.d (.int .i64 l.length)),(8,.d (.int .i64 l.length)),(9,.d (.bool false))],B⟩)) (R:=fun(j:Nat)=>(.ret,⟨[(4,.d (.int .i64 j))],B⟩))
  (fun a=>⟨by simp,by simp[qCE,qwd,qwc,qwb,qwa,qv9,qv8,qv7,qv6,hcc]⟩)
  (fun a i hi=>by
   have hw:=qan (n:=i) (by omega);have hc:=hf _ (qpd hi);unfold qbT
   by_cases hq:P (qaG l i)=true
   ·rw[if_pos hq];rw[hq]at hc
    exact⟨by simp,by simp[qCE,qwd,qwc,qwb,qwa,qv9,qv8,qv7,qv6,hi,hw,cut,qaz hi,hc,hcc,hk]⟩
   ·rw[if_neg hq]
    have hq':P (qaG l i)=false:=by simpa using hq
    rw[hq']at hc;exact⟨_,by simp[qCE,qwd,qwc,qwb,qwa,qv9,qv8,qv7,qv6,hi,hw,cut,qaz hi,hc,hcc,hk];rfl,by simp[qah,qab,hs]⟩)
  l.length () 0 ⟨[(0,.d (sg l)),(1,.fn fk caps),(7,.d (.int .i64 l.length)),(8,.d (.int .i64 0))],B⟩ (by omega) (by simp[qah,qab,hs])
 rw[qpt]at h;simp only[qNu]at h;simp[v19,qwd,qwc,qwb,qwa,qv9,qv8,qv7,qv6,hcc];rw[h];cases hq:qao (fun i=>P (qaG l i)) l.length 0<;>simp[qdA,v19,qwd,qwc,qwb,qwa,qv9,qv8,qv7,qv6]
theorem qyZ(s:SymL)(name:ByteArray):qad XV 18 [.d s.enc,.ptr 0 0] [some [.d (.str name)]]=some (.d (.bool (qf1 s.name name)),[some [.d (.str name)]]):=by
 rw[qap XV _ _ _ v18 rfl qDH rfl];simp[v18,qMh,qMg]
theorem qqq(l:List SymL)(name:ByteArray)(hl:l.length<=1099511627776):qad XV 14 [.d (sg l),.d (.str name)] []=some (.d (.int .i64 (qd2 l name)),[]):=by
 rw[qap XV _ _ _ v14 rfl qDI rfl];have hc:=qou l 18 [.ptr 0 0] [some [.d (.str name)]] (fun s=>qf1 s.name name) hl (by simp) (by simp) (by simp) (fun s _=>qyZ s name);simp[v14,qMj,qMi,hc,qd2]
def qd9(l:List SymL)(s:SymL)(i:Nat):Bool:= !qg6 s.name|| !(decide (qd2 l s.name=i))|| !(inB s.arity 0 3)||(s.ac&& !decide (s.arity=2))
def ttB(s:SymL):Bool:=qf1 s.name ⟨#[116,116]⟩&&decide (s.arity=0)
def qkf(l:List SymL):Bool:=(qao (fun i=>qd9 l (qaG l i) i) l.length 0).isNone&&(inB l.length 1 8&&ttB (qaG l 0))
theorem qds(l:List SymL)(s:SymL)(i:Nat):qd9 l s i=false↔qg6 s.name=true/\qd2 l s.name=i/\inB s.arity 0 3=true/\(s.ac=true->s.arity=2):=by
 simp[qd9,and_assoc]
theorem qOn(l:List SymL)(hl:l.length<=1099511627776)(i:Nat)(hi:i<l.length)(hn:(qaG l i).name.size<=1099511627776):
 qHJ 0 [0,5,6,7] (fun(_:Unit) i=>⟨[(0,.d (sg l)),(5,.d (sg l)),(6,.d (.int .i64 l.length)),(7,.d (.int .i64 i))],[]⟩) (fun(_:Nat)=>(.ret,⟨[(2,.d (.bool false))],[some [.d (.str (qaG l i).name),.d (.int .i64 (qaG l i).arity),.d (.bool (qaG l i).ac)]]⟩)) i
  (qax XV (XV.lin 77) qmr ⟨[(0,.d (sg l)),(5,.d (sg l)),(6,.d (.int .i64 l.length)),(7,.d (.int .i64 i))],[]⟩) (qbT (fun i=>qd9 l (qaG l i) i) () i):=by
 have hw:=qan (n:=i) (by omega);have n1:=qoy (qaG l i).name hn;rw[qse]at n1;have n2:=qqq l (qaG l i).name hl;have n3:=qif (qaG l i).arity 0 3;unfold qbT
 by_cases hb:qd9 l (qaG l i) i=true
 ·rw[if_pos hb]
  refine⟨by simp,?_⟩;cases c1:qg6 (qaG l i).name with
  |false=>rw[c1]at n1;simp[qmr,qh2,qh1,qh0,qhZ,qhY,qhX,qhW,qhV,hi,hw,cut,qaz hi,n1,splice]
  |true=>
   rw[c1]at n1
   by_cases c2:qd2 l (qaG l i).name=i
   ·have b2:(qd2 l (qaG l i).name !=i)=false:=by simp[c2]
    cases c3:inB (qaG l i).arity 0 3 with
    |false=>rw[c3]at n3;simp[qmr,qh2,qh1,qh0,qhZ,qhY,qhX,qhW,qhV,hi,hw,cut,qaz hi,n1,n2,b2,n3,splice]
    |true=>
     rw[c3]at n3;have c4:(qaG l i).ac=true/\¬(qaG l i).arity=2:=by
      have:¬qd9 l (qaG l i) i=false:=by simp[hb]
      rw[qds]at this;simp only[c1,c2,c3,true_and]at this;exact Classical.not_imp.1 this
     have b4:((qaG l i).arity !=2)=true:=by simp[c4.2]
     simp[qmr,qh2,qh1,qh0,qhZ,qhY,qhX,qhW,qhV,hi,hw,cut,qaz hi,n1,n2,b2,n3,splice,c4.1,b4]
   ·have b2:(qd2 l (qaG l i).name !=i)=true:=by simp[c2]
    simp[qmr,qh2,qh1,qh0,qhZ,qhY,qhX,qhW,qhV,hi,hw,cut,qaz hi,n1,n2,b2,splice]
 ·have hb':qd9 l (qaG l i) i=false:=by simpa using hb
  rw[if_neg hb];obtain⟨c1,c2,c3,c4⟩:=(qds l _ i).1 hb';have b2:(qd2 l (qaG l i).name !=i)=false:=by simp[c2]
  rw[c1]at n1;rw[c3]at n3
  cases c5:(qaG l i).ac with
  |false=>exact⟨_,by simp[qmr,qh2,qh1,qh0,qhZ,qhY,qhX,qhW,qhV,hi,hw,cut,qaz hi,n1,n2,b2,n3,splice,c5];rfl,by simp[qah,qab]⟩
  |true=>
   have b4:((qaG l i).arity !=2)=false:=by simp[c4 c5]
   exact⟨_,by simp[qmr,qh2,qh1,qh0,qhZ,qhY,qhX,qhW,qhV,hi,hw,cut,qaz hi,n1,n2,b2,n3,splice,c5,b4];rfl,by simp[qah,qab]⟩
theorem qqs(l:List SymL)(hl:l.length<=1099511627776)(hn:∀i,i<l.length->(qaG l i).name.size<=1099511627776):qad XV 77 [.d (sg l)] []=some (.d (.bool (qkf l)),[]):=by
 rw[qap XV _ _ _ v77 rfl qDk rfl];have h:=qau (X:=XV) (T:=XV.lin 77) (L:=0) (live:=[0,5,6,7]) (b:=qmr) (n:=l.length) (γ:=Nat) (st:=fun(_:Unit) i=>⟨[(0,.d (sg l)),(5,.d (sg l)),(6,.d (.int .i64 l.length)),(7,.d (.int .i64 i))],[]⟩) (step:=qbT fun i=>qd9 l (qaG l i) i)
  (F:=fun _=>(.exit 0,⟨[(0,.d (sg l)),(5,.d (sg l)),(6,.d (.int .i64 l.length)),(7,.d (.int .i64 l.length)),(8,.d (.bool false))],[]⟩)) (R:=fun j=>(.ret,⟨[(2,.d (.bool false))],[some [.d (.str (qaG l j).name),.d (.int .i64 (qaG l j).arity),.d (.bool (qaG l j).ac)]]⟩))
  (fun a=>⟨by simp,by simp[qmr,qh2,qh1,qh0,qhZ,qhY,qhX,qhW,qhV]⟩)
  (fun a i hi=>by
   have hb:=qOn l hl i hi (hn i hi);unfold qbT at hb⊢
   split at hb
   ·rename_i h1;rw[if_pos h1];exact hb
   ·rename_i h1;rw[if_neg h1];exact hb)
  l.length () 0 ⟨[(0,.d (sg l)),(5,.d (sg l)),(6,.d (.int .i64 l.length)),(7,.d (.int .i64 0))],[]⟩ (by omega) (by simp[qah,qab])
 rw[qpt]at h;simp only[qNr]at h;simp[v77,qh2,qh1,qh0,qhZ,qhY,qhX,qhW,qhV];rw[h];unfold qkf;cases hq:qao (fun i=>qd9 l (qaG l i) i) l.length 0 with
 |some j=>simp
 |none=>
  have n3:=qif l.length 1 8;cases c1:inB l.length 1 8 with
  |false=>rw[c1]at n3;simp[v77,qh2,qh1,qh0,qhZ,qhY,qhX,qhW,qhV,n3]
  |true=>
   rw[c1]at n3;have h0:0<l.length:=by simp[inB]at c1;omega
   unfold ttB;cases c2:qf1 (qaG l 0).name ⟨#[116,116]⟩with
   |false=>simp[v77,qh2,qh1,qh0,qhZ,qhY,qhX,qhW,qhV,n3,h0,qaz h0,cut,c2]
   |true=>
    by_cases c3:(qaG l 0).arity=0
    ·simp[v77,qh2,qh1,qh0,qhZ,qhY,qhX,qhW,qhV,n3,h0,qaz h0,cut,c2,c3]
    ·have b3:((qaG l 0).arity==0)=false:=by simp[c3]
     simp[v77,qh2,qh1,qh0,qhZ,qhY,qhX,qhW,qhV,n3,h0,qaz h0,cut,c2,c3,b3]
theorem qpm(l:List SymL)(hl:l.length<=1099511627776)(hn:∀i,i<l.length->(qaG l i).name.size<=1099511627776):qad XV 82 [.d (sg l)] []=some (.d (.bool (qkf l)),[]):=by
 rw[qap XV _ _ _ v82 rfl qDf rfl];have h:=qau (X:=XV) (T:=XV.lin 82) (L:=0) (live:=[0,3]) (b:=qoO) (n:=l.length) (γ:=Nat) (st:=fun(_:Unit) i=>⟨[(0,.d (sg l)),(3,.d (.int .i64 i))],[]⟩) (step:=qbT fun i=>qd9 l (qaG l i) i)
  (F:=fun _=>(.exit 0,⟨[(0,.d (sg l)),(3,.d (.int .i64 l.length)),(7,.d (.bool false))],[]⟩)) (R:=fun j=>(.ret,⟨[(2,.d (.bool false))],[]⟩))
  (fun a=>⟨by simp,by simp[qoO,qku,qkt,qks,qkq,qkp,qkr,qko]⟩)
  (fun a i hi=>by
   have hw:=qan (n:=i) (by omega);have n1:=qnK (qaG l i).name (hn i hi);have n2:=qpl l (qaG l i).name hl;have n3:=qia (qaG l i).arity 0 3;unfold qbT
   by_cases hb:qd9 l (qaG l i) i=true
   ·rw[if_pos hb]
    refine⟨by simp,?_⟩;cases c1:qg6 (qaG l i).name with
    |false=>rw[c1]at n1;simp[qoO,qku,qkt,qks,qkq,qkp,qkr,qko,hi,hw,cut,qaz hi,n1,splice]
    |true=>
     rw[c1]at n1
     by_cases c2:qd2 l (qaG l i).name=i
     ·have b2:(qd2 l (qaG l i).name !=i)=false:=by simp[c2]
      cases c3:inB (qaG l i).arity 0 3 with
      |false=>rw[c3]at n3;simp[qoO,qku,qkt,qks,qkq,qkp,qkr,qko,hi,hw,cut,qaz hi,n1,n2,b2,n3,splice]
      |true=>
       rw[c3]at n3;have c4:(qaG l i).ac=true/\¬(qaG l i).arity=2:=by
        have:¬qd9 l (qaG l i) i=false:=by simp[hb]
        rw[qds]at this;simp only[c1,c2,c3,true_and]at this;exact Classical.not_imp.1 this
       have b4:((qaG l i).arity !=2)=true:=by simp[c4.2]
       simp[qoO,qku,qkt,qks,qkq,qkp,qkr,qko,hi,hw,cut,qaz hi,n1,n2,b2,n3,splice,c4.1,b4]
     ·have b2:(qd2 l (qaG l i).name !=i)=true:=by simp[c2]
      simp[qoO,qku,qkt,qks,qkq,qkp,qkr,qko,hi,hw,cut,qaz hi,n1,n2,b2,splice]
   ·have hb':qd9 l (qaG l i) i=false:=by simpa using hb
    rw[if_neg hb];obtain⟨c1,c2,c3,c4⟩:=(qds l _ i).1 hb';have b2:(qd2 l (qaG l i).name !=i)=false:=by simp[c2]
    rw[c1]at n1;rw[c3]at n3
    cases c5:(qaG l i).ac with
    |false=>exact⟨_,by simp[qoO,qku,qkt,qks,qkq,qkp,qkr,qko,hi,hw,cut,qaz hi,n1,n2,b2,n3,splice,c5];rfl,by simp[qah,qab]⟩
    |true=>
     have b4:((qaG l i).arity !=2)=false:=by simp[c4 c5]
     exact⟨_,by simp[qoO,qku,qkt,qks,qkq,qkp,qkr,qko,hi,hw,cut,qaz hi,n1,n2,b2,n3,splice,c5,b4];rfl,by simp[qah,qab]⟩)
  l.length () 0 ⟨[(0,.d (sg l)),(3,.d (.int .i64 0))],[]⟩ (by omega) (by simp[qah,qab])
 rw[qpt]at h;simp only[qNq]at h;simp[v82,qku,qkt,qks,qkq,qkp,qkr,qko];rw[h];unfold qkf;cases hq:qao (fun i=>qd9 l (qaG l i) i) l.length 0 with
 |some j=>simp
 |none=>
  have n3:=qia l.length 1 8;cases c1:inB l.length 1 8 with
  |false=>rw[c1]at n3;simp[v82,qku,qkt,qks,qkq,qkp,qkr,qko,n3]
  |true=>
   rw[c1]at n3;have h0:0<l.length:=by simp[inB]at c1;omega
   have hnone:∀(q:Nat->Bool) (k i j:Nat),qao q k i=none->i<=j->j<i+k->q j=false:=by
    intro q k
    induction k with
    |zero=>intro i j _ h1 h2;omega
    |succ k ih=>
     intro i j hf h1 h2;simp only[qao]at hf;split at hf
     ·simp at hf
     ·rcases Nat.eq_or_lt_of_le h1 with rfl|h1
      ·simpa using ‹¬q i=true›
      ·exact ih (i+1) j hf h1 (by omega)
   have hb0:=hnone _ _ _ 0 hq (Nat.le_refl _) (by omega);obtain⟨_,_,_,c4⟩:=(qds l (qaG l 0) 0).1 hb0;have key:qbw [2,0,1] [.str (qaG l 0).name,.int .i64 (qaG l 0).arity,.bool (qaG l 0).ac] [.str ⟨#[116,116]⟩,.int .i64 0,.bool false]=some (ttB (qaG l 0)):=by
    unfold ttB;cases c2:qf1 (qaG l 0).name ⟨#[116,116]⟩<;>by_cases c3:(qaG l 0).arity=0<;>cases c5:(qaG l 0).ac<;>simp[qbw,c2,c3,c5]
    have:=c4 c5;omega
   have key2:∀s s':SymL,qBO false [2,0,1] (some (.d s.enc)) (some (.d s'.enc))=(qbw [2,0,1] [.str s.name,.int .i64 s.arity,.bool s.ac] [.str s'.name,.int .i64 s'.arity,.bool s'.ac]).map fun e=> .d (.bool e):=fun s s'=>by
    show(qbw [2,0,1] s.cells s'.cells).map _=_;simp[SymL.cells]
   simp[v82,qku,qkt,qks,qkq,qkp,qkr,qko,n3,h0,qaz h0,cut,key2,key,splice]
end Go.Proofs.Ytfiakfiocdfpbaa.VS
namespace Go.Proofs.Ytfiakfiocdfpbaa.VS
theorem qgo(q:Nat->Bool):∀(k i j:Nat),qao q k i=none->i<=j->j<i+k->q j=false
 |0,i,j,_,h1,h2=>by omega
 |k+1,i,j,hf,h1,h2=>by
  simp only[qao]at hf;split at hf
  ·simp at hf
  ·rename_i hq
   by_cases he:j=i
   ·subst he;simpa using hq
   ·exact qgo q k (i+1) j hf (by omega) (by omega)
theorem qga(l:List Int)(n:Int):decide (0<=qdA (qao (fun i=>n==iAt l i) l.length 0))=l.contains n:=by
 cases hq:qao (fun i=>n==iAt l i) l.length 0 with
 |none=>
  have h:=fun j=>qgo _ _ _ j hq
  have hc:l.contains n=false:=by
   rw[Bool.eq_false_iff];intro hm;rw[List.contains_iff_mem]at hm;obtain⟨j,hj⟩:=List.mem_iff_getElem?.1 hm;have hlt:j<l.length:=(List.getElem?_eq_some_iff.1 hj).1;have:=h j (Nat.zero_le _) (by omega);simp[iAt,hj]at this
  rw[hc];simp[qdA]
 |some j=>
  obtain⟨h1,h2,h3⟩:=qcE _ _ _ _ hq;have hlt:j<l.length:=by omega
  have hc:l.contains n=true:=by
   rw[List.contains_iff_mem];simp only[beq_iff_eq]at h3;rw[h3,<-qc0 hlt];exact List.getElem_mem hlt
  rw[hc];simp[qdA]
theorem qi9(q:Nat->Bool):∀(k i j:Nat),qao q k i=some j->∀a,i<=a->a<j->q a=false
 |0,i,j,h,a,_,_=>by simp[qao]at h
 |k+1,i,j,h,a,h1,h2=>by
  simp only[qao]at h;split at h
  ·simp at h;omega
  ·rename_i hq
   by_cases he:a=i
   ·subst he;simpa using hq
   ·exact qi9 q k (i+1) j h a (by omega) h2
theorem qja(q q':Nat->Bool):∀(k i:Nat),(∀j,i<=j->j<i+k->q j=q' j)->qao q k i=qao q' k i
 |0,i,h=>rfl
 |k+1,i,h=>by
  simp only[qao];rw[h i (Nat.le_refl _) (by omega),qja q q' k (i+1) (fun j h1 h2=>h j (by omega) (by omega))]
theorem qeg(l:List Int)(q:Int->Bool):l.findIdx q=match qao (fun i=>q (iAt l i)) l.length 0 with|some j=>j|none=>l.length:=by
 cases hq:qao (fun i=>q (iAt l i)) l.length 0 with
 |none=>
  have h:=fun j=>qgo _ _ _ j hq
  simp only;apply List.findIdx_eq_length.2;intro x hx;obtain⟨j,hj⟩:=List.mem_iff_getElem?.1 hx;have hlt:j<l.length:=(List.getElem?_eq_some_iff.1 hj).1;have:=h j (Nat.zero_le _) (by omega);simpa[iAt,hj]using this
 |some j=>
  obtain⟨h1,h2,h3⟩:=qcE _ _ _ _ hq;simp only;have hlt:j<l.length:=by omega
  rw[List.findIdx_eq hlt];refine⟨by rw[qc0 hlt];exact h3,fun i hi=> ?_⟩;have hi':i<l.length:=by omega
  rw[qc0 hi'];exact qi9 _ _ _ _ hq i (Nat.zero_le _) hi
section
variable (X:XEnv)
theorem qA6(hn:X.nat 56=none)(hc:X.env.code 56=some v56)(ht:X.lin 56=[])(l:List Int)(n:Int)(B:qal)(hl:l.length<=140737488355328)(hb56:X.env.base 56=none:=by first|rfl|assumption):
 qad X 56 [.d (is l),.d (.int .i64 n)] B=some (.d (.int .i64 (qdA (qao (fun i=>n==iAt l i) l.length 0))),B):=by
 rw[qap X _ _ _ v56 hn hc rfl];have h:=qau (X:=X) (T:=[]) (L:=B.length) (live:=[0,1,7,8]) (b:=qCB) (n:=l.length) (st:=fun(_:Unit) i=>⟨[(0,.d (is l)),(1,.d (.int .i64 n)),(7,.d (.int .i64 l.length)),(8,.d (.int .i64 i))],B⟩) (step:=qbT fun i=>n==iAt l i)
  (F:=fun _=>(.exit 0,⟨[(0,.d (is l)),(1,.d (.int .i64 n)),(7,.d (.int .i64 l.length)),(8,.d (.int .i64 l.length)),(9,.d (.bool false))],B⟩)) (R:=fun(j:Nat)=>(.ret,⟨[(4,.d (.int .i64 j))],B⟩))
  (fun a=>⟨by simp,by simp[qCB,qvX,qvW,qvV,qvU,qvT,qvS,qvR,qvQ]⟩)
  (fun a i hi=>by
   have hw:=qan (n:=i) (by omega);unfold qbT
   by_cases hq:(n==iAt l i)=true
   ·rw[if_pos hq]
    exact⟨by simp,by simp[qCB,qvX,qvW,qvV,qvU,qvT,qvS,qvR,qvQ,hi,hw,cut,qc0 hi,hq]⟩
   ·rw[if_neg hq]
    have hq':(n==iAt l i)=false:=by simpa using hq
    exact⟨_,by simp[qCB,qvX,qvW,qvV,qvU,qvT,qvS,qvR,qvQ,hi,hw,cut,qc0 hi,hq'];rfl,by simp[qah,qab]⟩)
  l.length () 0 ⟨[(0,.d (is l)),(1,.d (.int .i64 n)),(7,.d (.int .i64 l.length)),(8,.d (.int .i64 0))],B⟩ (by omega) (by simp[qah,qab])
 rw[qpt]at h;simp[v56,qvX,qvW,qvV,qvU,qvT,qvS,qvR,qvQ,ht];rw[h];cases hq:qao (fun i=>n==iAt l i) l.length 0<;>simp[qdA,v56,qvX,qvW,qvV,qvU,qvT,qvS,qvR,qvQ]
theorem qot(hn:X.nat 47=none)(hc:X.env.code 47=some v47)(ht:X.lin 47=[])(l:List Int)(fk:Nat)(caps:List AV)(B:qal)(P:Int->Bool)(hl:l.length<=140737488355328)(hs:AV.safe.safes B.length caps=true)(hcc:caps.map AV.clr=caps)(hk:X.lin fk=[])
 (hf:∀s,s∈l->qad X fk (.d (.int .i64 s)::caps) B=some (.d (.bool (P s)),B)) (hb47:X.env.base 47=none:=by first|rfl|assumption):
 qad X 47 [.d (is l),.fn fk caps] B=some (.d (.int .i64 (qdA (qao (fun i=>P (iAt l i)) l.length 0))),B):=by
 rw[qap X _ _ _ v47 hn hc rfl];have h:=qau (X:=X) (T:=[]) (L:=B.length) (live:=[0,1,7,8]) (b:=qCD) (n:=l.length) (st:=fun(_:Unit) i=>⟨[(0,.d (is l)),(1,.fn fk caps),(7,.d (.int .i64 l.length)),(8,.d (.int .i64 i))],B⟩) (step:=qbT fun i=>P (iAt l i))
  (F:=fun _=>(.exit 0,⟨[(0,.d (is l)),(1,.fn fk caps),(7,.d (.int .i64 l.length)),(8,.d (.int .i64 l.length)),(9,.d (.bool false))],B⟩)) (R:=fun(j:Nat)=>(.ret,⟨[(4,.d (.int .i64 j))],B⟩))
  (fun a=>⟨by simp,by simp[qCD,qv5,qv4,qv3,qv2,qv1,qv0,qvZ,qvY,hcc]⟩)
  (fun a i hi=>by
   have hw:=qan (n:=i) (by omega);have hc:=hf (iAt l i) (by rw[<-qc0 hi];exact List.getElem_mem hi);unfold qbT
   by_cases hq:P (iAt l i)=true
   ·rw[if_pos hq];rw[hq]at hc
    exact⟨by simp,by simp[qCD,qv5,qv4,qv3,qv2,qv1,qv0,qvZ,qvY,hi,hw,cut,qc0 hi,hc,hcc,hk]⟩
   ·rw[if_neg hq]
    have hq':P (iAt l i)=false:=by simpa using hq
    rw[hq']at hc;exact⟨_,by simp[qCD,qv5,qv4,qv3,qv2,qv1,qv0,qvZ,qvY,hi,hw,cut,qc0 hi,hc,hcc,hk];rfl,by simp[qah,qab,hs]⟩)
  l.length () 0 ⟨[(0,.d (is l)),(1,.fn fk caps),(7,.d (.int .i64 l.length)),(8,.d (.int .i64 0))],B⟩ (by omega) (by simp[qah,qab,hs])
 rw[qpt]at h;simp[v47,qv5,qv4,qv3,qv2,qv1,qv0,qvZ,qvY,hcc,ht];rw[h];cases hq:qao (fun i=>P (iAt l i)) l.length 0<;>simp[qdA,v47,qv5,qv4,qv3,qv2,qv1,qv0,qvZ,qvY]
theorem qqR(hn:X.nat 55=none)(hc:X.env.code 55=some v55)(ht:X.lin 55=[])(hn':X.nat 56=none)(hc':X.env.code 56=some v56)(ht':X.lin 56=[])(l:List Int)(n:Int)(hl:l.length<=140737488355328)(hb55:X.env.base 55=none:=by first|rfl|assumption)(hb56:X.env.base 56=none:=by first|rfl|assumption):
 qad X 55 [.d (is l),.d (.int .i64 n)] []=some (.d (.bool (l.contains n)),[]):=by
 rw[qap X _ _ _ v55 hn hc rfl];have h:=qA6 X hn' hc' ht' l n [] hl;have hf:=qga l n;simp[v55,qLW,qLV,ht,h];simpa using hf
theorem qAD(hn0:X.nat 54=none)(hc0:X.env.code 54=some v54)(ht0:X.lin 54=[])(hn:X.nat 55=none)(hc:X.env.code 55=some v55)(ht:X.lin 55=[])(hn':X.nat 56=none)(hc':X.env.code 56=some v56)(ht':X.lin 56=[])(l:List Int)(n:Int)(hl:l.length<=140737488355328)(hb54:X.env.base 54=none:=by first|rfl|assumption)(hb55:X.env.base 55=none:=by first|rfl|assumption)(hb56:X.env.base 56=none:=by first|rfl|assumption):
 qad X 54 [.d (is l),.d (.int .i64 n)] []=some (.d (.bool (l.contains n)),[]):=by
 rw[qap X _ _ _ v54 hn0 hc0 rfl];have h:=qqR X hn hc ht hn' hc' ht' l n hl;simp[v54,qLY,qLX,ht0,h]
theorem qNH(hn:X.nat 108=none)(hc:X.env.code 108=some qFH)(ht:X.lin 108=[])(x n:Int)(hb108:X.env.base 108=none:=by first|rfl|assumption):qad X 108 [.d (.int .i64 x),.ptr 0 0] [some [.d (.int .i64 n)]]=some (.d (.bool (decide (x>n))),[some [.d (.int .i64 n)]]):=by
 rw[qap X _ _ _ qFH hn hc rfl];simp[qFH,qGy,qGx,ht]
theorem qsr(hn:X.nat 47=none)(hc:X.env.code 47=some v47)(ht:X.lin 47=[])(hn':X.nat 108=none)(hc':X.env.code 108=some qFH)(ht':X.lin 108=[])(l:List Int)(n:Int)(hl:l.length<=140737488355328)(hb47:X.env.base 47=none:=by first|rfl|assumption)(hb108:X.env.base 108=none:=by first|rfl|assumption):
 qad X 47 [.d (is l),.fn 108 [.ptr 0 0]] [some [.d (.int .i64 n)]]=some (.d (.int .i64 (qdA (qao (fun i=>decide (iAt l i>n)) l.length 0))),[some [.d (.int .i64 n)]]):=
 qot X hn hc ht l 108 [.ptr 0 0] [some [.d (.int .i64 n)]] (fun x=>decide (x>n)) hl (by simp[qs7,qbg,qhS]) rfl ht' (fun s _=>qNH X hn' hc' ht' s n)
end
end Go.Proofs.Ytfiakfiocdfpbaa.VS
namespace Go.Proofs.Ytfiakfiocdfpbaa.VS
def qe9(ks:List T)(i:Nat):Nat:=(ks.length-i)+T.inners (ks.drop i)
theorem qki(ks:List T):qe9 ks 0=ks.length+T.inners ks:=by simp[qe9]
theorem qkj{ks:List T}{i:Nat}(h:i<ks.length):qe9 ks i=(tAt ks i).inner+1+qe9 ks (i+1):=by
 unfold qe9;rw[List.drop_eq_getElem_cons h,qaF h];simp only[T.inners];omega
mutual
theorem quv{σ:Type}{I:Nat->σ->Prop}{e:T->σ->σ}(hI:∀n s x,I (n+1) s->I n (e x s)):∀(t:T) (n:Nat) (s:σ),I (t.inner+1+n) s->I n (T.fold e t s)
 | .node f v ks,n,s,h=>by
  simp only[T.inner]at h;simp only[T.fold];exact qBu hI ks n _ (hI _ _ _ (by rw[show ks.length+T.inners ks+n+1=ks.length+T.inners ks+1+n by omega];exact h))
theorem qBu{σ:Type}{I:Nat->σ->Prop}{e:T->σ->σ}(hI:∀n s x,I (n+1) s->I n (e x s)):∀(l:List T) (n:Nat) (s:σ),I (l.length+T.inners l+n) s->I n (T.folds e l s)
 | [],n,s,h=>by simpa[T.folds,T.inners]using h
 |t::r,n,s,h=>by
  simp only[T.folds];simp only[List.length_cons,T.inners]at h;exact qBu hI r n _ (quv hI t _ s (by rw[show t.inner+1+(r.length+T.inners r+n)=r.length+1+(t.inner+T.inners r)+n by omega];exact h))
end
theorem qE9{σ:Type}(I:Nat->σ->Prop)(st:σ->qal)(e:T->σ->σ)(k:Nat)(caps:List AV)(m:Nat)(hm:∀s,(st s).length=m)(hcs:∀n,m<=n->AV.safe.safes n caps=true)(hcc:caps.map AV.clr=caps)(hk:¬0∈XV.lin k)
 (hI:∀n s x,I (n+1) s->I n (e x s)) (f v:Int) (ks:List T) (hl:ks.length<=1099511627776)
 (hf:∀(x:T) (s:σ) (r:qal) (n:Nat),I (n+1) s->qad XV k (.d (x.enc .sub)::caps) (st s++r)=some (.d (.tup []),st (e x s)++r))
 (hrec:∀x,x∈ks->∀(s:σ) (r:qal) (n:Nat),I (x.inner+1+n) s->qad XV 25 [.d (x.enc .sub),.fn k caps] (st s++r)=some (.d (.tup []),st (T.fold e x s)++r)) (s:σ) (r:qal) (n0:Nat) (h0:I (ks.length+T.inners ks+1+n0) s):
 qad XV 25 [.d ((T.node f v ks).enc .sub),.fn k caps] (st s++r)=some (.d (.tup []),st (T.fold e (.node f v ks) s)++r):=by
 rw[qap XV _ _ _ v25 rfl qsS rfl];have h1I:I (ks.length+T.inners ks+n0) (e (.node f v ks) s):=hI _ _ _ (by rw[show ks.length+T.inners ks+n0+1=ks.length+T.inners ks+1+n0 by omega];exact h0);have hf1:=hf (.node f v ks) s (r++[some [.d (.int .i64 f),.d (.int .i64 v),.d (qai .sub ks)]]) (ks.length+T.inners ks+n0) (by rw[show ks.length+T.inners ks+n0+1=ks.length+T.inners ks+1+n0 by omega];exact h0);have len:∀s,(st s++r).length=m+r.length:=fun s=>by simp[hm]
 have hloop:=qg8 (X:=XV) (T:=XV.lin 25) (L:=m+r.length+1) (live:=[1,10,11,12]) (b:=qsM) (n:=ks.length) (γ:=Unit) (st:=fun(s:σ) i=>⟨[(1,.fn k caps),(10,.d (qai .sub ks)),(11,.d (.int .i64 ks.length)),(12,.d (.int .i64 i))],(st s++r)++[some [.d (.int .i64 f),.d (.int .i64 v),.d (qai .sub ks)]]⟩) (step:=qnG e ks)
  (F:=fun s=>(.exit 0,⟨[(1,.fn k caps),(10,.d (qai .sub ks)),(11,.d (.int .i64 ks.length)),(12,.d (.int .i64 ks.length)),(13,.d (.bool false))],(st s++r)++[some [.d (.int .i64 f),.d (.int .i64 v),.d (qai .sub ks)]]⟩)) (R:=fun _=>(.ret,⟨[],[]⟩))
  (fun s i=>I (qe9 ks i+n0) s)
  (fun s _=>⟨by simp,by simp[qsM,qzr,hcc]⟩)
  (fun s i hi hIn=>by
   have hsplit:=qkj hi;rw[show qe9 ks i+n0=(tAt ks i).inner+1+(qe9 ks (i+1)+n0)by omega]at hIn;have hnext:=quv hI (tAt ks i) _ s hIn;refine⟨?_,fun a' ha'=>by unfold qnG at ha';simp only[Sum.inl.injEq]at ha';subst ha';exact hnext⟩;have hw:=qan (n:=i) (by omega);have hr:=hrec _ (qaK hi) s (r++[some [.d (.int .i64 f),.d (.int .i64 v),.d (qai .sub ks)],some [.d (.int .i64 (tAt ks i).f),.d (.int .i64 (tAt ks i).v),.d (qai .sub (tAt ks i).kids)]]) _ hIn;have hln:=len s;have hln2:=len (T.fold e (tAt ks i) s);simp only[<-List.append_assoc]at hr;generalize hB:st s++r=B at hr hln;generalize hB':st (T.fold e (tAt ks i) s)++r=B' at hr hln2;unfold qnG;refine⟨⟨[(1,.fn k caps),(10,.d (qai .sub ks)),(11,.d (.int .i64 ks.length)),(12,.d (.int .i64 (i+1:Nat)))],B'++[some [.d (.int .i64 f),.d (.int .i64 v),.d (qai .sub ks)],some [.d (.int .i64 (tAt ks i).f),.d (.int .i64 (tAt ks i).v),.d (qai .sub (tAt ks i).kids)]]⟩,?_,?_⟩
   ·simp[qsM,qzr,qIG,qIF,qIE,hi,hw,cut,qaF hi,hcc,hr,qs6,get_at,qza,qBe,splice]
   ·refine qcf (e:=[some [.d (.int .i64 (tAt ks i).f),.d (.int .i64 (tAt ks i).v),.d (qai .sub (tAt ks i).kids)]]) (by simp) (by simp[qab,hcs _ (show m<=m+r.length+1 by omega)]) (by simp[hln2,hB']) (by simp[<-hB']))
  ks.length (e (.node f v ks) s) 0 ⟨[(1,.fn k caps),(10,.d (qai .sub ks)),(11,.d (.int .i64 ks.length)),(12,.d (.int .i64 0))],(st (e (.node f v ks) s)++r)++[some [.d (.int .i64 f),.d (.int .i64 v),.d (qai .sub ks)]]⟩ (by omega) (by rw[qki];exact h1I) (qcf (e:=[]) (by simp) (by simp[qab,hcs _ (show m<=m+r.length+1 by omega)]) (by simp[hm];omega) (by simp))
 rw[qOE e ks _ _ _ (by omega)]at hloop;simp only[List.drop_zero]at hloop;have hl0:=len s;have hl1:=len (e (.node f v ks) s);have hl2:(st (T.fold e (.node f v ks) s)++r).length=m+r.length:=len _;have hfin:T.folds e ks (e (.node f v ks) s)=T.fold e (.node f v ks) s:=by simp[T.fold]
 rw[hfin]at hloop;simp only[<-List.append_assoc]at hf1;generalize hB0:st s++r=B0 at hf1 hl0;generalize hB1:st (e (.node f v ks) s)++r=B1 at hf1 hl1 hloop;generalize hB2:st (T.fold e (.node f v ks) s)++r=B2 at hl2 hloop;have hlen:B1.length=B0.length:=by omega
 rw[<-hl1]at hloop;simp only[qai,qGR]at hf1 hloop;simp[v25,qIJ,qII,qIH,qs6,get_at,hf1,hcc,hk,hlen.symm];rw[hloop];simp[show B1.length=B2.length by omega]
theorem quC{σ:Type}(I:Nat->σ->Prop)(st:σ->qal)(e:T->σ->σ)(k:Nat)(caps:List AV)(m:Nat)(hm:∀s,(st s).length=m)(hcs:∀n,m<=n->AV.safe.safes n caps=true)(hcc:caps.map AV.clr=caps)(hk:¬0∈XV.lin k)
 (hI:∀n s x,I (n+1) s->I n (e x s)) (hf:∀(x:T) (s:σ) (r:qal) (n:Nat),I (n+1) s->qad XV k (.d (x.enc .sub)::caps) (st s++r)=some (.d (.tup []),st (e x s)++r)) (t:T) (ht:t.inner<=1099511627776) (s:σ) (r:qal) (n:Nat) (h0:I (t.inner+1+n) s):
 qad XV 25 [.d (t.enc .sub),.fn k caps] (st s++r)=some (.d (.tup []),st (T.fold e t s)++r):=by
 match t,ht with
 | .node f v ks,ht=>
  simp only[T.inner]at ht h0;exact qE9 I st e k caps m hm hcs hcc hk hI f v ks (by omega) hf (fun x hx s r n hn=>quC I st e k caps m hm hcs hcc hk hI hf x (by have:=T.qaE hx;omega) s r n hn) s r n h0
termination_by t
decreasing_by
 simp_wf
 have:=List.sizeOf_lt_of_mem hx;omega
theorem qC9:XV.nat 106=some qed:=rfl
theorem qox(g:Tag)(l:List Int)(n:Int)(B:qal)(hl:l.length<=1099511627777):qad XV 106 [.d (.sl g (l.map (.int .i64))),.d (.int .i64 n)] B=some (.d (.sl U ((qaQ l n).map (.int .i64))),B):=by
 rw[qCp XV 106 _ _ _ qC9];have h:(l.length+1)*8<=140737488355328:=by omega
 simp[qaC,qed,qib,h,U]
theorem qsc(l:List Int)(n:Int):(qaQ l n).length<=l.length+1:=by
 unfold qaQ;split
 ·omega
 ·simp[qlm];have:=List.findIdx_le_length (p:=fun x=>decide (x>n)) (xs:=l);omega
theorem qpo(l:List Int)(n:Int)(hl:l.length<=2199023255552):qad XV 53 [.d (is l),.d (.int .i64 n)] []=some (.d (.bool (l.contains n)),[]):=by
 rw[qap XV _ _ _ v53 rfl qDx rfl];have h:=qau (X:=XV) (T:=[]) (L:=0) (live:=[0,1,5]) (b:=qCC) (n:=l.length) (st:=fun(_:Unit) i=>⟨[(0,.d (is l)),(1,.d (.int .i64 n)),(5,.d (.int .i64 i))],[]⟩) (step:=qbT fun i=>iAt l i==n)
  (F:=fun _=>(.exit 0,⟨[(0,.d (is l)),(1,.d (.int .i64 n)),(5,.d (.int .i64 l.length)),(9,.d (.bool false))],[]⟩)) (R:=fun(j:Nat)=>(.ret,⟨[(4,.d (.bool true))],[]⟩))
  (fun a=>⟨by simp,by simp[qCC,qrS,qrR,qrQ,qrO,qrN,qrP,qrM]⟩)
  (fun a i hi=>by
   have hw:=qan (n:=i) (by omega);unfold qbT
   by_cases hq:(iAt l i==n)=true
   ·rw[if_pos hq]
    exact⟨by simp,by simp[qCC,qrS,qrR,qrQ,qrO,qrN,qrP,qrM,hi,hw,cut,qc0 hi,hq]⟩
   ·rw[if_neg hq]
    have hq':(iAt l i==n)=false:=by simpa using hq
    exact⟨_,by simp[qCC,qrS,qrR,qrQ,qrO,qrN,qrP,qrM,hi,hw,cut,qc0 hi,hq'];rfl,by simp[qah,qab]⟩)
  l.length () 0 ⟨[(0,.d (is l)),(1,.d (.int .i64 n)),(5,.d (.int .i64 0))],[]⟩ (by omega) (by simp[qah,qab])
 rw[qpt]at h;have hc:=qga l n;have hcomm:(fun i=>n==iAt l i)=fun i=>iAt l i==n:=by funext i;exact Bool.beq_comm
 rw[hcomm]at hc;simp[v53,qrS,qrR,qrQ,qrO,qrN,qrP,qrM];rw[h];cases hq:qao (fun i=>iAt l i==n) l.length 0 with
 |none=>rw[hq]at hc;simp[qdA]at hc;simp[v53,qrS,qrR,qrQ,qrO,qrN,qrP,qrM,hc]
 |some j=>rw[hq]at hc;simp[qdA]at hc;simp[v53,qrS,qrR,qrQ,qrO,qrN,qrP,qrM,hc]
theorem qCL(l:List Int):(l.map (DV.int .i64)).all (fun e=>decide (e.cells.length=1))=true:=by simp[qlY]
theorem qFx(l:List Int):(l.map (DV.int .i64)).all (fun e=>decide (e.cells.length=1/\e.cells.all DV.isCell=true))=true:=by simp[qlY,qaa]
theorem qjW(a b:List Int)(g:Tag)(h:(a.length+b.length)*8<=140737488355328):qa0 1 8 (.sl U (a.map (.int .i64))) (.sl g (b.map (.int .i64)))=some (.sl U ((a++b).map (.int .i64))):=by
 unfold qa0;simp only;rw[if_pos (qFx b)];cases b with
 |nil=>simp
 |cons x r=>
  simp only[List.map_cons,List.isEmpty_cons,Bool.false_eq_true,if_false];rw[if_pos ⟨by simpa using h,trivial,qCL a⟩];simp
theorem qnJ(l:List Int)(n:Int)(hl:l.length<=2199023255552):qad XV 112 [.d (is l),.d (.int .i64 n)] []=some (.d (.sl U ((qaQ l n).map (.int .i64))),[]):=by
 rw[qap XV _ _ _ qFG rfl qyv rfl];have hin:=qpo l n hl
 by_cases hc:l.contains n=true
 ·rw[hc]at hin
  have ha:=qjW [] l .sub (by simp;omega);have hr:qaQ l n=l:=by unfold qaQ;rw[if_pos hc]
  simp only[List.map_nil,List.nil_append]at ha;rw[hr];simp[qFG,qk4,qk3,qk2,qk1,qk0,qkZ,qkY,qkX,qkW,hin,ha]
 ·have hc':l.contains n=false:=by simpa using hc
  rw[hc']at hin;have h:=qau (X:=XV) (T:=XV.lin 112) (L:=0) (live:=[0,1,5]) (b:=qnk) (n:=l.length) (st:=fun(_:Unit) i=>⟨[(0,.d (is l)),(1,.d (.int .i64 n)),(5,.d (.int .i64 i))],[]⟩) (step:=qbT fun i=> !decide (iAt l i<n))
   (F:=fun _=>(.exit 0,⟨[(0,.d (is l)),(1,.d (.int .i64 n)),(5,.d (.int .i64 l.length)),(24,.d (.bool false))],[]⟩)) (R:=fun(j:Nat)=>(.exit 0,⟨[(0,.d (is l)),(1,.d (.int .i64 n)),(5,.d (.int .i64 j)),(24,.d (.bool false))],[]⟩))
   (fun a=>⟨by simp,by simp[qnk,qk4,qk3,qk2,qk1,qk0,qkZ,qkY,qkX,qkW]⟩)
   (fun a i hi=>by
    have hw:=qan (n:=i) (by omega);unfold qbT
    by_cases hq:iAt l i<n
    ·rw[if_neg (by simp[hq])]
     exact⟨_,by simp[qnk,qk4,qk3,qk2,qk1,qk0,qkZ,qkY,qkX,qkW,hi,hw,cut,qc0 hi,hq];rfl,by simp[qah,qab]⟩
    ·rw[if_pos (by simp[hq])]
     exact⟨by simp,by simp[qnk,qk4,qk3,qk2,qk1,qk0,qkZ,qkY,qkX,qkW,hi,hw,cut,qc0 hi,hq]⟩)
   l.length () 0 ⟨[(0,.d (is l)),(1,.d (.int .i64 n)),(5,.d (.int .i64 0))],[]⟩ (by omega) (by simp[qah,qab])
  rw[qpt]at h;have hat:∃at_:Nat,at_=qlm l n/\at_<=l.length/\qbm XV (XV.lin 112) 0 [0,1,5] qnk ⟨[(0,.d (is l)),(1,.d (.int .i64 n)),(5,.d (.int .i64 0))],[]⟩=some (.exit 0,⟨[(0,.d (is l)),(1,.d (.int .i64 n)),(5,.d (.int .i64 at_)),(24,.d (.bool false))],[]⟩):=by
   have hq:qlm l n=match qao (fun i=> !decide (iAt l i<n)) l.length 0 with|some j=>j|none=>l.length:=by
    unfold qlm;rw[qeg];have:qao (fun i=>decide (iAt l i>n)) l.length 0=qao (fun i=> !decide (iAt l i<n)) l.length 0:=by
     refine qja _ _ _ _ fun j h1 h2=> ?_
     have hlt:j<l.length:=by omega
     have hne:iAt l j≠n:=by
      intro he;rw[<-qc0 hlt]at he;rw[<-he]at hc';have:=List.getElem_mem hlt;rw[<-List.contains_iff_mem]at this;rw[hc']at this;simp at this
     rw[Bool.eq_iff_iff];simp;omega
    rw[this]
    try (cases qao (fun i=> !decide (iAt l i<n)) l.length 0<;>rfl)
   refine⟨qlm l n,rfl,List.findIdx_le_length,?_⟩;rw[h,hq];cases qao (fun i=> !decide (iAt l i<n)) l.length 0<;>rfl
  obtain⟨k,hk,hkl,hloop⟩:=hat;have hr:qaQ l n=l.take k++[n]++l.drop k:=by unfold qaQ;rw[if_neg hc,<-hk];simp
  have a1:=qjW [] (l.take k) .sub (by simp;omega);have a2:=qjW (l.take k) [n] U (by simp;omega);have a3:=qjW (l.take k++[n]) (l.drop k) .sub (by simp;omega);simp only[List.map_nil,List.nil_append,List.map_take,List.map_drop,List.map_append,List.map_cons]at a1 a2 a3;rw[hr];have hal:=qCL l;have hk0:(k:Int)<=l.length:=by omega
  simp only[qI7]at hloop;simp[qFG,qk4,qk3,qk2,qk1,qk0,qkZ,qkY,qkX,qkW,hin];rw[hloop];have ht:List.take l.length (l.map (DV.int .i64))=l.map (DV.int .i64):=List.take_of_length_le (by simp);simp[qFG,qk4,qk3,qk2,qk1,qk0,qkZ,qkY,qkX,qkW,hal,hkl,hk0,a1,a2,a3,ht]
def eV(x:T)(l:List Int):List Int:=if x.f= -1 then qaQ l x.v else l
def IV(n:Nat)(l:List Int):Prop:=l.length+n<=1099511627778
theorem qOH(n:Nat)(l:List Int)(x:T)(h:IV (n+1) l):IV n (eV x l):=by
 unfold IV eV at*
 have:=qsc l x.v;split<;>omega
def qc8(t:T):List Int:=T.fold eV t []
theorem qpa(t:T)(ht:t.inner<=1099511627776):(qc8 t).length<=1099511627778:=by
 have:=quv (I:=IV) qOH t 0 [] (by simp[IV];omega);unfold IV at this;exact this
theorem qhf(t:T)(ht:t.inner<=1099511627776):qad XV 104 [.d (t.enc .sub)] []=some (.d (.sl U ((qc8 t).map (.int .i64))),[]):=by
 rw[qap XV _ _ _ qKk rfl qyz rfl];have key:=quC IV (fun l:List Int=>[some [.d (.int .i64 t.f),.d (.int .i64 t.v),.d (qai .sub t.kids)],some [.d (.sl U (l.map (.int .i64)))]]) eV 105 [.ptr 1 0] 2 (fun _=>rfl) (fun n hn=>by simp;omega) rfl (by simp) qOH (fun x l r n hn=>by
  rw[qap XV _ _ _ qHX rfl qyy rfl];obtain⟨xf,xv,xk⟩:=x;have hv:=qjP (.node xf xv xk);simp only[T.qbv]at hv;have hle:l.length<=1099511627777:=by unfold IV at hn;omega
  unfold eV;simp only[T.qbv,T.qcS]
  by_cases h1:xf= -1
  ·subst h1
   simp only[BEq.rfl]at hv;have ha:=qox .sub l xv [] hle;simp[qHX,qAx,qAw,qAv,hv,splice,ha]
  ·have b1:(xf== -1)=false:=by simp[h1]
   rw[b1]at hv;simp[qHX,qAx,qAw,qAv,hv,h1,splice]) t ht [] [] 0 (by simp[IV];omega)
 simp only[List.append_nil,qai,List.map_nil]at key;simp[qKk,qGC,qGB,qGA,qGz,splice,key,qc8]
theorem qrD(f v:Int)(ks:List T)(hl:ks.length<=1099511627776)(n0:Nat)
 (hrec:∀s,s∈ks->∀(l:List Int) (n:Nat),IV (s.inner+1+n) l->qad XV 111 [.d (s.enc .sub),.d (is l)] []=some (.d (is (T.fold eV s l)),[])) (l:List Int) (h0:IV (ks.length+T.inners ks+1+n0) l):
 qad XV 111 [.d ((T.node f v ks).enc .sub),.d (is l)] []=some (.d (is (T.fold eV (.node f v ks) l)),[]):=by
 rw[qap XV _ _ _ qDV rfl qyw rfl];have h1I:IV (ks.length+T.inners ks+n0) (eV (.node f v ks) l):=qOH _ _ _ (by rw[show ks.length+T.inners ks+n0+1=ks.length+T.inners ks+1+n0 by omega];exact h0);have h:=qg8 (X:=XV) (T:=XV.lin 111) (L:=1) (live:=[1,2,5]) (b:=qu4) (n:=ks.length) (γ:=Unit) (st:=fun(l:List Int) i=>⟨[(1,.d (is l)),(2,.ptr 0 0),(5,.d (.int .i64 i))],[some [.d (.int .i64 f),.d (.int .i64 v),.d (qai .sub ks)]]⟩) (step:=qnG eV ks)
  (F:=fun l=>(.exit 0,⟨[(1,.d (is l)),(2,.ptr 0 0),(5,.d (.int .i64 ks.length)),(17,.d (.bool false))],[some [.d (.int .i64 f),.d (.int .i64 v),.d (qai .sub ks)]]⟩)) (R:=fun r=>(.ret,⟨[],[]⟩))
  (fun l i=>IV (qe9 ks i+n0) l)
  (fun _ _=>⟨by simp,by simp[qu4,qlc,qlb,qla,qk9,qk8,qk6,qk7,qk5]⟩)
  (fun l i hi hIn=>by
   have hw:=qan (n:=i) (by omega);have hsplit:=qkj hi;rw[show qe9 ks i+n0=(tAt ks i).inner+1+(qe9 ks (i+1)+n0)by omega]at hIn;have hnext:=quv qOH (tAt ks i) _ l hIn;have hc:=hrec _ (qaK hi) l _ hIn;refine⟨?_,fun a' ha'=>by unfold qnG at ha';simp only[Sum.inl.injEq]at ha';subst ha';exact hnext⟩;exact⟨_,by simp[qu4,qlc,qlb,qla,qk9,qk8,qk6,qk7,qk5,hi,hw,cut,qaF hi,hc];rfl,by simp[qah,qab]⟩)
  ks.length (eV (.node f v ks) l) 0 ⟨[(1,.d (is (eV (.node f v ks) l))),(2,.ptr 0 0),(5,.d (.int .i64 0))],[some [.d (.int .i64 f),.d (.int .i64 v),.d (qai .sub ks)]]⟩ (by omega) (by rw[qki];exact h1I) (by simp[qah,qab])
 rw[qOE eV ks _ _ _ (by omega)]at h;have hfin:T.folds eV ks (eV (.node f v ks) l)=T.fold eV (.node f v ks) l:=by simp[T.fold]
 simp only[List.drop_zero,qai,qI8,hfin]at h;have hle:l.length<=1099511627777:=by unfold IV at h0;omega
 have ha:=qnJ l v (by omega)
 by_cases c1:f= -1
 ·subst c1
  have he:eV (.node (-1) v ks) l=qaQ l v:=by simp[eV]
  rw[he]at h;simp[qDV,qlc,qlb,qla,qk9,qk8,qk6,qk7,qk5,ha];rw[h];simp[qDV,qlc,qlb,qla,qk9,qk8,qk6,qk7,qk5]
 ·have he:eV (.node f v ks) l=l:=by simp[eV,c1]
  have b1:(f== -1)=false:=by simp[c1]
  rw[he]at h;simp[qDV,qlc,qlb,qla,qk9,qk8,qk6,qk7,qk5,b1];rw[h];simp[qDV,qlc,qlb,qla,qk9,qk8,qk6,qk7,qk5]
theorem qkd(t:T)(ht:t.inner<=1099511627776)(l:List Int)(n:Nat)(h0:IV (t.inner+1+n) l):qad XV 111 [.d (t.enc .sub),.d (is l)] []=some (.d (is (T.fold eV t l)),[]):=by
 match t,ht with
 | .node f v ks,ht=>
  simp only[T.inner]at ht h0;exact qrD f v ks (by omega) n (fun s hs l n h=>qkd s (by have:=T.qaE hs;omega) l n h) l h0
termination_by t
decreasing_by
 simp_wf
 have:=List.sizeOf_lt_of_mem hs;omega
theorem qgy(t:T)(ht:t.inner<=1099511627776):qad XV 110 [.d (t.enc .sub)] []=some (.d (is (qc8 t)),[]):=by
 rw[qap XV _ _ _ qKj rfl qyx rfl];have h:=qkd t ht [] 0 (by simp[IV];omega);obtain⟨f,v,ks⟩:=t;simp only[List.map_nil,is]at h;simp[qKj,qGw,qGv,h,qc8]
theorem qhg(t:T)(ht:t.inner<=1099511627776):qad XV 103 [.d (t.enc .sub)] []=some (.d (.bool ((qc8 t).length==0)),[]):=by
 rw[qap XV _ _ _ qKl rfl qyA rfl];have h:=qhf t ht;obtain⟨f,v,ks⟩:=t;simp[qKl,qGE,qGD,h];rw[Bool.eq_iff_iff];simp
theorem qgA(t:T)(ht:t.inner<=1099511627776):qad XV 102 [.d (t.enc .sub)] []=some (.d (.bool ((qc8 t).length==0)),[]):=by
 rw[qap XV _ _ _ qKm rfl qyB rfl];have h:=qgy t ht;obtain⟨f,v,ks⟩:=t;simp[qKm,qGG,qGF,h];rw[Bool.eq_iff_iff];simp
end Go.Proofs.Ytfiakfiocdfpbaa.VS
namespace Go.Proofs.Ytfiakfiocdfpbaa.VS
@[simp high] theorem qKo(l:List Int):(l.map (DV.int .u8)).map DV.clr=l.map (DV.int .u8):=by simp[List.map_map,Function.comp_def]
theorem qOo(bs:List Int):qad XV 133 [.d (.sl .sub (bs.map (.int .u8)))] []=some (.d (.bool (decide (1048576<bs.length))),[]):=by
 rw[qap XV _ _ _ qKi rfl qys rfl];have h:decide ((1048576:Int)<bs.length)=decide (1048576<bs.length):=by congr 1;apply propext;omega
 simp[qKi,qGu,qGt,h]
end Go.Proofs.Ytfiakfiocdfpbaa.VS
namespace Go.Proofs.Ytfiakfiocdfpbaa.VS
def mk:Nat->Nat->List Int
 |0,_=>[]
 |n+1,k=>(k:Int)::mk n (k+1)
theorem qGZ(B:qal)(n:Nat)(v:DV):AV.frzC B n (.d v)=some v:=by cases n<;>simp only[AV.frzC]
end Go.Proofs.Ytfiakfiocdfpbaa.VS
namespace Go.Proofs.Ytfiakfiocdfpbaa.VS
mutual
def T.nb:T->Nat
 | .node _ _ []=>0
 | .node _ _ (t::r)=>T.nbs (t::r)+1
def T.nbs:List T->Nat
 | []=>0
 |t::r=>t.nb+T.nbs r
end
def qTC(ks:List T):Nat:=if ks=[]then 0 else T.nbs ks+1
def qTB(b:Nat)(ks:List T):AV:=if ks=[]then .d (qai .sub [])else .tsl true (b+T.nbs ks) 3 ks.length
def qFI(b:Nat):List T->List AV
 | []=>[]
 | .node f v ks::r=> .d (.int .i64 f):: .d (.int .i64 v)::qTB b ks::qFI (b+qTC ks) r
mutual
def T.bx(b:Nat):T->qal
 | .node _ _ []=>[]
 | .node _ _ (t::r)=>T.bxs b (t::r)++[some (qFI b (t::r))]
def T.bxs(b:Nat):List T->qal
 | []=>[]
 |t::r=>t.bx b++T.bxs (b+t.nb) r
end
def qdZ(l:List T):Nat:=l.length+T.inners l
theorem qlU(t:T):qdZ t.kids=t.inner:=by cases t;simp[qdZ,T.inner]
theorem qeM:∀(a c:List T),T.inners (a++c)=T.inners a+T.inners c
 | [],c=>by simp[T.inners]
 |t::r,c=>by simp[T.inners,qeM r c];omega
theorem qb1(t:T)(l:List T):qdZ (t::l)=(t.inner+1)+qdZ l:=by unfold qdZ;simp[T.inners];omega
theorem qe4(ks:List T)(i:Nat)(hi:i<ks.length):ks.take (i+1)=ks.take i++[tAt ks i]:=by
 rw[<-qaF hi,List.take_append_getElem hi]
theorem qJC(ks:List T)(i:Nat):qdZ (ks.take i)<=qdZ ks:=by
 have h:qdZ (ks.take i++ks.drop i)=qdZ (ks.take i)+qdZ (ks.drop i):=by unfold qdZ;rw[qeM];simp;omega
 rw[List.take_append_drop]at h;omega
end Go.Proofs.Ytfiakfiocdfpbaa.VS
namespace Go.Proofs.Ytfiakfiocdfpbaa.VS
end Go.Proofs.Ytfiakfiocdfpbaa.VS
namespace Go.Proofs.Ytfiakfiocdfpbaa.VS
end Go.Proofs.Ytfiakfiocdfpbaa.VS
namespace Go.Proofs.Ytfiakfiocdfpbaa.VS
def wW(l:List SymL)(x:T):Int:=if qbb l x.f=true/\0<x.kids.length then(x.kids.length:Int)-1 else 1
def qam(f v:Int)(ks:List T):qal:=[some [.d (.int .i64 f),.d (.int .i64 v),.d (qai .sub ks)]]
theorem qow(l:List SymL)(hs:l.length<=1099511627776)(f v:Int)(ks:List T)(hl:ks.length<=1099511627776)(hrec:∀s,s∈ks->qad XV 118 [.d (sg l),.d (s.enc .sub)] []=some (.d (.int .i64 (IntKind.i64.wrap (T.sum (wW l) s))),[])):
 qad XV 118 [.d (sg l),.d ((T.node f v ks).enc .sub)] []=some (.d (.int .i64 (IntKind.i64.wrap (T.sum (wW l) (.node f v ks)))),[]):=by
 rw[qap XV _ _ _ qyR rfl qyt rfl];have h:=fun m=>qau (X:=XV) (T:=XV.lin 118) (L:=1) (live:=[0,5,23,24,25]) (b:=qu2) (n:=ks.length) (γ:=Unit) (st:=fun(m:Int) i=>⟨[(0,.d (sg l)),(5,.d (.int .i64 m)),(23,.d (qai .sub ks)),(24,.d (.int .i64 ks.length)),(25,.d (.int .i64 i))],qam f v ks⟩) (step:=qvq (fun t=>IntKind.i64.wrap (T.sum (wW l) t)) ks)
  (F:=fun m=>(.exit 0,⟨[(0,.d (sg l)),(5,.d (.int .i64 m)),(23,.d (qai .sub ks)),(24,.d (.int .i64 ks.length)),(25,.d (.int .i64 ks.length)),(26,.d (.bool false))],qam f v ks⟩)) (R:=fun r=>(.ret,⟨[],[]⟩))
  (fun _=>⟨by simp,by simp[qu2,qgT,qgS,qgR,qgQ,qgP,qgO,qgN,qgM,qgL,qgK]⟩)
  (fun m i hi=>by
   have hw:=qan (n:=i) (by omega);have hc:=hrec _ (qaK hi);unfold qam;exact⟨_,by simp[qu2,qgT,qgS,qgR,qgQ,qgP,qgO,qgN,qgM,qgL,qgK,hi,hw,cut,qaF hi,hc,splice];rfl,by simp[qah,qab]⟩)
  ks.length (IntKind.i64.wrap m) 0 ⟨[(0,.d (sg l)),(5,.d (.int .i64 (IntKind.i64.wrap m))),(23,.d (qai .sub ks)),(24,.d (.int .i64 ks.length)),(25,.d (.int .i64 0))],qam f v ks⟩ (by omega) (by simp[qah,qab,qam])
 have h':=fun m=>by
  have:=h m;rw[qLl _ _ _ _ _ (by omega)]at this;simpa only[List.drop_zero,qai,qam,qI6]using this
 have hs2:T.sum (wW l) (T.node f v ks)=wW l (.node f v ks)+T.sums (wW l) ks:=by simp[T.sum]
 have hb:=qfn l hs f;have hw1:IntKind.i64.wrap ((ks.length:Int)-1)=ks.length-1:=wrap_i64 (by omega) (by omega);rw[hs2];have h1:=h' 1;rw[show IntKind.i64.wrap 1=1 from rfl]at h1;have h2:=h' (ks.length-1);rw[hw1]at h2;simp only[wW,T.qbv,T.qaH]
 by_cases c1:qbb l f=true
 case neg=>
  have c1':qbb l f=false:=by simpa using c1
  rw[c1']at hb;simp only[c1',Bool.false_eq_true,false_and,if_false];simp[qyR,qgT,qgS,qgR,qgQ,qgP,qgO,qgN,qgM,qgL,qgK,hb];rw[h1];simp[qyR,qgT,qgS,qgR,qgQ,qgP,qgO,qgN,qgM,qgL,qgK]
 case pos=>
  rw[c1]at hb;simp only[c1,true_and]
  by_cases c2:0<ks.length
  ·simp[qyR,qgT,qgS,qgR,qgQ,qgP,qgO,qgN,qgM,qgL,qgK,hb,c2,hw1]
   rw[h2];simp[qyR,qgT,qgS,qgR,qgQ,qgP,qgO,qgN,qgM,qgL,qgK]
  ·simp[qyR,qgT,qgS,qgR,qgQ,qgP,qgO,qgN,qgM,qgL,qgK,hb,c2]
   rw[h1];simp[qyR,qgT,qgS,qgR,qgQ,qgP,qgO,qgN,qgM,qgL,qgK]
theorem qeN(l:List SymL)(hs:l.length<=1099511627776)(t:T)(ht:t.inner<=1099511627776):qad XV 118 [.d (sg l),.d (t.enc .sub)] []=some (.d (.int .i64 (IntKind.i64.wrap (T.sum (wW l) t))),[]):=by
 match t,ht with
 | .node f v ks,ht=>
  simp only[T.inner]at ht;exact qow l hs f v ks (by omega) (fun s h=>qeN l hs s (by have:=T.qaE h;omega))
termination_by t
decreasing_by
 simp_wf
 have:=List.sizeOf_lt_of_mem h;omega
theorem qnI(l:List SymL)(hs:l.length<=1099511627776)(f v:Int)(ks:List T)(hl:ks.length<=1099511627776)(hrec:∀s,s∈ks->qad XV 117 [.d (sg l),.d (s.enc .sub)] []=some (.d (.int .i64 (IntKind.i64.wrap (T.sum (wW l) s))),[])):
 qad XV 117 [.d (sg l),.d ((T.node f v ks).enc .sub)] []=some (.d (.int .i64 (IntKind.i64.wrap (T.sum (wW l) (.node f v ks)))),[]):=by
 rw[qap XV _ _ _ qyS rfl qyu rfl];have h:=fun m=>qau (X:=XV) (T:=[]) (L:=1) (live:=[0,3,5,6]) (b:=qu3) (n:=ks.length) (γ:=Unit) (st:=fun(m:Int) i=>⟨[(0,.d (sg l)),(3,.ptr 0 0),(5,.d (.int .i64 m)),(6,.d (.int .i64 i))],qam f v ks⟩) (step:=qvq (fun t=>IntKind.i64.wrap (T.sum (wW l) t)) ks)
  (F:=fun m=>(.exit 0,⟨[(0,.d (sg l)),(3,.ptr 0 0),(5,.d (.int .i64 m)),(6,.d (.int .i64 ks.length)),(25,.d (.bool false))],qam f v ks⟩)) (R:=fun r=>(.ret,⟨[],[]⟩))
  (fun _=>⟨by simp,by simp[qu3,qg2,qg1,qg0,qgZ,qgY,qgX,qgV,qgW,qgU,qam]⟩)
  (fun m i hi=>by
   have hw:=qan (n:=i) (by omega);have hc:=hrec _ (qaK hi);unfold qam;exact⟨_,by simp[qu3,qg2,qg1,qg0,qgZ,qgY,qgX,qgV,qgW,qgU,hi,hw,cut,qaF hi,hc,splice];rfl,by simp[qah,qab]⟩)
  ks.length (IntKind.i64.wrap m) 0 ⟨[(0,.d (sg l)),(3,.ptr 0 0),(5,.d (.int .i64 (IntKind.i64.wrap m))),(6,.d (.int .i64 0))],qam f v ks⟩ (by omega) (by simp[qah,qab,qam])
 have h':=fun m=>by
  have:=h m;rw[qLl _ _ _ _ _ (by omega)]at this;simpa only[List.drop_zero,qai,qam]using this
 have hs2:T.sum (wW l) (T.node f v ks)=wW l (.node f v ks)+T.sums (wW l) ks:=by simp[T.sum]
 have hb:=qiC l hs f;have hw1:IntKind.i64.wrap ((ks.length:Int)-1)=ks.length-1:=wrap_i64 (by omega) (by omega);rw[hs2];have h1:=h' 1;rw[show IntKind.i64.wrap 1=1 from rfl]at h1;have h2:=h' (ks.length-1);rw[hw1]at h2;simp only[wW,T.qbv,T.qaH]
 by_cases c1:qbb l f=true
 case neg=>
  have c1':qbb l f=false:=by simpa using c1
  rw[c1']at hb;simp only[c1',Bool.false_eq_true,false_and,if_false];simp[qyS,qg2,qg1,qg0,qgZ,qgY,qgX,qgV,qgW,qgU,hb];rw[h1];simp[qyS,qg2,qg1,qg0,qgZ,qgY,qgX,qgV,qgW,qgU]
 case pos=>
  rw[c1]at hb;simp only[c1,true_and]
  by_cases c2:0<ks.length
  ·simp[qyS,qg2,qg1,qg0,qgZ,qgY,qgX,qgV,qgW,qgU,hb,c2,hw1]
   rw[h2];simp[qyS,qg2,qg1,qg0,qgZ,qgY,qgX,qgV,qgW,qgU]
  ·simp[qyS,qg2,qg1,qg0,qgZ,qgY,qgX,qgV,qgW,qgU,hb,c2]
   rw[h1];simp[qyS,qg2,qg1,qg0,qgZ,qgY,qgX,qgV,qgW,qgU]
theorem qeB(l:List SymL)(hs:l.length<=1099511627776)(t:T)(ht:t.inner<=1099511627776):qad XV 117 [.d (sg l),.d (t.enc .sub)] []=some (.d (.int .i64 (IntKind.i64.wrap (T.sum (wW l) t))),[]):=by
 match t,ht with
 | .node f v ks,ht=>
  simp only[T.inner]at ht;exact qnI l hs f v ks (by omega) (fun s h=>qeB l hs s (by have:=T.qaE h;omega))
termination_by t
decreasing_by
 simp_wf
 have:=List.sizeOf_lt_of_mem h;omega
end Go.Proofs.Ytfiakfiocdfpbaa.VS
