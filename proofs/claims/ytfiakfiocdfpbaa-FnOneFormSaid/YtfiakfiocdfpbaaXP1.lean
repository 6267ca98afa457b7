/- Contracts of the program's functions on the evaluator without names, and plain lemmas: part 1. -/
import Derived.Test.YtfiakfiocdfpbaaLin
set_option linter.unusedSimpArgs false
set_option linter.unusedVariables false
namespace Go.Proofs.Ytfiakfiocdfpbaa.VS
inductive T where
 |node (f v:Int) (kids:List T)
 deriving Inhabited
def T.f:T->Int| .node f _ _=>f
def T.v:T->Int| .node _ v _=>v
def T.kids:T->List T| .node _ _ k=>k
mutual
def T.enc(g:Tag):T->DV
 | .node f v ks=> .agg [.int .i64 f,.int .i64 v,.sl g (T.encs g ks)]
def T.encs(g:Tag):List T->List DV
 | []=>[]
 |t::r=>t.enc g::T.encs g r
end
theorem T.qdC(g:Tag):∀l:List T,T.encs g l=l.map (T.enc g)
 | []=>by unfold T.encs;rfl
 |t::r=>by unfold T.encs;simp[T.qdC g r]
abbrev qau(g:Tag)(l:List T):DV:= .sl g (l.map (T.enc g))
theorem T.qbP(g:Tag)(t:T):t.enc g= .agg [.int .i64 t.f,.int .i64 t.v,qau g t.kids]:=by
 cases t;simp[T.enc,T.qdC,qau,T.f,T.v,T.kids]
@[simp] theorem agg_enc(g:Tag)(f v:Int)(ks:List T):DV.agg [.int .i64 f,.int .i64 v,qau g ks]=(T.node f v ks).enc g:=by
 simp[T.enc,T.qdC,qau]
@[simp] theorem T.eta(t:T):T.node t.f t.v t.kids=t:=by cases t;rfl
@[simp] theorem T.qdW(f v:Int)(k:List T):(T.node f v k).f=f:=rfl
@[simp] theorem T.qer(f v:Int)(k:List T):(T.node f v k).v=v:=rfl
@[simp] theorem T.qa0(f v:Int)(k:List T):(T.node f v k).kids=k:=rfl
@[simp] theorem T.qnp(g:Tag)(t:T):(t.enc g).cells=[.int .i64 t.f,.int .i64 t.v,qau g t.kids]:=by rw[T.qbP];rfl
@[simp] theorem T.qkx(g:Tag)(t:T):(AV.d (t.enc g)).cells=[.d (.int .i64 t.f),.d (.int .i64 t.v),.d (qau g t.kids)]:=by rw[T.qbP];rfl
@[simp] theorem T.qkw(g:Tag)(t:T):(t.enc g).isCell=false:=by rw[T.qbP];rfl
mutual
theorem T.qe4(g:Tag):∀t:T,(t.enc g).clr=t.enc .sub
 | .node f v ks=>by simp only[T.enc,DV.clr,DV.clrs,T.qen g ks]
theorem T.qen(g:Tag):∀l:List T,DV.clrs (T.encs g l)=T.encs .sub l
 | []=>by simp only[T.encs,DV.clrs]
 |t::r=>by simp only[T.encs,DV.clrs,T.qe4 g t,T.qen g r]
end
attribute [simp] T.qe4
@[simp high] theorem qcm(g:Tag)(l:List T):(l.map (T.enc g)).map DV.clr=l.map (T.enc .sub):=by
 rw[<-T.qdC,<-T.qdC,<-DV.qap,T.qen]
def tAt(l:List T)(i:Nat):T:=(l[i]?).getD (.node 0 0 [])
theorem qaO{l:List T}{i:Nat}(h:i<l.length):l[i]=tAt l i:=by simp[tAt,h]
theorem qaJ{l:List T}{i:Nat}(h:i<l.length):tAt l i∈l:=by rw[<-qaO h];exact List.getElem_mem h
theorem qnI{l:List T}{i:Nat}(h:i<l.length):l[i]?=some (tAt l i):=by simp[tAt,h]
@[simp] theorem qCC(g:Tag){l:List T}{i:Nat}(h:i<l.length):(l.map (T.enc g))[i]?=some ((tAt l i).enc g):=by simp[qnI h]
mutual
def T.inner:T->Nat
 | .node _ _ ks=>ks.length+T.inners ks
def T.inners:List T->Nat
 | []=>0
 |t::r=>t.inner+T.inners r
end
theorem T.qgp(t:T):t.inner=t.kids.length+T.inners t.kids:=by cases t;simp[T.inner]
end Go.Proofs.Ytfiakfiocdfpbaa.VS
namespace Go.Proofs.Ytfiakfiocdfpbaa.VS
mutual
def T.ok:T->Prop
 | .node _ _ ks=>ks.length<=maxLen/\T.oks ks
def T.oks:List T->Prop
 | []=>True
 |t::r=>t.ok/\T.oks r
end
theorem qA5(g:Tag)(l:List T):∀x:DV,x∈l.map (T.enc g)->qy1 true 3 x:=by
 intro x hx;simp only[List.mem_map]at hx;obtain⟨t,_,rfl⟩:=hx;exact⟨by simp,by simp[qaa,qae],fun _=>⟨_,T.qbP g t⟩,by simp⟩
end Go.Proofs.Ytfiakfiocdfpbaa.VS
namespace Go.Proofs.Ytfiakfiocdfpbaa.VS
set_option profiler true
set_option profiler.threshold 2000
theorem T.qaV:∀{l:List T} {t:T},t∈l->t.inner<=T.inners l
 | [],t,h=>by simp at h
 |s::r,t,h=>by
  simp only[T.inners];rcases List.mem_cons.1 h with rfl|h
  ·omega
  ·have:=T.qaV h;omega
mutual
def T.cmp:T->T->Int
 | .node f v ks,.node f' v' ks'=>
  if f<f' then-1 else if f>f' then 1 else if v<v' then-1 else if v>v' then 1 else
  if ks.length<ks'.length then-1 else if ks.length>ks'.length then 1 else T.cmps ks ks'
def T.cmps:List T->List T->Int
 |a::as,b::bs=>if T.cmp a b≠0 then T.cmp a b else T.cmps as bs
 |_,_=>0
end
def qjw(l m:List T)(_:Unit)(i:Nat):Unit⊕Int:=if T.cmp (tAt l i) (tAt m i)≠0 then .inr (T.cmp (tAt l i) (tAt m i))else .inl ()
theorem qCG(l m:List T)(hl:l.length=m.length):∀(k i:Nat),i+k=l.length->runN (qjw l m) k () i=if T.cmps (l.drop i) (m.drop i)=0 then .inl ()else .inr (T.cmps (l.drop i) (m.drop i))
 |0,i,h=>by
  have h1:l.drop i=[]:=List.drop_eq_nil_of_le (by omega);simp[runN,h1,T.cmps]
 |k+1,i,h=>by
  have hlt:i<l.length:=by omega
  have hlt':i<m.length:=by omega
  rw[List.drop_eq_getElem_cons hlt,List.drop_eq_getElem_cons hlt',qaO hlt,qaO hlt'];simp only[runN,qjw,T.cmps]
  by_cases hc:T.cmp (tAt l i) (tAt m i)=0
  ·simp only[hc,ne_eq,not_true_eq_false,if_false]
   exact qCG l m hl k (i+1) (by omega)
  ·simp[hc]
def qeL(a b c d e f:Int)(i:Nat):Int×Int:=if i=0 then(a,b)else if i=1 then(c,d)else(e,f)
def qh7(a b c d e f:Int)(_:Unit)(i:Nat):Unit⊕(Int×(Int×Int)):=if(qeL a b c d e f i).1<(qeL a b c d e f i).2 then .inr (-1,qeL a b c d e f i)else if(qeL a b c d e f i).1>(qeL a b c d e f i).2 then .inr (1,qeL a b c d e f i)else .inl ()
def qdX(f v:Int)(ks:List T)(f' v':Int)(ks':List T):qak:=[some [.d (.int .i64 f),.d (.int .i64 v),.d (qau .sub ks)],some [.d (.int .i64 f'),.d (.int .i64 v'),.d (qau .sub ks')]]
def qri(a b c d e f:Int):List DV:=[.agg [.int .i64 a,.int .i64 b],.agg [.int .i64 c,.int .i64 d],.agg [.int .i64 e,.int .i64 f]]
theorem qp1(a b c d e f:Int)(i:Nat)(hi:i<3):(qri a b c d e f)[i]?=some (.agg [.int .i64 (qeL a b c d e f i).1,.int .i64 (qeL a b c d e f i).2]):=by
 match i,hi with
 |0,_=>rfl
 |1,_=>rfl
 |2,_=>rfl
theorem qrd(a b c d e f:Int)(B:qak)(hB:B.length=2):
 qbp XV [] 2 [2,3,26,27,28] qrE ⟨[(2,.ptr 0 0),(3,.ptr 1 0),(26,.d (.sl .sub (qri a b c d e f))),(27,.d (.int .i64 3)),(28,.d (.int .i64 0))],B⟩=
  some (match runN (qh7 a b c d e f) 3 () 0 with
   | .inl _=>(.exit 0,⟨[(2,.ptr 0 0),(3,.ptr 1 0),(26,.d (.sl .sub (qri a b c d e f))),(27,.d (.int .i64 3)),(28,.d (.int .i64 3)),(29,.d (.bool false))],B⟩)
   | .inr r=>(.ret,⟨[(4,.d (.int .i64 r.1))],B++[some [.d (.int .i64 r.2.1),.d (.int .i64 r.2.2)]]⟩)):=by
 obtain⟨x0,x1,rfl⟩:∃x0 x1,B=[x0,x1]:=by
  match B,hB with
  | [x0,x1],_=>exact⟨x0,x1,rfl⟩
 have key:=qa2 (X:=XV) (T:=[]) (L:=2) (live:=[2,3,26,27,28]) (b:=qrE) (n:=3) (γ:=Int×(Int×Int)) (st:=fun(_:Unit) i=>⟨[(2,.ptr 0 0),(3,.ptr 1 0),(26,.d (.sl .sub (qri a b c d e f))),(27,.d (.int .i64 3)),(28,.d (.int .i64 i))],[x0,x1]⟩) (step:=qh7 a b c d e f)
  (F:=fun _=>(.exit 0,⟨[(2,.ptr 0 0),(3,.ptr 1 0),(26,.d (.sl .sub (qri a b c d e f))),(27,.d (.int .i64 3)),(28,.d (.int .i64 3)),(29,.d (.bool false))],[x0,x1]⟩)) (R:=fun r=>(.ret,⟨[(4,.d (.int .i64 r.1))],[x0,x1]++[some [.d (.int .i64 r.2.1),.d (.int .i64 r.2.2)]]⟩))
  (fun _=>⟨by simp,by simp[qrE,qw7]⟩)
  (fun _ i hi=>by
   have hw:=qaF (n:=i) (by omega);have hi':(i:Int)<3:=by omega
   have hb:=qp1 a b c d e f i hi;unfold qh7;generalize qeL a b c d e f i=q at hb;obtain⟨x,y⟩:=q;simp only at hb⊢
   by_cases h1:x<y
   ·rw[if_pos h1]
    refine⟨by simp,?_⟩;simp[qrE,qw7,qAf,qAe,qAd,hi',hb,cut,h1,qaa,splice,qad,qac,qan]
   ·rw[if_neg h1]
    by_cases h2:x>y
    ·rw[if_pos h2]
     refine⟨by simp,?_⟩;simp[qrE,qw7,qAf,qAe,qAd,qCI,qCH,hi',hb,cut,h1,h2,qaa,splice,qad,qac,qan]
    ·rw[if_neg h2]
     refine⟨_,by simp[qrE,qw7,qAf,qAe,qAd,qCI,qCH,qFB,hi',hb,cut,h1,h2,hw,qaa,splice,qad,qac,qan];rfl,?_⟩;simp[qal,qaf])
  3 () 0 ⟨[(2,.ptr 0 0),(3,.ptr 1 0),(26,.d (.sl .sub (qri a b c d e f))),(27,.d (.int .i64 3)),(28,.d (.int .i64 0))],[x0,x1]⟩ (by omega) (by simp[qal,qaf])
 rw[key];cases runN (qh7 a b c d e f) 3 () 0<;>rfl
theorem qrc(f v:Int)(ks:List T)(f' v':Int)(ks':List T)(hl:ks.length<=1099511627776)(hlen:ks.length=ks'.length)
 (hrec:∀s s',s∈ks->s'∈ks'->qai XV 6 [.d (s.enc .sub),.d (s'.enc .sub)] []=some (.d (.int .i64 (T.cmp s s')),[])):
 qbp XV [] 2 [2,3,47,48] qv2 ⟨[(2,.ptr 0 0),(3,.ptr 1 0),(47,.d (.int .i64 ks.length)),(48,.d (.int .i64 0))],qdX f v ks f' v' ks'⟩=
  some (if T.cmps ks ks'=0 then(.exit 3,⟨[(2,.ptr 0 0),(3,.ptr 1 0),(47,.d (.int .i64 ks.length)),(48,.d (.int .i64 ks.length)),(49,.d (.bool false))],qdX f v ks f' v' ks'⟩)else(.ret,⟨[(4,.d (.int .i64 (T.cmps ks ks')))],qdX f v ks f' v' ks'⟩)):=by
 have h:=qa2 (X:=XV) (T:=[]) (L:=2) (live:=[2,3,47,48]) (b:=qv2) (n:=ks.length) (γ:=Int) (st:=fun(_:Unit) i=>⟨[(2,.ptr 0 0),(3,.ptr 1 0),(47,.d (.int .i64 ks.length)),(48,.d (.int .i64 i))],qdX f v ks f' v' ks'⟩) (step:=qjw ks ks')
  (F:=fun _=>(.exit 3,⟨[(2,.ptr 0 0),(3,.ptr 1 0),(47,.d (.int .i64 ks.length)),(48,.d (.int .i64 ks.length)),(49,.d (.bool false))],qdX f v ks f' v' ks'⟩)) (R:=fun r=>(.ret,⟨[(4,.d (.int .i64 r))],qdX f v ks f' v' ks'⟩))
  (fun _=>⟨by simp,by simp[qv2,qnU]⟩)
  (fun _ i hi=>by
   have hw:=qaF (n:=i) (by omega);have hi2:i<ks'.length:=by omega
   have hc:=hrec _ _ (qaJ hi) (qaJ hi2);unfold qjw qdX
   by_cases h0:T.cmp (tAt ks i) (tAt ks' i)=0
   ·rw[h0]at hc⊢
    simp only[ne_eq,not_true_eq_false,if_false];refine⟨_,by simp[qv2,qnU,qs8,qxC,qs7,qs6,qs5,hi,hi2,hw,cut,qaO hi,qaO hi2,hc,qad];rfl,?_⟩;simp[qal,qaf]
   ·simp only[ne_eq,h0,not_false_eq_true,if_true]
    have h0':(T.cmp (tAt ks i) (tAt ks' i) !=0)=true:=by simp[h0]
    refine⟨by simp,?_⟩;simp[qv2,qnU,qs8,qxC,qs7,qs6,qs5,hi,hi2,hw,cut,qaO hi,qaO hi2,hc,qad,h0'])
  ks.length () 0 ⟨[(2,.ptr 0 0),(3,.ptr 1 0),(47,.d (.int .i64 ks.length)),(48,.d (.int .i64 0))],qdX f v ks f' v' ks'⟩ (by omega) (by simp[qal,qaf,qdX])
 rw[qCG ks ks' hlen _ _ (by omega)]at h;simp only[List.drop_zero]at h;rw[h]
 by_cases h0:T.cmps ks ks'=0<;>simp[h0]
def qm6(a b c d e f:Int)(r:Int):Int:=if a<b then-1 else if a>b then 1 else if c<d then-1 else if c>d then 1 else if e<f then-1 else if e>f then 1 else r
theorem qGQ(a b c d e f:Int):(runN (qh7 a b c d e f) 3 () 0= .inl ()/\a=b/\c=d/\e=f)\/∃r,runN (qh7 a b c d e f) 3 () 0= .inr r/\∀z,qm6 a b c d e f z=r.1:=by
 simp only[runN,qh7,qeL,qm6]
 by_cases c1:a<b
 ·right;refine⟨_,by simp[c1];rfl,fun z=> ?_⟩;simp[c1]
 by_cases c2:a>b
 ·right;refine⟨_,by simp[c1,c2];rfl,fun z=> ?_⟩;simp[c1,c2]
 by_cases c3:c<d
 ·right;refine⟨_,by simp[c1,c2,c3];rfl,fun z=> ?_⟩;simp[c1,c2,c3]
 by_cases c4:c>d
 ·right;refine⟨_,by simp[c1,c2,c3,c4];rfl,fun z=> ?_⟩;simp[c1,c2,c3,c4]
 by_cases c5:e<f
 ·right;refine⟨_,by simp[c1,c2,c3,c4,c5];rfl,fun z=> ?_⟩;simp[c1,c2,c3,c4,c5]
 by_cases c6:e>f
 ·right;refine⟨_,by simp[c1,c2,c3,c4,c5,c6];rfl,fun z=> ?_⟩;simp[c1,c2,c3,c4,c5,c6]
 left;exact⟨by simp[c1,c2,c3,c4,c5,c6],by omega,by omega,by omega⟩
theorem qhV(f v:Int)(ks:List T)(f' v':Int)(ks':List T):T.cmp (.node f v ks) (.node f' v' ks')=qm6 f f' v v' ks.length ks'.length (T.cmps ks ks'):=by
 simp only[T.cmp,qm6,Int.ofNat_lt,gt_iff_lt]
theorem qrb(f v:Int)(ks:List T)(f' v':Int)(ks':List T)(hl:ks.length<=1099511627776)(hl':ks'.length<=1099511627776)
 (hrec:∀s s',s∈ks->s'∈ks'->qai XV 6 [.d (s.enc .sub),.d (s'.enc .sub)] []=some (.d (.int .i64 (T.cmp s s')),[])):
 qai XV 6 [.d ((T.node f v ks).enc .sub),.d ((T.node f' v' ks').enc .sub)] []=some (.d (.int .i64 (T.cmp (.node f v ks) (.node f' v' ks'))),[]):=by
 rw[qaE XV _ _ _ v6 rfl qr7 rfl];have h1:=qrd f f' v v' ks.length ks'.length (qdX f v ks f' v' ks') rfl;simp[v6,qFD,qFC,qaa,qae,qac,qan,splice,qad,qay,List.replicate];simp only[qri,qdX]at h1;rw[h1,qhV];rcases qGQ f f' v v' ks.length ks'.length with⟨h3,e1,e2,e3⟩|⟨r,h3,h4⟩
 ·rw[h3]
  have hlen:ks.length=ks'.length:=by omega
  have h2:=qrc f v ks f' v' ks' hl hlen hrec;simp only[qdX]at h2;subst e1;subst e2
  simp[qFA,qad];rw[h2];have h5:qm6 f f v v ks.length ks'.length (T.cmps ks ks')=T.cmps ks ks':=by simp[qm6,hlen]
  rw[h5]
  by_cases c7:T.cmps ks ks'=0
  ·simp[c7,qAg]
  ·simp[c7]
 ·rw[h3,h4];simp
theorem qgO(a b:T)(ha:a.inner<=1099511627776)(hb:b.inner<=1099511627776):qai XV 6 [.d (a.enc .sub),.d (b.enc .sub)] []=some (.d (.int .i64 (T.cmp a b)),[]):=by
 match a,b,ha,hb with
 | .node f v ks,.node f' v' ks',ha,hb=>
  simp only[T.inner]at ha hb;exact qrb f v ks f' v' ks' (by omega) (by omega) (fun s s' hs hs'=>qgO s s' (by have:=T.qaV hs;omega) (by have:=T.qaV hs';omega))
termination_by a
decreasing_by
 simp_wf
 have:=List.sizeOf_lt_of_mem hs;omega
end Go.Proofs.Ytfiakfiocdfpbaa.VS
namespace Go.Proofs.Ytfiakfiocdfpbaa.VS
theorem cmp_zero(f v:Int)(ks:List T)(f' v':Int)(ks':List T):T.cmp (.node f v ks) (.node f' v' ks')=0↔f=f'/\v=v'/\ks.length=ks'.length/\T.cmps ks ks'=0:=by
 rw[qhV];unfold qm6
 constructor
 ·intro h
  iterate 6 (split at h;·omega)
  exact⟨by omega,by omega,by omega,h⟩
 ·rintro⟨rfl,rfl,h,h'⟩
  simp[h,h']
theorem qnM(f v:Int)(ks:List T)(f' v':Int)(ks':List T)(hl:ks.length<=1099511627776)(hl':ks'.length<=1099511627776)
 (hrec:∀s s',s∈ks->s'∈ks'->qai XV 3 [.d (s.enc .sub),.d (s'.enc .sub)] []=some (.d (.bool (T.cmp s s'==0)),[])):
 qai XV 3 [.d ((T.node f v ks).enc .sub),.d ((T.node f' v' ks').enc .sub)] []=some (.d (.bool (T.cmp (.node f v ks) (.node f' v' ks')==0)),[]):=by
 rw[qaE XV _ _ _ v3 rfl qzD rfl];have hz:=cmp_zero f v ks f' v' ks';have ne:¬(f=f'/\v=v'/\ks.length=ks'.length/\T.cmps ks ks'=0)->(T.cmp (.node f v ks) (.node f' v' ks')==0)=false:=fun h=>by
  rw[<-hz]at h;simpa using h
 have hlc:(ks.length:Int)=ks'.length↔ks.length=ks'.length:=by omega
 by_cases c1:f=f'
 case neg=>
  rw[ne (fun h=>c1 h.1)];have b1:(f !=f')=true:=by simp[c1]
  simp[v3,qCL,qCK,qCJ,b1]
 by_cases c2:v=v'
 case neg=>
  rw[ne (fun h=>c2 h.2.1)];have b2:(v !=v')=true:=by simp[c2]
  simp[v3,qCL,qCK,qCJ,c1,b2]
 by_cases c3:ks.length=ks'.length
 case neg=>
  rw[ne (fun h=>c3 h.2.2.1)];have b3:((ks.length:Int) !=ks'.length)=true:=by simp;omega
  simp[v3,qCL,qCK,qCJ,c1,c2,b3]
 have h:=qa2 (X:=XV) (T:=[]) (L:=2) (live:=[2,3,5]) (b:=qEg) (n:=ks.length) (γ:=Int) (st:=fun(_:Unit) i=>⟨[(2,.ptr 0 0),(3,.ptr 1 0),(5,.d (.int .i64 i))],qdX f v ks f' v' ks'⟩) (step:=qjw ks ks')
  (F:=fun _=>(.exit 0,⟨[(2,.ptr 0 0),(3,.ptr 1 0),(5,.d (.int .i64 ks.length)),(31,.d (.bool false))],qdX f v ks f' v' ks'⟩)) (R:=fun r=>(.ret,⟨[(4,.d (.bool false))],qdX f v ks f' v' ks'⟩))
  (fun _=>⟨by simp,by simp[qEg,qEo,qdX]⟩)
  (fun _ i hi=>by
   have hw:=qaF (n:=i) (by omega);have hi2:i<ks'.length:=by omega
   have hc:=hrec _ _ (qaJ hi) (qaJ hi2);unfold qjw qdX
   by_cases h0:T.cmp (tAt ks i) (tAt ks' i)=0
   ·rw[h0]at hc⊢
    simp only[ne_eq,not_true_eq_false,if_false];refine⟨_,by simp[qEg,qEo,qFH,qG7,qFF,hi,hi2,hw,cut,qaO hi,qaO hi2,hc];rfl,?_⟩;simp[qal,qaf]
   ·simp only[ne_eq,h0,not_false_eq_true,if_true]
    have h0':(T.cmp (tAt ks i) (tAt ks' i)==0)=false:=by simp[h0]
    rw[h0']at hc;refine⟨by simp,?_⟩;simp[qEg,qEo,qFH,qG7,qFF,hi,hi2,hw,cut,qaO hi,qaO hi2,hc])
  ks.length () 0 ⟨[(2,.ptr 0 0),(3,.ptr 1 0),(5,.d (.int .i64 0))],qdX f v ks f' v' ks'⟩ (by omega) (by simp[qal,qaf,qdX])
 rw[qCG ks ks' c3 _ _ (by omega)]at h;simp only[List.drop_zero,qdX]at h;simp[v3,qCL,qCK,qCJ,qGU,c1,c2,hlc,c3];subst c1;subst c2
 rw[c3]at h;rw[h]
 by_cases h0:T.cmps ks ks'=0
 ·have:T.cmp (.node f v ks) (.node f v ks')=0:=hz.2 ⟨rfl,rfl,c3,h0⟩
  simp[h0,qFE,this]
 ·have:¬T.cmp (.node f v ks) (.node f v ks')=0:=fun h=>h0 (hz.1 h).2.2.2
  simp[h0,qFE,this]
theorem qh8(a b:T)(ha:a.inner<=1099511627776)(hb:b.inner<=1099511627776):qai XV 3 [.d (a.enc .sub),.d (b.enc .sub)] []=some (.d (.bool (T.cmp a b==0)),[]):=by
 match a,b,ha,hb with
 | .node f v ks,.node f' v' ks',ha,hb=>
  simp only[T.inner]at ha hb;exact qnM f v ks f' v' ks' (by omega) (by omega) (fun s s' hs hs'=>qh8 s s' (by have:=T.qaV hs;omega) (by have:=T.qaV hs';omega))
termination_by a
decreasing_by
 simp_wf
 have:=List.sizeOf_lt_of_mem hs;omega
theorem same_eq(a b:T)(ha:a.inner<=1099511627776)(hb:b.inner<=1099511627776):qai XV 4 [.d (a.enc .sub),.d (b.enc .sub)] []=some (.d (.bool (T.cmp a b==0)),[]):=by
 rw[qaE XV _ _ _ v4 rfl qzC rfl];have h:=qgO a b ha hb;simp[v4,qGT,qGS,h]
end Go.Proofs.Ytfiakfiocdfpbaa.VS
namespace Go.Proofs.Ytfiakfiocdfpbaa.VS
theorem qjN(k i:Nat):runN (fun(_:Unit) (_:Nat)=>(Sum.inl ():Unit⊕Unit)) k () i= .inl ():=by
 induction k generalizing i with
 |zero=>rfl
 |succ k ih=>simp[runN,ih]
@[simp] theorem qDw(cs:List DV):isAgg (.agg cs)=true:=rfl
@[simp] theorem qDv(k:IntKind)(n:Int):isAgg (.int k n)=false:=rfl
@[simp] theorem qGG(s:SymL):s.enc.cn=s.enc:=by simp[SymL.enc,SymL.cells]
@[simp] theorem qDu(s:SymL):isAgg s.enc=true:=rfl
@[simp] theorem qEW(s:SymL):s.enc.clr=s.enc:=by simp[SymL.enc,SymL.cells]
@[simp] theorem qBV(s:SymL):s.enc.cells=[.str s.name,.int .i64 s.arity,.bool s.ac]:=rfl
@[simp] theorem qBq(s:SymL):(AV.d s.enc).cells=[.d (.str s.name),.d (.int .i64 s.arity),.d (.bool s.ac)]:=rfl
@[simp] theorem qAP(s:SymL):s.enc.isCell=false:=rfl
@[simp] theorem qEZ(n:ByteArray)(a:Int)(b:Bool):DV.agg [.str n,.int .i64 a,.bool b]=SymL.enc ⟨n,a,b⟩:=rfl
@[simp high] theorem qdv(l:List SymL):(l.map SymL.enc).map DV.clr=l.map SymL.enc:=by simp[List.map_map,Function.comp_def]
def qjv(l:List SymL)(i:Nat):SymL:=(l[i]?).getD ⟨⟨#[]⟩,0,false⟩
theorem qhH{l:List SymL}{i:Nat}(h:i<l.length):l[i]=qjv l i:=by simp[qjv,h]
theorem qsM{l:List SymL}{i:Nat}(h:i<l.length):qjv l i∈l:=by rw[<-qhH h];exact List.getElem_mem h
abbrev sg(l:List SymL):DV:= .sl .sub (l.map SymL.enc)
@[simp] theorem qDW(a b:ByteArray):qeX .eql (.str a) (.str b)=some (.bool (qqv a b)):=rfl
@[simp] theorem qDV(a b:ByteArray):qeX .neq (.str a) (.str b)=some (.bool !(qqv a b)):=rfl
def inB(x lo hi:Int):Bool:=decide (lo<=x)&&decide (x<=hi)
theorem qAV(x lo hi:Int):qai XV 30 [.d (.int .i64 x),.d (.int .i64 lo),.d (.int .i64 hi)] []=some (.d (.bool (inB x lo hi)),[]):=by
 rw[qaE XV _ _ _ v30 rfl qww rfl];unfold inB
 by_cases h:lo<=x
 ·have h':x>=lo:=h
  simp[v30,qAp,qAo,h]
 ·have h':¬x>=lo:=h
  simp[v30,qAp,qAo,h]
theorem quM(x lo hi:Int):qai XV 31 [.d (.int .i64 x),.d (.int .i64 lo),.d (.int .i64 hi)] []=some (.d (.bool (inB x lo hi)),[]):=by
 rw[qaE XV _ _ _ v31 rfl qwv rfl];unfold inB
 by_cases h:lo<=x
 ·simp[v31,qAn,qAm,h]
 ·simp[v31,qAn,qAm,h]
def qfH(l:List SymL)(f:Int):Bool:=inB f 0 (l.length-1)
theorem qkD{l:List SymL}{f:Int}(h:qfH l f=true):0<=f/\f.toNat<l.length:=by
 simp[qfH,inB]at h;omega
theorem qpJ(l:List SymL)(hl:l.length<=1099511627776)(f:Int):qai XV 29 [.d (sg l),.d (.int .i64 f)] []=some (.d (.bool (qfH l f)),[]):=by
 rw[qaE XV _ _ _ v29 rfl qwx rfl];have hw:IntKind.i64.wrap ((l.length:Int)-1)=l.length-1:=wrap_i64 (by omega) (by omega);have h:=qAV f 0 (l.length-1);simp[v29,qCN,qCM,hw,h,qfH]
def qaP(l:List SymL)(f:Int):Bool:=qfH l f&&(qjv l f.toNat).ac
theorem qeN(l:List SymL)(hl:l.length<=1099511627776)(f:Int):qai XV 34 [.d (sg l),.d (.int .i64 f)] []=some (.d (.bool (qaP l f)),[]):=by
 rw[qaE XV _ _ _ v34 rfl qwt rfl];have h:=qpJ l hl f;unfold qaP;cases hs:qfH l f with
 |false=>
  rw[hs]at h;simp[v34,qAj,qAi,h]
 |true=>
  rw[hs]at h;obtain⟨h1,h2⟩:=qkD hs;simp[v34,qAj,qAi,h,h1,h2,qhH h2,cut]
theorem qg1(l:List SymL)(hl:l.length<=1099511627776)(f:Int):qai XV 33 [.d (sg l),.d (.int .i64 f)] []=some (.d (.bool (qaP l f)),[]):=by
 rw[qaE XV _ _ _ v33 rfl qwu rfl];have hw:IntKind.i64.wrap ((l.length:Int)-1)=l.length-1:=wrap_i64 (by omega) (by omega);have h:=quM f 0 (l.length-1);unfold qaP qfH;cases hs:inB f 0 (l.length-1)with
 |false=>
  rw[hs]at h;simp[v33,qAl,qAk,h,hw]
 |true=>
  rw[hs]at h;obtain⟨h1,h2⟩:=qkD (l:=l) (f:=f) hs;simp[v33,qAl,qAk,h,hw,h1,h2,qhH h2,cut]
end Go.Proofs.Ytfiakfiocdfpbaa.VS
namespace Go.Proofs.Ytfiakfiocdfpbaa.VS
def qqd(x:Int):Int:=IntKind.i64.wrap ((BitVec.ofInt 64 x&&&BitVec.ofInt 64 255).toNat:Int)
def qHe(x y:Int):Int:=IntKind.i64.wrap ((BitVec.ofInt 64 x^^^BitVec.ofInt 64 y).toNat:Int)
theorem qhp(x:Int):qc6 .and .i64 x 255=some (.int .i64 (qqd x)):=rfl
theorem qmY(x y:Int):qc6 .xor .i64 x y=some (.int .i64 (qHe x y)):=rfl
theorem qi2(x:Int):qc6 .shr .i64 x 33=some (.int .i64 (x.fdiv 8589934592)):=rfl
theorem qi1(x:Int):qc6 .shr .i64 x 45=some (.int .i64 (x.fdiv 35184372088832)):=rfl
theorem qnj(x:Int):0<=qqd x/\qqd x<=255:=by
 have h:(BitVec.ofInt 64 x&&&BitVec.ofInt 64 255).toNat<=255:=by
  rw[BitVec.toNat_and];exact Nat.le_trans Nat.and_le_right (by decide)
 unfold qqd;generalize (BitVec.ofInt 64 x&&&BitVec.ofInt 64 255).toNat=n at*
 rw[wrap_i64 (by omega) (by omega)];omega
def qaZ(bs:List Int)(pos st:Int):List AV:=[.d (.sl .sub (bs.map (.int .u8))),.d (.int .i64 pos),.d (.int .i64 st)]
theorem qp7{B:qak}{i:Nat}{c:List AV}(h:i<B.length):qaU (B.set i (some c)) i=some c:=by simp[qaU,h]
theorem qvZ{B:qak}{i:Nat}{c:List AV}(h:qaU B i=some c):i<B.length:=by
 rcases Nat.lt_or_ge i B.length with h1|h1
 ·exact h1
 ·simp[qaU,List.getElem?_eq_none h1]at h
theorem qda{B:qak}{i:Nat}{c:List AV}(h:qaU B i=some c):B[i]?=some (some c):=by
 unfold qaU at h;split at h
 ·rename_i c' hc;rw[hc];simpa using h
 ·simp at h
theorem quN(bs:List Int)(hl:bs.length<=1099511627776)(B:qak)(i:Nat)(pos st:Int)(hB:qaU B i=some (qaZ bs pos st))(hp:0<=pos/\pos<=bs.length):
 ∃b pos' st':Int,(0<=b/\b<=255)/\(0<=pos'/\pos'<=bs.length)/\qai XV 165 [.ptr i 0] B=some (.d (.int .i64 b),B.set i (some (qaZ bs pos' st'))):=by
 have hi:=qvZ hB;have hnl:¬B.length<=i:=by omega
 have htake:∀c:Option (List AV),List.take B.length (B.set i c)=B.set i c:=fun c=>List.take_of_length_le (by simp)
 have hset:∀c:Option (List AV),(B.set i c)[i]?=some c:=fun c=>by simp[hi]
 rw[qaE XV _ _ _ qzU rfl qsi rfl];have hB:=qda hB;unfold qaZ at hB⊢
 by_cases c:pos<bs.length
 ·have hw:IntKind.i64.wrap (pos+1)=pos+1:=wrap_i64 (by omega) (by omega)
  have hlt:pos.toNat<bs.length:=by omega
  refine⟨_,_,_,?_,?_,by simp[qzU,qt7,qt6,qzc,qzb,qza,qt2,qt1,qad,hB,hset,splice,qhp,qmY,qi2,qi1,qck,hnl,c,hp,hlt,hw,cut,qaa,qae,qac,qan,qbl,htake];exact⟨rfl,rfl⟩⟩
  ·exact qnj _
  ·exact⟨by omega,by omega⟩
 ·refine⟨_,_,_,?_,?_,by simp[qzU,qt7,qt6,qzc,qzb,qza,qt2,qt1,qad,hB,hset,splice,qhp,qmY,qi2,qi1,qck,hnl,c,cut,qaa,qae,qac,qan,qbl,htake];exact⟨rfl,rfl⟩⟩
  ·exact qnj _
  ·exact hp
def qb7(bs:List Int)(i:Nat)(B B':qak):Prop:=∃pos st:Int,(0<=pos/\pos<=bs.length)/\B'=B.set i (some (qaZ bs pos st))
def qbO(bs:List Int)(i:Nat)(B:qak):Prop:=∃pos st:Int,(0<=pos/\pos<=bs.length)/\qaU B i=some (qaZ bs pos st)
theorem qb7.at{bs:List Int}{i:Nat}{B B':qak}(hi:i<B.length)(h:qb7 bs i B B'):qbO bs i B':=by
 obtain⟨pos,st,hp,rfl⟩:=h;exact⟨pos,st,hp,qp7 hi⟩
theorem qb7.len{bs:List Int}{i:Nat}{B B':qak}(h:qb7 bs i B B'):B'.length=B.length:=by
 obtain⟨pos,st,hp,rfl⟩:=h;simp
theorem qb7.trans{bs:List Int}{i:Nat}{B B' B'':qak}(h:qb7 bs i B B')(h':qb7 bs i B' B''):qb7 bs i B B'':=by
 obtain⟨pos,st,hp,rfl⟩:=h;obtain⟨pos',st',hp',rfl⟩:=h';exact⟨pos',st',hp',by simp⟩
theorem qbO.lt{bs:List Int}{i:Nat}{B:qak}(h:qbO bs i B):i<B.length:=by
 obtain⟨_,_,_,h⟩:=h;exact qvZ h
theorem quO(bs:List Int)(hl:bs.length<=1099511627776)(B:qak)(i:Nat)(h:qbO bs i B):∃(b:Int) (B':qak),(0<=b/\b<=255)/\qb7 bs i B B'/\qai XV 165 [.ptr i 0] B=some (.d (.int .i64 b),B'):=by
 obtain⟨pos,st,hp,hB⟩:=h;obtain⟨b,pos',st',h1,h2,h3⟩:=quN bs hl B i pos st hB hp;exact⟨b,_,h1,⟨pos',st',h2,rfl⟩,h3⟩
theorem qqZ(x n:Int)(h:n≠0):qc6 .rem .i64 x n=some (.int .i64 (x.tmod n)):=by simp[qc6,h]
theorem qbw(bs:List Int)(hl:bs.length<=1099511627776)(B:qak)(i:Nat)(h:qbO bs i B)(n:Int)(hn:0<n)(hn2:n<=256):∃(r:Int) (B':qak),(0<=r/\r<n)/\qb7 bs i B B'/\qai XV 159 [.ptr i 0,.d (.int .i64 n)] B=some (.d (.int .i64 r),B'):=by
 obtain⟨b,B',hb,hT,hc⟩:=quO bs hl B i h;have hi:=h.lt;have hlen:=hT.len;have hm:b.tmod n=b%n:=Int.tmod_eq_emod_of_nonneg hb.1;have hr:=qqZ b n (by omega);have htake:List.take B.length B'=B':=List.take_of_length_le (by omega);refine⟨b%n,B',⟨Int.emod_nonneg _ (by omega),Int.emod_lt_of_pos _ hn⟩,hT,?_⟩;rw[qaE XV _ _ _ qBK rfl qsn rfl];have c1:¬n<=0:=by omega
 simp[qBK,qyF,qyE,qyD,qyC,qyB,qyA,qyz,qyy,qyx,qyw,c1,hn2,hc,hr,hm,htake,hi]
theorem qcX(bs:List Int)(hl:bs.length<=1099511627776)(B:qak)(i:Nat)(h:qbO bs i B)(l:List Int)(h0:0<l.length)(h1:l.length<=256):∃(j:Nat) (hj:j<l.length) (B':qak),qb7 bs i B B'/\qai XV 160 [.ptr i 0,.d (.sl .sub (l.map (.int .i64)))] B=some (.d (.int .i64 l[j]),B'):=by
 obtain⟨r,B',hr,hT,hc⟩:=qbw bs hl B i h l.length (by omega) (by omega);have hi:=h.lt;have hlen:=hT.len;have htake:List.take B.length B'=B':=List.take_of_length_le (by omega);refine⟨r.toNat,by omega,B',hT,?_⟩;rw[qaE XV _ _ _ qBJ rfl qsm rfl];have hlt:r.toNat<l.length:=by omega
 simp[qBJ,qyv,qyu,hc,hr,hlt,htake,hi,cut]
theorem qmP(bs:List Int)(hl:bs.length<=1099511627776)(B:qak)(i:Nat)(h:qbO bs i B)(l:List ByteArray)(h0:0<l.length)(h1:l.length<=256):∃(j:Nat) (hj:j<l.length) (B':qak),qb7 bs i B B'/\qai XV 196 [.ptr i 0,.d (.sl .sub (l.map .str))] B=some (.d (.str l[j]),B'):=by
 obtain⟨r,B',hr,hT,hc⟩:=qbw bs hl B i h l.length (by omega) (by omega);have hi:=h.lt;have hlen:=hT.len;have htake:List.take B.length B'=B':=List.take_of_length_le (by omega);refine⟨r.toNat,by omega,B',hT,?_⟩;rw[qaE XV _ _ _ qBB rfl qr9 rfl];have hlt:r.toNat<l.length:=by omega
 simp[qBB,qyf,qye,hc,hr,hlt,htake,hi,cut]
def qEY(x:Int):Int:=IntKind.i64.wrap ((BitVec.ofInt 64 x&&&BitVec.ofInt 64 1073741823).toNat:Int)
theorem qq0(x:Int):qc6 .and .i64 x 1073741823=some (.int .i64 (qEY x)):=rfl
def qyd(bs:List Int)(s:Int)(i:Nat):Int⊕Unit:= .inl (qEY (IntKind.i64.wrap (IntKind.i64.wrap (IntKind.i64.wrap (s*131)+IntKind.i64.wrap ((bs[i]?).getD 0))+7)))
theorem qoR{β:Type}(f:β->Nat->β):∀(k:Nat) (a:β) (i:Nat),∃b,runN (fun a i=>(.inl (f a i):β⊕Unit)) k a i= .inl b
 |0,a,i=>⟨a,rfl⟩
 |k+1,a,i=>by simp only[runN];exact qoR f k _ _
theorem qle(bs:List Int)(hl:bs.length<=1099511627776)(B:qak):∃st:Int,qai XV 156 [.d (.sl .sub (bs.map (.int .u8)))] B=some (.ptr B.length 0,B++[some (qaZ bs 0 st)]):=by
 have hn:min bs.length 4000<=bs.length:=Nat.min_le_left _ _;have h:=qa2 (X:=XV) (T:=XV.lin 156) (L:=B.length) (live:=[0,3,4]) (b:=qnh) (n:=min bs.length 4000) (γ:=Unit) (st:=fun(s:Int) i=>⟨[(0,.d (.sl .sub (bs.map (.int .u8)))),(3,.d (.int .i64 s)),(4,.d (.int .i64 i))],B⟩) (step:=qyd bs)
  (F:=fun s=>(.exit 0,⟨[(0,.d (.sl .sub (bs.map (.int .u8)))),(3,.d (.int .i64 s)),(4,.d (.int .i64 (min bs.length 4000:Nat))),(15,.d (.bool false))],B⟩)) (R:=fun _=>(.ret,⟨[],B⟩))
  (fun s=>⟨by simp,by
   by_cases c:bs.length<=4000
   ·rw[Nat.min_eq_left c];simp[qnh,qms,qmr,qmq,qpm,qpk,qpl,qmp]
   ·have c1:(4000:Int)<bs.length:=by omega
    rw[Nat.min_eq_right (by omega)];simp[qnh,qms,qmr,qmq,qpm,qpk,qpl,qmp,c1,show¬bs.length<=4000 from c]⟩)
  (fun s i hi=>by
   have hw:=qaF (n:=i) (by omega);have h1:i<bs.length:=by omega
   have h2:(i:Int)<4000:=by omega
   refine⟨_,by simp[qnh,qms,qmr,qmq,qpm,qpk,qpl,qmp,h1,h2,hw,cut,qq0];rfl,by simp[qal,qaf,h1]⟩)
  (min bs.length 4000) (IntKind.i64.wrap (27064+bs.length)) 0 ⟨[(0,.d (.sl .sub (bs.map (.int .u8)))),(3,.d (.int .i64 (IntKind.i64.wrap (27064+bs.length)))),(4,.d (.int .i64 0))],B⟩ (by omega) (by simp[qal,qaf])
 obtain⟨st,hst⟩:=qoR (fun(s:Int) (i:Nat)=>qEY (IntKind.i64.wrap (IntKind.i64.wrap (IntKind.i64.wrap (s*131)+IntKind.i64.wrap ((bs[i]?).getD 0))+7))) (min bs.length 4000) (IntKind.i64.wrap (27064+bs.length)) 0;rw[show qyd bs=fun s i=>(.inl (qEY (IntKind.i64.wrap (IntKind.i64.wrap (IntKind.i64.wrap (s*131)+IntKind.i64.wrap ((bs[i]?).getD 0))+7))):Int⊕Unit)from rfl,hst]at h;refine⟨st,?_⟩;rw[qaE XV _ _ _ qBL rfl qso rfl];simp[qBL,qms,qmr,qmq];simp only[qAH]at h;rw[h];simp[qmp,qaZ,qaa,qae,qac,qan,splice,qad]
end Go.Proofs.Ytfiakfiocdfpbaa.VS
namespace Go.Proofs.Ytfiakfiocdfpbaa.VS
theorem take_at{α:Type}(B r:List α):(B++r).take B.length=B:=by simp
theorem qee{L:Nat}{live:List Nat}{s:XS}{r':List (Nat×AV)}{B e:qak}(h:keep s.r live=r')(hs:qaf L r'=true)(hl:B.length=L)(he:s.B=B++e):qal L live s=some ⟨r',B⟩:=by
 unfold qal;rw[h,he,if_pos ⟨hs,by simp;omega⟩,<-hl,take_at]
end Go.Proofs.Ytfiakfiocdfpbaa.VS
namespace Go.Proofs.Ytfiakfiocdfpbaa.VS
end Go.Proofs.Ytfiakfiocdfpbaa.VS
namespace Go.Proofs.Ytfiakfiocdfpbaa.VS
end Go.Proofs.Ytfiakfiocdfpbaa.VS
namespace Go.Proofs.Ytfiakfiocdfpbaa.VS
abbrev is(l:List Int):DV:= .sl .sub (l.map (.int .i64))
@[simp high] theorem qEc(l:List Int):(l.map (DV.int .i64)).map DV.clr=l.map (DV.int .i64):=by simp[List.map_map,Function.comp_def]
end Go.Proofs.Ytfiakfiocdfpbaa.VS
namespace Go.Proofs.Ytfiakfiocdfpbaa.VS
end Go.Proofs.Ytfiakfiocdfpbaa.VS
namespace Go.Proofs.Ytfiakfiocdfpbaa.VS
def qdU(q:Nat->Bool):Nat->Nat->Option Nat
 |0,_=>none
 |k+1,i=>if q i then some i else qdU q k (i+1)
def qwO(q:Nat->Bool)(_:Unit)(i:Nat):Unit⊕Nat:=if q i then .inr i else .inl ()
theorem qGR(q:Nat->Bool):∀(k i:Nat),runN (qwO q) k () i=match qdU q k i with|some j=> .inr j|none=> .inl ()
 |0,i=>rfl
 |k+1,i=>by
  simp only[runN,qwO,qdU];cases h:q i
  ·simp[qGR q k (i+1)]
  ·simp
theorem qiX(q:Nat->Bool):∀(k i j:Nat),qdU q k i=some j->i<=j/\j<i+k/\q j=true
 |0,i,j,h=>by simp[qdU]at h
 |k+1,i,j,h=>by
  simp only[qdU]at h;split at h
  ·simp at h;subst h;exact⟨Nat.le_refl _,by omega,by assumption⟩
  ·obtain⟨h1,h2,h3⟩:=qiX q k (i+1) j h;exact⟨by omega,by omega,h3⟩
end Go.Proofs.Ytfiakfiocdfpbaa.VS
namespace Go.Proofs.Ytfiakfiocdfpbaa.VS
section
variable (X:XEnv)
end
end Go.Proofs.Ytfiakfiocdfpbaa.VS
namespace Go.Proofs.Ytfiakfiocdfpbaa.VS
end Go.Proofs.Ytfiakfiocdfpbaa.VS
namespace Go.Proofs.Ytfiakfiocdfpbaa.VS
@[simp high] theorem qBU(l:List Int):(l.map (DV.int .u8)).map DV.clr=l.map (DV.int .u8):=by simp[List.map_map,Function.comp_def]
theorem qEe(bs:List Int):qai XV 133 [.d (.sl .sub (bs.map (.int .u8)))] []=some (.d (.bool (decide (1048576<bs.length))),[]):=by
 rw[qaE XV _ _ _ qBS rfl qsw rfl];have h:decide ((1048576:Int)<bs.length)=decide (1048576<bs.length):=by congr 1;apply propext;omega
 simp[qBS,qyO,qyN,h]
theorem qxd(bs:List Int)(B:qak)(st:Int):qbO bs B.length (B++[some (qaZ bs 0 st)]):=by
 exact⟨0,st,⟨Int.le_refl _,by omega⟩,by simp[qaU]⟩
end Go.Proofs.Ytfiakfiocdfpbaa.VS
namespace Go.Proofs.Ytfiakfiocdfpbaa.VS
def mk:Nat->Nat->List Int
 |0,_=>[]
 |n+1,k=>(k:Int)::mk n (k+1)
theorem qyZ(B:qak)(n:Nat)(v:DV):AV.frzC B n (.d v)=some v:=by cases n<;>simp only[AV.frzC]
end Go.Proofs.Ytfiakfiocdfpbaa.VS
namespace Go.Proofs.Ytfiakfiocdfpbaa.VS
mutual
def T.nb:T->Nat
 | .node _ _ []=>0
 | .node _ _ (t::r)=>T.nbs (t::r)+1
def T.nbs:List T->Nat
 | []=>0
 |t::r=>t.nb+T.nbs r
end
def qHp(ks:List T):Nat:=if ks=[]then 0 else T.nbs ks+1
def qHo(b:Nat)(ks:List T):AV:=if ks=[]then .d (qau .sub [])else .tsl true (b+T.nbs ks) 3 ks.length
def qyc(b:Nat):List T->List AV
 | []=>[]
 | .node f v ks::r=> .d (.int .i64 f):: .d (.int .i64 v)::qHo b ks::qyc (b+qHp ks) r
mutual
def T.bx(b:Nat):T->qak
 | .node _ _ []=>[]
 | .node _ _ (t::r)=>T.bxs b (t::r)++[some (qyc b (t::r))]
def T.bxs(b:Nat):List T->qak
 | []=>[]
 |t::r=>t.bx b++T.bxs (b+t.nb) r
end
def qcJ(l:List T):Nat:=l.length+T.inners l
theorem qi8(t:T):qcJ t.kids=t.inner:=by cases t;simp[qcJ,T.inner]
theorem qec:∀(a c:List T),T.inners (a++c)=T.inners a+T.inners c
 | [],c=>by simp[T.inners]
 |t::r,c=>by simp[T.inners,qec r c];omega
theorem qbL(t:T)(l:List T):qcJ (t::l)=(t.inner+1)+qcJ l:=by unfold qcJ;simp[T.inners];omega
theorem qfF(ks:List T)(i:Nat)(hi:i<ks.length):ks.take (i+1)=ks.take i++[tAt ks i]:=by
 rw[<-qaO hi,List.take_append_getElem hi]
theorem qBg(ks:List T)(i:Nat):qcJ (ks.take i)<=qcJ ks:=by
 have h:qcJ (ks.take i++ks.drop i)=qcJ (ks.take i)+qcJ (ks.drop i):=by unfold qcJ;rw[qec];simp;omega
 rw[List.take_append_drop]at h;omega
end Go.Proofs.Ytfiakfiocdfpbaa.VS
namespace Go.Proofs.Ytfiakfiocdfpbaa.VS
end Go.Proofs.Ytfiakfiocdfpbaa.VS
namespace Go.Proofs.Ytfiakfiocdfpbaa.VS
end Go.Proofs.Ytfiakfiocdfpbaa.VS
namespace Go.Proofs.Ytfiakfiocdfpbaa.VS
end Go.Proofs.Ytfiakfiocdfpbaa.VS
namespace Go.Proofs.Ytfiakfiocdfpbaa.VS
theorem qkG(f v:Int)(ks:List T)(f' v':Int)(ks':List T)(hl:ks.length<=1099511627776)(hl':ks'.length<=1099511627776)
 (hsame:∀s s',s∈ks->s'∈ks'->qai XV 3 [.d (s.enc .sub),.d (s'.enc .sub)] []=some (.d (.bool (T.cmp s s'==0)),[]))
 (hrec:∀s s',s∈ks->s'∈ks'->qai XV 84 [.d (s.enc .sub),.d (s'.enc .sub)] []=some (.d (.bool (decide (T.cmp s s'<0))),[])):
 qai XV 84 [.d ((T.node f v ks).enc .sub),.d ((T.node f' v' ks').enc .sub)] []=some (.d (.bool (decide (T.cmp (.node f v ks) (.node f' v' ks')<0))),[]):=by
 rw[qaE XV _ _ _ v84 rfl qws rfl];rw[qhV]
 by_cases c1:f=f'
 case neg=>
  have b1:(f !=f')=true:=by simp[c1]
  have e:decide (qm6 f f' v v' ks.length ks'.length (T.cmps ks ks')<0)=decide (f<f'):=by
   unfold qm6;by_cases h1:f<f'
   ·simp[h1]
   ·have h2:f>f':=by omega
    simp[h1,h2]
  rw[e];simp[v84,qkW,qkV,qkU,qkT,qkS,qkR,qkQ,qkP,qkO,qhu,qht,qkN,qfO,b1]
 subst c1
 by_cases c2:v=v'
 case neg=>
  have b2:(v !=v')=true:=by simp[c2]
  have e:decide (qm6 f f v v' ks.length ks'.length (T.cmps ks ks')<0)=decide (v<v'):=by
   unfold qm6;by_cases h1:v<v'
   ·simp[h1]
   ·have h2:v>v':=by omega
    simp[h1,h2]
  rw[e];simp[v84,qkW,qkV,qkU,qkT,qkS,qkR,qkQ,qkP,qkO,qhu,qht,qkN,qfO,b2]
 subst c2
 by_cases c3:ks.length=ks'.length
 case neg=>
  have b3:((ks.length:Int) !=ks'.length)=true:=by simp;omega
  have e:decide (qm6 f f v v ks.length ks'.length (T.cmps ks ks')<0)=decide (ks.length<ks'.length):=by
   unfold qm6;by_cases h1:ks.length<ks'.length
   ·simp[h1]
   ·have h2:ks'.length<ks.length:=by omega
    simp[h1,h2]
  rw[e];simp[v84,qkW,qkV,qkU,qkT,qkS,qkR,qkQ,qkP,qkO,qhu,qht,qkN,qfO,b3]
 have hcp:qm6 f f v v ks.length ks'.length (T.cmps ks ks')=T.cmps ks ks':=by simp[qm6,c3]
 rw[hcp];have h:=qa2 (X:=XV) (T:=[]) (L:=2) (live:=[2,3,5]) (b:=qv1) (n:=ks.length) (γ:=Int) (st:=fun(_:Unit) i=>⟨[(2,.ptr 0 0),(3,.ptr 1 0),(5,.d (.int .i64 i))],qdX f v ks f v ks'⟩) (step:=qjw ks ks')
  (F:=fun _=>(.exit 0,⟨[(2,.ptr 0 0),(3,.ptr 1 0),(5,.d (.int .i64 ks.length)),(44,.d (.bool false))],qdX f v ks f v ks'⟩)) (R:=fun r=>(.ret,⟨[(4,.d (.bool (decide (r<0))))],qdX f v ks f v ks'⟩))
  (fun _=>⟨by simp,by simp[qv1,qkW,qkV,qkU,qkT,qkS,qkR,qkQ,qkP,qkO,qhu,qht,qkN,qfO,qdX]⟩)
  (fun _ i hi=>by
   have hw:=qaF (n:=i) (by omega);have hi2:i<ks'.length:=by omega
   have hs:=hsame _ _ (qaJ hi) (qaJ hi2);have hc:=hrec _ _ (qaJ hi) (qaJ hi2);unfold qjw qdX
   by_cases h0:T.cmp (tAt ks i) (tAt ks' i)=0
   ·rw[h0]at hs⊢
    simp only[ne_eq,not_true_eq_false,if_false];refine⟨_,by simp[qv1,qkW,qkV,qkU,qkT,qkS,qkR,qkQ,qkP,qkO,qhu,qht,qkN,qfO,hi,hi2,hw,cut,qaO hi,qaO hi2,hs];rfl,?_⟩;simp[qal,qaf]
   ·simp only[ne_eq,h0,not_false_eq_true,if_true]
    have h0':(T.cmp (tAt ks i) (tAt ks' i)==0)=false:=by simp[h0]
    rw[h0']at hs;refine⟨by simp,?_⟩;simp[qv1,qkW,qkV,qkU,qkT,qkS,qkR,qkQ,qkP,qkO,qhu,qht,qkN,qfO,hi,hi2,hw,cut,qaO hi,qaO hi2,hs,hc])
  ks.length () 0 ⟨[(2,.ptr 0 0),(3,.ptr 1 0),(5,.d (.int .i64 0))],qdX f v ks f v ks'⟩ (by omega) (by simp[qal,qaf,qdX])
 rw[qCG ks ks' c3 _ _ (by omega)]at h;simp only[List.drop_zero,qdX,qau]at h;simp[v84,qkW,qkV,qkU,qkT,qkS,qkR,qkQ,qkP,qkO,qhu,qht,qkN,qfO,c3];rw[c3]at h;rw[h]
 by_cases h0:T.cmps ks ks'=0<;>simp[h0,v84,qkW,qkV,qkU,qkT,qkS,qkR,qkQ,qkP,qkO,qhu,qht,qkN,qfO]
theorem qfI(a b:T)(ha:a.inner<=1099511627776)(hb:b.inner<=1099511627776):qai XV 84 [.d (a.enc .sub),.d (b.enc .sub)] []=some (.d (.bool (decide (T.cmp a b<0))),[]):=by
 match a,b,ha,hb with
 | .node f v ks,.node f' v' ks',ha,hb=>
  simp only[T.inner]at ha hb;exact qkG f v ks f' v' ks' (by omega) (by omega) (fun s s' hs hs'=>qh8 s s' (by have:=T.qaV hs;omega) (by have:=T.qaV hs';omega)) (fun s s' hs hs'=>qfI s s' (by have:=T.qaV hs;omega) (by have:=T.qaV hs';omega))
termination_by a
decreasing_by
 simp_wf
 have:=List.sizeOf_lt_of_mem hs;omega
end Go.Proofs.Ytfiakfiocdfpbaa.VS
namespace Go.Proofs.Ytfiakfiocdfpbaa.VS
def qAS(l:List SymL)(f v:Int)(n:Nat):Bool:=
 if qfH l f=true then
  if v=0 then(if(qjv l f.toNat).ac=true then decide ((n:Int)<2)else !decide ((n:Int)=(qjv l f.toNat).arity))
  else true
 else true
def qFI(l:List SymL)(f:Int)(ks:List T)(i:Nat):Bool:=
 if(qjv l f.toNat).ac=true then(if(tAt ks i).f=f then true else if i=0 then false else decide (T.cmp (tAt ks i) (tAt ks (i-1))<0))else false
mutual
def T.form(l:List SymL):T->Bool
 | .node f v ks=>
  if f= -1 then inB v 0 99&&decide (ks.length=0)
  else if qAS l f v ks.length=true then false
  else(qdU (fun i=> !((T.forms l ks)[i]?).getD false||qFI l f ks i) ks.length 0).isNone
def T.forms(l:List SymL):List T->List Bool
 | []=>[]
 |t::r=>T.form l t::T.forms l r
end
end Go.Proofs.Ytfiakfiocdfpbaa.VS
namespace Go.Proofs.Ytfiakfiocdfpbaa.VS
structure Bd where
 v:Int
 t:T
def Bd.enc(g:Tag)(b:Bd):DV:= .agg [.int .i64 b.v,.int .i64 b.t.f,.int .i64 b.t.v,qau g b.t.kids]
def Bd.ok(b:Bd):Prop:=(-9223372036854775808<=b.v/\b.v<=9223372036854775807)/\b.t.ok
abbrev binds(g:Tag)(l:List Bd):DV:= .sl g (l.map (Bd.enc g))
@[simp] theorem Bd.qnp(g:Tag)(x:Bd):(x.enc g).cells=[.int .i64 x.v,.int .i64 x.t.f,.int .i64 x.t.v,qau g x.t.kids]:=rfl
@[simp] theorem Bd.qkx(g:Tag)(x:Bd):(AV.d (x.enc g)).cells=[.d (.int .i64 x.v),.d (.int .i64 x.t.f),.d (.int .i64 x.t.v),.d (qau g x.t.kids)]:=rfl
@[simp] theorem Bd.qkw(g:Tag)(x:Bd):(x.enc g).isCell=false:=rfl
@[simp] theorem Bd.qEl(g:Tag)(x:Bd):isAgg (x.enc g)=true:=rfl
@[simp] theorem Bd.qe4(g:Tag)(x:Bd):(x.enc g).clr=x.enc .sub:=by
 simp only[Bd.enc,DV.clr,DV.clrs,qau,DV.qap,qcm]
@[simp high] theorem Bd.qen(g:Tag)(l:List Bd):(l.map (Bd.enc g)).map DV.clr=l.map (Bd.enc .sub):=by simp[List.map_map,Function.comp_def]
@[simp] theorem Bd.agg_enc(g:Tag)(x:Bd):DV.agg [.int .i64 x.v,.int .i64 x.t.f,.int .i64 x.t.v,qau g x.t.kids]=x.enc g:=rfl
end Go.Proofs.Ytfiakfiocdfpbaa.VS
namespace Go.Proofs.Ytfiakfiocdfpbaa.VS
end Go.Proofs.Ytfiakfiocdfpbaa.VS
namespace Go.Proofs.Ytfiakfiocdfpbaa.VS
theorem qgo(a c:List T)(g:Tag)(h:(a.length+c.length)*40<=140737488355328):qbc 3 40 (.sl U (a.map (T.enc U))) (.sl g (c.map (T.enc U)))=some (.sl U ((a++c).map (T.enc U))):=by
 have h1:(c.map (T.enc U)).all (fun e=>decide (e.cells.length=3/\e.cells.all DV.isCell=true))=true:=by
  simp[qaa,qae]
 have h2:(a.map (T.enc U)).all (fun e=>decide (e.cells.length=3))=true:=by simp
 unfold qbc;simp only;rw[if_pos h1];cases c with
 |nil=>simp
 |cons x r=>
  simp only[List.map_cons,List.isEmpty_cons,Bool.false_eq_true,if_false];rw[if_pos ⟨by simpa using h,trivial,h2⟩];simp
theorem qlw(l:List T)(i:Nat)(h:i<l.length)(hl:l.length<=1099511627776):qbc 3 40 (.sl U ((l.take i).map (T.enc U))) (.sl U [(tAt l i).enc U])=some (.sl U ((l.take (i+1)).map (T.enc U))):=by
 have:=qgo (l.take i) [tAt l i] U (by simp;omega);rw[qfF l i h];exact this
theorem quK(f v:Int)(ks:List T)(hl:ks.length<=1099511627776)(hc:∀t,t∈ks->qai XV 146 [.d (t.enc .sub)] []=some (.d (t.enc U),[])):
 qai XV 146 [.d ((T.node f v ks).enc .sub)] []=some (.d ((T.node f v ks).enc U),[]):=by
 rw[qaE XV _ _ _ qzW rfl qsv rfl];have hloop:=qa2 (X:=XV) (T:=XV.lin 146) (L:=3) (live:=[1,2,3,4]) (b:=qqc) (n:=ks.length) (γ:=Unit) (st:=fun(_:Unit) i=>⟨[(1,.ptr 0 0),(2,.ptr 1 0),(3,.ptr 2 0),(4,.d (.int .i64 i))],[some [.d (.int .i64 f),.d (.int .i64 v),.d (qau .sub ks)],some [.d (.int .i64 0),.d (.int .i64 0),.d (.sl U [])],some [.d (.int .i64 f),.d (.int .i64 v),.d (.sl U ((ks.take i).map (T.enc U)))]]⟩) (step:=fun _ _=> .inl ())
  (F:=fun _=>(.exit 0,⟨[(1,.ptr 0 0),(2,.ptr 1 0),(3,.ptr 2 0),(4,.d (.int .i64 ks.length)),(14,.d (.bool false))],[some [.d (.int .i64 f),.d (.int .i64 v),.d (qau .sub ks)],some [.d (.int .i64 0),.d (.int .i64 0),.d (.sl U [])],some [.d (.int .i64 f),.d (.int .i64 v),.d (.sl U ((ks.take ks.length).map (T.enc U)))]]⟩)) (R:=fun _=>(.ret,⟨[],[]⟩))
  (fun _=>⟨by simp,by simp[qqc,qmE,qmD,qmC,qmB,qpX,qmA,qmz]⟩)
  (fun _ i hi=>by
   have hw:=qaF (n:=i) (by omega);have hc':=hc _ (qaJ hi);have ha:=qlw ks i hi hl;generalize hl2:(ks.take (i+1)).map (T.enc U)=l2 at ha;generalize (ks.take i).map (T.enc U)=l1 at ha⊢
   exact⟨⟨[(1,.ptr 0 0),(2,.ptr 1 0),(3,.ptr 2 0),(4,.d (.int .i64 (i+1:Nat)))],[some [.d (.int .i64 f),.d (.int .i64 v),.d (qau .sub ks)],some [.d (.int .i64 0),.d (.int .i64 0),.d (.sl U [])],some [.d (.int .i64 f),.d (.int .i64 v),.d (.sl U l2)]]⟩,by simp[qqc,qmE,qmD,qmC,qmB,qpX,qmA,qmz,hi,hw,cut,qaO hi,hc',ha,splice,AV.qap,qaa,qae,qac,qan],by simp[qal,qaf,<-hl2]⟩)
  ks.length () 0 ⟨[(1,.ptr 0 0),(2,.ptr 1 0),(3,.ptr 2 0),(4,.d (.int .i64 0))],[some [.d (.int .i64 f),.d (.int .i64 v),.d (qau .sub ks)],some [.d (.int .i64 0),.d (.int .i64 0),.d (.sl U [])],some [.d (.int .i64 f),.d (.int .i64 v),.d (.sl U [])]]⟩ (by omega) (by simp[qal,qaf])
 rw[qjN,List.take_length]at hloop;simp only[qAK,qau]at hloop;simp[qzW,qmE,qmD,qmC,qmB,qpX,qmA,qmz,splice,qaa,qae,qac,qan,qad];rw[hloop];simp[qzW,qmE,qmD,qmC,qmB,qpX,qmA,qmz,splice,qaa,qae,qac,qan,qad]
theorem qmO(t:T)(ht:t.inner<=1099511627776):qai XV 146 [.d (t.enc .sub)] []=some (.d (t.enc U),[]):=by
 match t,ht with
 | .node f v ks,ht=>
  simp only[T.inner]at ht;exact quK f v ks (by omega) fun s hs=>qmO s (by have:=T.qaV hs;omega)
termination_by t
decreasing_by
 simp_wf
 have:=List.sizeOf_lt_of_mem hs;omega
theorem qhv(ks:List T)(hl:ks.length<=1099511627776)(hc:∀t,t∈ks->qai XV 150 [.d (t.enc .sub)] []=some (.d (t.enc U),[])):
 qai XV 151 [.d (qau .sub ks)] []=some (.d (qau U ks),[]):=by
 rw[qaE XV _ _ _ qBP rfl qss rfl];have hloop:=qa2 (X:=XV) (T:=XV.lin 151) (L:=0) (live:=[3,7,8,9]) (b:=qqb) (n:=ks.length) (γ:=Unit) (st:=fun(_:Unit) i=>⟨[(3,.d (.sl U ((ks.take i).map (T.enc U)))),(7,.d (qau .sub ks)),(8,.d (.int .i64 ks.length)),(9,.d (.int .i64 i))],[]⟩) (step:=fun _ _=> .inl ())
  (F:=fun _=>(.exit 0,⟨[(3,.d (.sl U ((ks.take ks.length).map (T.enc U)))),(7,.d (qau .sub ks)),(8,.d (.int .i64 ks.length)),(9,.d (.int .i64 ks.length)),(10,.d (.bool false))],[]⟩)) (R:=fun _=>(.ret,⟨[],[]⟩))
  (fun _=>⟨by simp,by simp[qqb,qpq,qpp,qpo,quk,quj,qui,quh,qmy]⟩)
  (fun _ i hi=>by
   have hw:=qaF (n:=i) (by omega);have hc':=hc _ (qaJ hi);have ha:=qlw ks i hi hl;generalize hl2:(ks.take (i+1)).map (T.enc U)=l2 at ha;generalize (ks.take i).map (T.enc U)=l1 at ha⊢
   exact⟨⟨[(3,.d (.sl U l2)),(7,.d (qau .sub ks)),(8,.d (.int .i64 ks.length)),(9,.d (.int .i64 (i+1:Nat)))],[some [.d (.int .i64 (tAt ks i).f),.d (.int .i64 (tAt ks i).v),.d (qau .sub (tAt ks i).kids)]]⟩,by simp[qqb,qpq,qpp,qpo,quk,quj,qui,quh,qmy,hi,hw,cut,qaO hi,hc',ha,splice,qaa,qae,qac,qan,qad],qee (e:=[some [.d (.int .i64 (tAt ks i).f),.d (.int .i64 (tAt ks i).v),.d (qau .sub (tAt ks i).kids)]]) (by simp[<-hl2]) (by simp[qaf]) (by simp) (by simp)⟩)
  ks.length () 0 ⟨[(3,.d (.sl U [])),(7,.d (qau .sub ks)),(8,.d (.int .i64 ks.length)),(9,.d (.int .i64 0))],[]⟩ (by omega) (by simp[qal,qaf])
 rw[qjN,List.take_length]at hloop;simp only[qAJ]at hloop;simp[qBP,qpq,qpp,qpo,qmy];rw[hloop];simp[qmy]
theorem qov(f v:Int)(ks:List T)(h:qai XV 151 [.d (qau .sub ks)] []=some (.d (qau U ks),[])):qai XV 150 [.d ((T.node f v ks).enc .sub)] []=some (.d ((T.node f v ks).enc U),[]):=by
 rw[qaE XV _ _ _ qBQ rfl qst rfl];simp only[qau]at h;simp[qBQ,qyK,qyJ,qyI,h,splice,qaa,qae,qac,qan,qad]
theorem qi7(t:T)(ht:t.inner<=1099511627776):qai XV 150 [.d (t.enc .sub)] []=some (.d (t.enc U),[]):=by
 match t,ht with
 | .node f v ks,ht=>
  simp only[T.inner]at ht;exact qov f v ks (qhv ks (by omega) fun s hs=>qi7 s (by have:=T.qaV hs;omega))
termination_by t
decreasing_by
 simp_wf
 have:=List.sizeOf_lt_of_mem hs;omega
theorem qm5(ks:List T)(hl:qcJ ks<=1099511627776):qai XV 151 [.d (qau .sub ks)] []=some (.d (qau U ks),[]):=
 qhv ks (by unfold qcJ at hl;omega) fun s hs=>qi7 s (by have:=T.qaV hs;unfold qcJ at hl;omega)
theorem qxj(n:Int):qai XV 147 [.d (.int .i64 n)] []=some (.d ((T.node (-1) n []).enc U),[]):=by
 rw[qaE XV _ _ _ qBR rfl qsu rfl];simp[qBR,qyM,qyL,splice,qaa,qae,qac,qan,qad];rw[T.qbP];rfl
end Go.Proofs.Ytfiakfiocdfpbaa.VS
namespace Go.Proofs.Ytfiakfiocdfpbaa.VS
mutual
theorem qja:∀a b:T,T.cmp a b= -(T.cmp b a)
 | .node f v ks,.node f' v' ks'=>by
  have h:=qp0 ks ks';simp only[T.cmp]
  repeat' split
  all_goals first|omega|exact h
theorem qp0:∀a b:List T,T.cmps a b= -(T.cmps b a)
 | [],[]=>rfl
 | [],_::_=>rfl
 |_::_,[]=>rfl
 |x::xs,y::ys=>by
  have h1:=qja x y;have h2:=qp0 xs ys;simp only[T.cmps]
  repeat' split
  all_goals omega
end
mutual
theorem qkk:∀a b:T,T.cmp a b=0->a=b
 | .node f v ks,.node f' v' ks',h=>by
  simp only[T.cmp]at h
  repeat' split at h
  all_goals first|omega|skip
  have h1:=qvK ks ks' (by omega) h;have h2:f=f':=by omega
  have h3:v=v':=by omega
  rw[h1,h2,h3]
theorem qvK:∀a b:List T,a.length=b.length->T.cmps a b=0->a=b
 | [],[],_,_=>rfl
 | [],_::_,h,_=>by simp at h
 |_::_,[],h,_=>by simp at h
 |x::xs,y::ys,hl,h=>by
  simp only[T.cmps]at h;split at h
  ·omega
  ·rename_i h0
   rw[qkk x y (by omega),qvK xs ys (by simpa using hl) h]
end
mutual
theorem qzd:∀a b c:T,T.cmp a b<0->T.cmp b c<0->T.cmp a c<0
 | .node f v ks,.node f' v' ks',.node f2 vw2 ks2,h1,h2=>by
  simp only[T.cmp]at h1 h2⊢
  by_cases e1:f<f'
  ·have:f'<=f2:=by
    apply Classical.byContradiction;intro h
    rw[if_neg (by omega),if_pos (by omega)]at h2;omega
   rw[if_pos (by omega)];omega
  ·have e1':f=f':=by
    apply Classical.byContradiction;intro h
    rw[if_neg e1,if_pos (by omega)]at h1;omega
   subst e1'
   by_cases e2:f<f2
   ·rw[if_pos e2];omega
   ·have e2':f=f2:=by
     apply Classical.byContradiction;intro h
     rw[if_neg e2,if_pos (by omega)]at h2;omega
    subst e2';simp only[Int.lt_irrefl,gt_iff_lt,if_false]at h1 h2⊢
    by_cases e3:v<v'
    ·have:v'<=vw2:=by
      apply Classical.byContradiction;intro h
      rw[if_neg (by omega),if_pos (by omega)]at h2;omega
     rw[if_pos (by omega)];omega
    ·have e3':v=v':=by
      apply Classical.byContradiction;intro h
      rw[if_neg e3,if_pos (by omega)]at h1;omega
     subst e3'
     by_cases e4:v<vw2
     ·rw[if_pos e4];omega
     ·have e4':v=vw2:=by
       apply Classical.byContradiction;intro h
       rw[if_neg e4,if_pos (by omega)]at h2;omega
      subst e4';simp only[Int.lt_irrefl,gt_iff_lt,if_false]at h1 h2⊢
      by_cases e5:ks.length<ks'.length
      ·have:ks'.length<=ks2.length:=by
        apply Classical.byContradiction;intro h
        rw[if_neg (by omega),if_pos (by omega)]at h2;omega
       rw[if_pos (by omega)];omega
      ·have e5':ks.length=ks'.length:=by
        apply Classical.byContradiction;intro h
        rw[if_neg e5,if_pos (by omega)]at h1;omega
       by_cases e6:ks.length<ks2.length
       ·rw[if_pos e6];omega
       ·have e6':ks.length=ks2.length:=by
         apply Classical.byContradiction;intro h
         rw[if_neg (by omega),if_pos (by omega)]at h2;omega
        rw[if_neg (by omega),if_neg (by omega)]at h1 h2⊢
        exact qvL ks ks' ks2 e5' (by omega) h1 h2
theorem qvL:∀a b c:List T,a.length=b.length->b.length=c.length->T.cmps a b<0->T.cmps b c<0->T.cmps a c<0
 | [],[],_,_,_,h,_=>by simp[T.cmps]at h
 | [],_::_,_,h,_,_,_=>by simp at h
 |_::_,[],_,h,_,_,_=>by simp at h
 |x::xs,y::ys,[],_,h,_,_=>by simp at h
 |x::xs,y::ys,z::zs,l1,l2,h1,h2=>by
  simp only[T.cmps]at h1 h2⊢
  have t1:=qzd x y z
  by_cases c1:T.cmp x y=0
  ·have:=qkk x y c1
   subst this
   by_cases c2:T.cmp x z=0
   ·simp only[c1,c2,ne_eq,not_true_eq_false,if_false]at h1 h2⊢
    exact qvL xs ys zs (by simpa using l1) (by simpa using l2) h1 h2
   ·simp only[c2,ne_eq,not_false_eq_true,if_true]at h2⊢
    exact h2
  ·simp only[c1,ne_eq,not_false_eq_true,if_true]at h1
   by_cases c2:T.cmp y z=0
   ·have:=qkk y z c2
    subst this;simp only[c1,ne_eq,not_false_eq_true,if_true];exact h1
   ·simp only[c2,ne_eq,not_false_eq_true,if_true]at h2
    have h3:=t1 h1 h2;have c3:T.cmp x z≠0:=by omega
    simp only[c3,ne_eq,not_false_eq_true,if_true];exact h3
end
def tle(a b:T):Prop:=T.cmp a b<=0
theorem qoO(a:T):tle a a:=by
 have:=qja a a;unfold tle;omega
theorem qfE{a b c:T}(h1:tle a b)(h2:tle b c):tle a c:=by
 unfold tle at*
 by_cases c1:T.cmp a b=0
 ·rw[qkk a b c1];exact h2
 by_cases c2:T.cmp b c=0
 ·rw[<-qkk b c c2];exact h1
 have:=qzd a b c (by omega) (by omega);omega
theorem qlT{a b:T}(h1:tle a b)(h2:tle b a):a=b:=by
 have:=qja a b;unfold tle at*
 exact qkk a b (by omega)
theorem qcz{a b:T}(h:¬T.cmp a b<0):tle b a:=by
 have:=qja a b;unfold tle;omega
theorem qdK{a b:T}(h:T.cmp a b<0):tle a b:=by unfold tle;omega
def Srt(l:List T):Prop:=l.Pairwise tle
theorem qwP{a b:List T}(h1:Srt a)(h2:Srt b)(h:a.Perm b):a=b:=List.Perm.eq_of_pairwise (fun _ _ _ _=>qlT) h1 h2 h
end Go.Proofs.Ytfiakfiocdfpbaa.VS
namespace Go.Proofs.Ytfiakfiocdfpbaa.VS
def ins(t:T):List T->List T
 | []=>[t]
 |x::r=>if T.cmp t x<0 then t::x::r else x::ins t r
def qct:List T->List T->List T
 |acc,[]=>acc
 |acc,t::r=>qct (ins t acc) r
def qdp(l:List T):List T:=qct [] l
theorem qhR(t:T):∀l:List T,(ins t l).Perm (t::l)
 | []=> .refl _
 |x::r=>by
  simp only[ins];split
  ·exact .refl _
  ·exact((qhR t r).cons x).trans (.swap t x r)
theorem quS(t:T):∀l:List T,Srt l->Srt (ins t l)
 | [],_=>List.pairwise_singleton _ _
 |x::r,h=>by
  have h':=List.pairwise_cons.1 h;simp only[ins];split
  ·rename_i hlt
   refine List.pairwise_cons.2 ⟨fun y hy=> ?_,h⟩;rcases List.mem_cons.1 hy with rfl|hy
   ·exact qdK hlt
   ·exact qfE (qdK hlt) (h'.1 y hy)
  ·rename_i hlt
   refine List.pairwise_cons.2 ⟨fun y hy=> ?_,quS t r h'.2⟩;have:=(qhR t r).mem_iff.1 hy;rcases List.mem_cons.1 this with rfl|hy
   ·exact qcz hlt
   ·exact h'.1 y hy
theorem qhm:∀(l acc:List T),(qct acc l).Perm (acc++l)
 | [],acc=>by simp[qct]
 |t::r,acc=>by
  simp only[qct];refine(qhm r _).trans ?_;refine((qhR t acc).append_right r).trans ?_;exact List.perm_middle.symm
theorem qiS:∀(l acc:List T),Srt acc->Srt (qct acc l)
 | [],acc,h=>h
 |t::r,acc,h=>by
  simp only[qct];exact qiS r _ (quS t acc h)
theorem qcb(l:List T):(qdp l).Perm l:=qhm l []
theorem qiR(l:List T):Srt (qdp l):=qiS l [] List.Pairwise.nil
theorem qlf{l l':List T}(h:l'.Perm l)(hs:Srt l'):l'=qdp l:=qwP hs (qiR l) (h.trans (qcb l).symm)
theorem qdE:∀(a acc b:List T),qct acc (a++b)=qct (qct acc a) b
 | [],acc,b=>rfl
 |t::r,acc,b=>by simp only[List.cons_append,qct];exact qdE r _ b
def qlx(s:List SymL)(f:Int)(k:T):List T:=if(qaP s f&&k.f==f)=true then k.kids else [k]
def flatK(s:List SymL)(f:Int)(l:List T):List T:=l.flatMap (qlx s f)
mutual
def T.norm(s:List SymL):T->T
 | .node f v ks=> .node f v (if qaP s f=true then qdp (flatK s f (T.norms s ks))else flatK s f (T.norms s ks))
def T.norms(s:List SymL):List T->List T
 | []=>[]
 |t::r=>t.norm s::T.norms s r
end
theorem T.norms_map(s:List SymL):∀l:List T,T.norms s l=l.map (T.norm s)
 | []=>by simp[T.norms]
 |t::r=>by simp[T.norms,T.norms_map s r]
theorem qut(s:List SymL)(t:T):(t.norm s).f=t.f:=by cases t;simp[T.norm]
theorem qur(s:List SymL)(t:T):(t.norm s).v=t.v:=by cases t;simp[T.norm]
theorem qi9(a b:List T):qcJ (a++b)=qcJ a+qcJ b:=by unfold qcJ;rw[qec,List.length_append];omega
theorem qgg{a b:List T}(h:a.Perm b):qcJ a=qcJ b:=by
 induction h with
 |nil=>rfl
 |cons x _ ih=>rw[qbL,qbL,ih]
 |swap x y l=>rw[qbL,qbL,qbL,qbL];omega
 |trans _ _ h1 h2=>rw[h1,h2]
theorem qvJ(s:List SymL)(f:Int)(k:T):qcJ (qlx s f k)<=k.inner+1:=by
 unfold qlx;split
 ·rw[qi8];omega
 ·rw[qbL];simp[qcJ,T.inners]
theorem qbx(s:List SymL)(f:Int)(k:T)(l:List T):flatK s f (k::l)=qlx s f k++flatK s f l:=rfl
theorem qho(s:List SymL)(f:Int)(a b:List T):flatK s f (a++b)=flatK s f a++flatK s f b:=by unfold flatK;simp
theorem qfi(s:List SymL)(f:Int):∀l:List T,qcJ (flatK s f l)<=qcJ l
 | []=>by simp[flatK,qcJ,T.inners]
 |k::l=>by
  rw[qbx,qi9,qbL];have:=qvJ s f k;have:=qfi s f l;omega
theorem T.qcx(f v:Int)(ks:List T):(T.node f v ks).inner=qcJ ks:=by simp[T.inner,qcJ]
mutual
theorem qcO(s:List SymL):∀t:T,(t.norm s).inner<=t.inner
 | .node f v ks=>by
  have h:=qfh s ks;have h2:=qfi s f (T.norms s ks);simp only[T.norm,T.qcx];split
  ·rw[qgg (qcb _)];omega
  ·omega
theorem qfh(s:List SymL):∀l:List T,qcJ (T.norms s l)<=qcJ l
 | []=>by simp[T.norms]
 |t::r=>by
  have h1:=qcO s t;have h2:=qfh s r;simp only[T.norms,qbL];omega
end
theorem qb2{l:List T}{t:T}(h:t∈l):t.inner<=qcJ l:=by have:=T.qaV h;unfold qcJ;omega
theorem qcD(l:List T):l.length<=qcJ l:=by unfold qcJ;omega
def qqf(s:List SymL)(f:Int)(ks:List T)(i:Nat):List T:=flatK s f ((ks.take i).map (T.norm s))
theorem qnk(s:List SymL)(f:Int)(ks:List T):qqf s f ks 0=[]:=by simp[qqf,flatK]
theorem qnl(s:List SymL)(f:Int)(ks:List T)(i:Nat)(h:i<ks.length):qqf s f ks (i+1)=qqf s f ks i++qlx s f ((tAt ks i).norm s):=by
 unfold qqf;rw[qfF ks i h,List.map_append,qho];simp[flatK]
theorem qqe(s:List SymL)(f:Int)(ks:List T):qqf s f ks ks.length=flatK s f (T.norms s ks):=by
 unfold qqf;rw[List.take_length,T.norms_map]
theorem qnm(s:List SymL)(f:Int)(ks:List T)(i:Nat):qcJ (qqf s f ks i)<=qcJ ks:=by
 unfold qqf;have h1:=qfi s f ((ks.take i).map (T.norm s));rw[<-T.norms_map]at h1⊢
 have h2:=qfh s (ks.take i);have h3:=qBg ks i;omega
theorem qyW(t:T):∀(l:List T) (j:Nat),j<=l.length->(∀i,i<j->¬T.cmp t (tAt l i)<0)->(j<l.length->T.cmp t (tAt l j)<0)->ins t l=l.take j++t::l.drop j
 | [],j,hj,_,_=>by simp at hj;subst hj;rfl
 |x::r,0,hj,h1,h2=>by
  have:=h2 (by simp);simp only[tAt,List.getElem?_cons_zero,Option.getD_some]at this;simp[ins,this]
 |x::r,j+1,hj,h1,h2=>by
  have h0:=h1 0 (by omega);simp only[tAt,List.getElem?_cons_zero,Option.getD_some]at h0;have:=qyW t r j (by simpa using hj) (fun i hi=>by simpa[tAt]using h1 (i+1) (by omega)) (fun h=>by simpa[tAt]using h2 (by simpa using h));simp[ins,h0,this]
end Go.Proofs.Ytfiakfiocdfpbaa.VS
namespace Go.Proofs.Ytfiakfiocdfpbaa.VS
theorem qv5(a c:List T)(g:Tag)(h:(a.length+c.length)*40<=140737488355328):qbc 3 40 (.sl U (a.map (T.enc U))) (.sl g (c.map (T.enc U)))=some (.sl U ((a++c).map (T.enc U))):=by
 have h1:(c.map (T.enc U)).all (fun e=>decide (e.cells.length=3/\e.cells.all DV.isCell=true))=true:=by
  simp[qaa,qae]
 have h2:(a.map (T.enc U)).all (fun e=>decide (e.cells.length=3))=true:=by simp
 unfold qbc;simp only;rw[if_pos h1];cases c with
 |nil=>simp
 |cons x r=>
  simp only[List.map_cons,List.isEmpty_cons,Bool.false_eq_true,if_false];rw[if_pos ⟨by simpa using h,trivial,h2⟩];simp
theorem qsZ(xs:List DV)(m:Nat):qcg xs 0 m=(xs.take m).map DV.clr++xs.drop m:=by
 unfold qcg;simp[DV.qap]
def putAt(t:T)(l:List T):Nat:=match qdU (fun i=>decide (T.cmp t (tAt l i)<0)) l.length 0 with
 |some j=>j
 |none=>l.length
theorem qiY(q:Nat->Bool):∀(k i:Nat),(∀j,qdU q k i=some j->∀m,i<=m->m<j->q m=false)/\(qdU q k i=none->∀m,i<=m->m<i+k->q m=false)
 |0,i=>⟨fun j h=>by simp[qdU]at h,fun _ m h1 h2=>by omega⟩
 |k+1,i=>by
  have ih:=qiY q k (i+1);simp only[qdU]
  by_cases h:q i=true
  ·simp only[h,if_true]
   exact⟨fun j hj m h1 h2=>by simp at hj;omega,fun h=>by simp at h⟩
  ·simp only[h,Bool.false_eq_true,if_false]
   refine⟨fun j hj m h1 h2=> ?_,fun hn m h1 h2=> ?_⟩
   ·by_cases e:m=i
    ·subst e;simpa using h
    ·exact ih.1 j hj m (by omega) h2
   ·by_cases e:m=i
    ·subst e;simpa using h
    ·exact ih.2 hn m (by omega) (by omega)
theorem qps(t:T)(l:List T):putAt t l<=l.length:=by
 unfold putAt;split
 ·rename_i j h;have:=(qiX _ _ _ _ h).2.1;omega
 ·omega
theorem qum(t:T)(l:List T):ins t l=l.take (putAt t l)++t::l.drop (putAt t l):=by
 have h:=qiY (fun i=>decide (T.cmp t (tAt l i)<0)) l.length 0;refine qyW t l _ (qps t l) (fun i hi=> ?_) (fun hlt=> ?_)
 ·unfold putAt at hi
  split at hi
  ·rename_i j hj
   simpa using h.1 j hj i (by omega) hi
  ·rename_i hn
   simpa using h.2 hn i (by omega) (by omega)
 ·unfold putAt at hlt⊢
  split
  ·rename_i j hj
   simpa using (qiX _ _ _ _ hj).2.2
  ·rename_i hn;rw[hn]at hlt;simp at hlt
theorem qpG(l:List T)(t:T)(hl:qcJ l<=1099511627776)(ht:t.inner<=1099511627776)(x0 x1 x2 x3:Option (List AV)):qai XV 154 [.d (qau U l),.d (t.enc U)] [x0,x1,x2,x3]=some (.d (.sl U ((ins t l).map (T.enc U))),[x0,x1,x2,x3]):=by
 have hlen:=qcD l;have hlt:=qps t l;have hb:∀i,i<l.length->qai XV 84 [.d (t.enc .sub),.d ((tAt l i).enc .sub)] []=some (.d (.bool (decide (T.cmp t (tAt l i)<0))),[]):=fun i hi=>qfI t (tAt l i) ht (by have:=qb2 (qaJ hi);omega)
 rw[qaE XV _ _ _ qBN rfl qsq rfl];have h:=qa2 (X:=XV) (T:=XV.lin 154) (L:=5) (live:=[0,3,5]) (b:=qkr) (n:=l.length) (st:=fun(_:Unit) i=>⟨[(0,.d (qau U l)),(3,.ptr 4 0),(5,.d (.int .i64 i))],[x0,x1,x2,x3,some [.d (.int .i64 t.f),.d (.int .i64 t.v),.d (qau U t.kids)]]⟩) (step:=qwO fun i=>decide (T.cmp t (tAt l i)<0))
  (F:=fun _=>(.exit 0,⟨[(0,.d (qau U l)),(3,.ptr 4 0),(5,.d (.int .i64 l.length)),(19,.d (.bool false))],[x0,x1,x2,x3,some [.d (.int .i64 t.f),.d (.int .i64 t.v),.d (qau U t.kids)]]⟩)) (R:=fun(j:Nat)=>(.exit 0,⟨[(0,.d (qau U l)),(3,.ptr 4 0),(5,.d (.int .i64 j)),(19,.d (.bool false))],[x0,x1,x2,x3,some [.d (.int .i64 t.f),.d (.int .i64 t.v),.d (qau U t.kids)]]⟩))
  (fun a=>⟨by simp,by simp[qkr,qmx,qmw,qvF,qpn,qmv,qmu,qmt]⟩)
  (fun a i hi=>by
   have hw:=qaF (n:=i) (by omega);have hc:=hb i hi;unfold qwO
   by_cases hq:decide (T.cmp t (tAt l i)<0)=true
   ·rw[if_pos hq]
    rw[hq]at hc;exact⟨by simp,by simp[qkr,qmx,qmw,qvF,qpn,qmv,qmu,qmt,hi,hw,cut,qaO hi,hc,qad]⟩
   ·rw[if_neg hq]
    have hq':decide (T.cmp t (tAt l i)<0)=false:=by simpa using hq
    rw[hq']at hc;exact⟨⟨[(0,.d (qau U l)),(3,.ptr 4 0),(5,.d (.int .i64 (i+1:Nat)))],[x0,x1,x2,x3,some [.d (.int .i64 t.f),.d (.int .i64 t.v),.d (qau U t.kids)]]⟩,by simp[qkr,qmx,qmw,qvF,qpn,qmv,qmu,qmt,hi,hw,cut,qaO hi,hc,qad],by simp[qal,qaf]⟩)
  l.length () 0 ⟨[(0,.d (qau U l)),(3,.ptr 4 0),(5,.d (.int .i64 0))],[x0,x1,x2,x3,some [.d (.int .i64 t.f),.d (.int .i64 t.v),.d (qau U t.kids)]]⟩ (by omega) (by simp[qal,qaf])
 have h':qbp XV (XV.lin 154) 5 [0,3,5] qkr ⟨[(0,.d (qau U l)),(3,.ptr 4 0),(5,.d (.int .i64 0))],[x0,x1,x2,x3,some [.d (.int .i64 t.f),.d (.int .i64 t.v),.d (qau U t.kids)]]⟩=
  some (.exit 0,⟨[(0,.d (qau U l)),(3,.ptr 4 0),(5,.d (.int .i64 (putAt t l))),(19,.d (.bool false))],[x0,x1,x2,x3,some [.d (.int .i64 t.f),.d (.int .i64 t.v),.d (qau U t.kids)]]⟩):=by
  rw[h,qGR];unfold putAt;cases hq:qdU (fun i=>decide (T.cmp t (tAt l i)<0)) l.length 0<;>simp
 clear h;rw[qum];generalize putAt t l=m at*
 have hm:¬((m:Int)<0):=by omega
 have a1:=qv5 [] (l.take m) .sub (by simp;omega);have a2:=qv5 (l.take m) [t] U (by simp;omega);have a3:=qv5 (l.take m++[t]) (l.drop m) .sub (by simp;omega);have hall:(l.map (T.enc U)).all (fun e=>decide (e.cells.length=3))=true:=by simp
 have hrest:qcg (l.map (T.enc U)) 0 m=(l.take m).map (T.enc .sub)++(l.drop m).map (T.enc U):=by rw[qsZ,<-List.map_take,qcm,<-List.map_drop]
 have hall2:((l.take m).map (T.enc .sub)++(l.drop m).map (T.enc U)).all (fun e=>decide (e.cells.length=3))=true:=by
  have q:∀(l:List T) (g:Tag),(l.map (T.enc g)).all (fun e=>decide (e.cells.length=3))=true:=fun l g=>by simp
  rw[List.all_append,q,q];rfl
 have hlen2:((l.take m).map (T.enc .sub)++(l.drop m).map (T.enc U)).length=l.length:=by simp;omega
 have hd2:(((l.take m).map (T.enc .sub)++(l.drop m).map (T.enc U)).take l.length).drop m=(l.drop m).map (T.enc U):=by
  rw[List.take_of_length_le (by rw[hlen2];exact Nat.le_refl _),List.drop_append_of_le_length (by simp;omega),List.drop_of_length_le (by simp;omega)];rfl
 have ht2:(l.map (T.enc U)).take m=(l.take m).map (T.enc U):=List.map_take.symm;simp only[List.map_nil,List.nil_append,List.map_cons,List.map_append,List.append_assoc,List.cons_append]at a1 a2 a3⊢
 generalize hR:(l.take m).map (T.enc .sub)++(l.drop m).map (T.enc U)=R at*
 generalize hL1:(l.take m).map (T.enc U)=L1 at*
 generalize hL2:(l.drop m).map (T.enc U)=L2 at*
 generalize hL3:L1++[T.enc U t]=L3 at*
 generalize hL4:L1++T.enc U t::L2=L4 at*
 simp only[qAI]at h';simp[qBN,qmx,qmw,splice,qaa,qae,qac,qan,qad];rw[h'];simp[qmv,qmu,qmt,hlt,hm,hall,hall2,hlen2,hrest,hd2,ht2,a1,a2,a3,qad,splice,AV.qap]
end Go.Proofs.Ytfiakfiocdfpbaa.VS
namespace Go.Proofs.Ytfiakfiocdfpbaa.VS
def nM(s:List SymL)(t:T):DV:=(t.norm s).enc U
theorem qf6(s:List SymL)(f:Int)(h:¬qaP s f=true):∀l:List T,flatK s f l=l
 | []=>rfl
 |k::l=>by
  rw[qbx,qf6 s f h l];have h':qaP s f=false:=by simpa using h
  simp[qlx,h']
def qoT(s:List SymL)(t:T):List DV:=(t.norm s).kids.map (T.enc U)
theorem qjy(s:List SymL)(t:T):nM s t= .agg [.int .i64 t.f,.int .i64 t.v,.sl U (qoT s t)]:=by
 unfold nM qoT;rw[T.qbP,qut,qur]
theorem qp2(s:List SymL)(t:T):(qoT s t).map DV.clr=(t.norm s).kids.map (T.enc .sub):=by unfold qoT;exact qcm _ _
theorem qp4(s:List SymL)(t:T):(nM s t).cells=[.int .i64 t.f,.int .i64 t.v,.sl U (qoT s t)]:=by rw[qjy];rfl
theorem qEh(s:List SymL)(a:List T)(t:T)(h:a.length<=1099511627776):qbc 3 40 (.sl U (a.map (nM s))) (.sl U [nM s t])=some (.sl U (a.map (nM s)++[nM s t])):=by
 unfold qbc;simp only;rw[if_pos (by simp[qp4,qaa,qae])];simp only[List.isEmpty_cons,Bool.false_eq_true,if_false];rw[if_pos ⟨by simp;omega,trivial,by simp[qp4]⟩]
def rowAt(s:List SymL)(f:Int)(ks:List T)(i:Nat):List DV:=if qaP s f=true then(qdp (qqf s f ks i)).map (T.enc U)else(ks.take i).map (nM s)
theorem rowAt_zero(s:List SymL)(f:Int)(ks:List T):rowAt s f ks 0=[]:=by unfold rowAt;rw[qnk];split<;>rfl
theorem norms_map(s:List SymL):∀l:List T,T.norms s l=l.map (T.norm s)
 | []=>by simp[T.norms]
 |t::r=>by simp[T.norms,norms_map s r]
theorem rowAt_all(s:List SymL)(f v:Int)(ks:List T):DV.agg [.int .i64 f,.int .i64 v,.sl U (rowAt s f ks ks.length)]=nM s (.node f v ks):=by
 rw[qjy];unfold rowAt qoT;rw[qqe,List.take_length];simp only[T.qdW,T.qer,T.norm]
 by_cases hb:qaP s f=true
 ·simp only[hb,if_true,T.qa0]
 ·simp only[hb,Bool.false_eq_true,if_false,T.qa0]
  rw[qf6 s f hb,norms_map,List.map_map];rfl
def nB3(f v:Int)(ks:List T)(R:List DV):qak:=[some [.d (.int .i64 f),.d (.int .i64 v),.d (qau .sub ks)],some [.d (.int .i64 0),.d (.int .i64 0),.d (.sl U [])],some [.d (.int .i64 f),.d (.int .i64 v),.d (.sl U R)]]
def qlB(l:List T)(j:Nat):List DV:=(l.take j).map (T.enc .sub)++(l.drop j).map (T.enc U)
theorem qw0(l:List T)(j:Nat)(h:j<=l.length):(qlB l j).length=l.length:=by unfold qlB;simp;omega
theorem qw1(l:List T)(j:Nat):(qlB l j).map DV.clr=l.map (T.enc .sub):=by
 unfold qlB;rw[List.map_append,qcm,qcm,<-List.map_append,List.take_append_drop]
theorem qz6(l:List T)(j:Nat)(h:j<l.length):(qlB l j)[j]?=some ((tAt l j).enc U):=by
 unfold qlB;rw[List.getElem?_append_right (by simp;omega),List.drop_eq_getElem_cons h,qaO h];simp[Nat.min_eq_left (Nat.le_of_lt h)]
theorem qwZ(l:List T)(j:Nat)(h:j<l.length):(qlB l j).set j ((tAt l j).enc .sub)=qlB l (j+1):=by
 unfold qlB;have hm:((l.take j).map (T.enc .sub)).length=j:=by simp;omega
 rw[List.set_append_right _ _ (by rw[hm];exact Nat.le_refl _),hm,Nat.sub_self,List.drop_eq_getElem_cons h,qaO h,List.map_cons,List.set_cons_zero,qfF l j h,List.map_append,List.append_assoc,List.map_cons,List.map_nil];rfl
theorem qw2(l:List T):qlB l l.length=l.map (T.enc .sub):=by unfold qlB;simp
theorem qsV(l:List T):qlB l 0=l.map (T.enc U):=by unfold qlB;simp
theorem qwI(TT:List Nat)(d4:Nat)(s:XS)(b off:Nat)(cs:List AV)(g gt:Tag)(xs:List DV)(k:Nat)(t:T):qsC TT d4 3 s b off cs g xs k (some (t.enc gt))=some (qbi TT ⟨s.r,s.B.set b (some (cs.set off (.d (.sl g (xs.set k (t.enc .sub))))))⟩ (some d4) (.d (t.enc gt))):=by
 rw[<-T.qe4 gt t,T.qbP];rfl
theorem qxn(s:List SymL)(hs:s.length<=1099511627776)(f v kf kv:Int)(ks l:List T)(i:Nat)(hl:l.length<=1099511627776):∀(k j:Nat),j+k=l.length->∀acc:List T,qcJ acc+qcJ (l.drop j)<=1099511627776->∀e:qak,
 qbp XV (XV.lin 153) 4 [0,3,4,5,6,7,8] qqa ⟨[(0,.d (sg s)),(3,.ptr 0 0),(4,.ptr 1 0),(5,.ptr 2 0),(6,.d (.int .i64 i)),(7,.ptr 3 0),(8,.d (.int .i64 j))],nB3 f v ks (acc.map (T.enc U))++[some [.d (.int .i64 kf),.d (.int .i64 kv),.d (.sl U (qlB l j))]]++e⟩=
  some (.exit 3,⟨[(0,.d (sg s)),(3,.ptr 0 0),(4,.ptr 1 0),(5,.ptr 2 0),(6,.d (.int .i64 i)),(7,.ptr 3 0),(8,.d (.int .i64 l.length)),(32,.d (.bool false))],nB3 f v ks ((qct acc (l.drop j)).map (T.enc U))++[some [.d (.int .i64 kf),.d (.int .i64 kv),.d (.sl U (l.map (T.enc .sub)))]]⟩):=by
 have head:∀(x:Int) (A e:qak),A.length=4->qal 4 [0,3,4,5,6,7,8] ⟨[(0,.d (sg s)),(3,.ptr 0 0),(4,.ptr 1 0),(5,.ptr 2 0),(6,.d (.int .i64 i)),(7,.ptr 3 0),(8,.d (.int .i64 x))],A++e⟩=some ⟨[(0,.d (sg s)),(3,.ptr 0 0),(4,.ptr 1 0),(5,.ptr 2 0),(6,.d (.int .i64 i)),(7,.ptr 3 0),(8,.d (.int .i64 x))],A⟩:=fun x A e hA=>
  qee (by simp) (by simp[qaf]) hA rfl
 intro k
 induction k with
 |zero=>
  intro j hj acc ha e;have:j=l.length:=by omega
  subst this;refine qaG (head _ _ e (by simp[nB3])) ?_ (by simp);rw[List.drop_length,qw2];simp only[qct];simp[qqa,qfS,qfR,qfQ,qhk,qhi,qeJ,qeI,qeH,qeG,qhh,qhg,qi5,qhf,qhj,qd8,nB3,qad]
 |succ k ih=>
  intro j hj acc ha e;have hlt:j<l.length:=by omega
  have hm:=qaJ hlt;have h1:=qb2 hm;have hd:l.drop j=tAt l j::l.drop (j+1):=by rw[List.drop_eq_getElem_cons hlt,qaO hlt]
  have hw:=qaF (n:=j) (by omega);have r1:=qw0 l j (by omega);have r2:=qw1 l j;have r3:∀h:j<(qlB l j).length,(qlB l j)[j]'h=(tAt l j).enc U:=fun h=>(List.getElem?_eq_some_iff.1 (qz6 l j hlt)).2
  have r4:=qwZ l j hlt;rw[hd,qbL]at ha;have hp:=qpG acc (tAt l j) (by omega) (by omega);rw[hd];simp only[qct];rw[<-ih (j+1) (by omega) (ins (tAt l j) acc) (by rw[qgg (qhR _ _),qbL];omega) []];refine qbg (head _ _ e (by simp[nB3])) ?_;generalize qlB l (j+1)=R1 at*
  generalize qlB l j=R0 at*
  simp[qqa,qfS,qfR,qfQ,qhk,qhi,qeJ,qeI,qeH,qeG,qhh,qhg,qi5,qhf,qhj,qd8,nB3,hlt,hw,cut,qaO hlt,hp,r1,r2,r3,r4,qwI,qao,VX.linT,splice,qaa,qae,qac,qan,qad]
theorem qDt(s:List SymL)(hs:s.length<=1099511627776)(f v:Int)(ks:List T)(hl:qcJ ks<=1099511627776)(i:Nat)(hi:i<ks.length)
 (hc:qai XV 153 [.d (sg s),.d ((tAt ks i).enc .sub)] []=some (.d (nM s (tAt ks i)),[])):
 ∃e:qak,qax XV (XV.lin 153) qhC ⟨[(0,.d (sg s)),(3,.ptr 0 0),(4,.ptr 1 0),(5,.ptr 2 0),(6,.d (.int .i64 i))],nB3 f v ks (rowAt s f ks i)⟩=
  some (.normal,⟨[(0,.d (sg s)),(3,.ptr 0 0),(4,.ptr 1 0),(5,.ptr 2 0),(6,.d (.int .i64 (i+1:Nat)))],nB3 f v ks (rowAt s f ks (i+1))++e⟩):=by
 have hlen:=qcD ks;have hw:=qaF (n:=i) (by omega);have hb:=qg1 s hs f;have ht:=qaO hi;have hm:=qb2 (qaJ hi);have hin:=qcO s (tAt ks i);have hac:=qnl s f ks i hi;have hcn:=qnm s f ks (i+1);have htk:=qfF ks i hi;have hM:=qp2 s (tAt ks i);have hnf:=qut s (tAt ks i);have hnv:=qur s (tAt ks i);have happ:=qEh s (ks.take i) (tAt ks i) (by simp;omega);rw[hac,qi9]at hcn;unfold rowAt;rw[hac,htk];rw[qjy]at hc happ;generalize hk:tAt ks i=k at*
 generalize hr:qqf s f ks i=acc at*
 have hXu:qoT s k=(k.norm s).kids.map (T.enc U):=rfl;generalize hX:qoT s k=X at*
 by_cases h1:qaP s f=true
 ·simp only[h1,if_true]
  by_cases h2:(k.f==f)=true
  ·have e1:qlx s f (k.norm s)=(k.norm s).kids:=by unfold qlx;rw[hnf,h1,h2];rfl
   rw[e1]at hcn⊢
   have hloop:=qxn s hs f v k.f k.v ks (k.norm s).kids i (by have:=qcD (k.norm s).kids;rw[qi8]at this;omega) (k.norm s).kids.length 0 (by omega) (qdp acc) (by rw[qgg (qcb acc),List.drop_zero];omega) [];rw[List.drop_zero,qsV,show qct (qdp acc) (k.norm s).kids=qdp (acc++(k.norm s).kids)from by unfold qdp;rw[qdE]]at hloop;refine⟨[some [.d (.int .i64 k.f),.d (.int .i64 k.v),.d (.sl U ((k.norm s).kids.map (T.enc .sub)))]],?_⟩;have h2n:(k.f !=f)=false:=by simpa using h2
   rw[<-hXu]at hloop;generalize (qdp (acc++(k.norm s).kids)).map (T.enc U)=R2 at*
   generalize (qdp acc).map (T.enc U)=R1 at*
   generalize (k.norm s).kids=l at*
   simp only[nB3,quD,Int.natCast_zero,List.cons_append,List.nil_append,List.append_nil]at hloop⊢
   simp[qhC,qfS,qfR,qfQ,qhk,qhi,qeJ,qeI,qeH,qeG,qhh,qhg,qi5,qhf,qhj,qd8,hi,hw,cut,ht,hc,hb,h1,h2n,hM,splice,qaa,qae,qac,qan,qad,AV.qap];rw[hloop];simp[qhC,qfS,qfR,qfQ,qhk,qhi,qeJ,qeI,qeH,qeG,qhh,qhg,qi5,qhf,qhj,qd8,hw]
  ·have h2':(k.f==f)=false:=by simpa using h2
   have h2n:(k.f !=f)=true:=by simpa using h2
   have e1:qlx s f (k.norm s)=[k.norm s]:=by unfold qlx;rw[hnf,h1,h2'];rfl
   rw[e1]at hcn⊢
   rw[show qdp (acc++[k.norm s])=ins (k.norm s) (qdp acc)from by unfold qdp;rw[qdE];rfl];have hp:=qpG (qdp acc) (k.norm s) (by rw[qgg (qcb acc)];omega) (by omega);have hke:(k.norm s).enc U= .agg [.int .i64 k.f,.int .i64 k.v,.sl U X]:=by rw[T.qbP,hnf,hnv,hXu]
   simp only[hke]at hp;refine⟨[some [.d (.int .i64 k.f),.d (.int .i64 k.v),.d (qau .sub (k.norm s).kids)]],?_⟩;generalize ins (k.norm s) (qdp acc)=R2 at*
   generalize qdp acc=R1 at*
   generalize (k.norm s).kids=l at*
   simp[qhC,qfS,qfR,qfQ,qhk,qhi,qeJ,qeI,qeH,qeG,qhh,qhg,qi5,qhf,qhj,qd8,nB3,hi,hw,cut,ht,hc,hb,h1,h2n,hM,hp,qao,VX.linT,splice,qaa,qae,qac,qan,qad,AV.qap]
 ·have h1':qaP s f=false:=by simpa using h1
  simp only[h1',Bool.false_eq_true,if_false];refine⟨[some [.d (.int .i64 k.f),.d (.int .i64 k.v),.d (qau .sub (k.norm s).kids)]],?_⟩;rw[List.map_append,List.map_cons,List.map_nil,qjy,hX];generalize hR2:(ks.take i).map (nM s)++[.agg [.int .i64 k.f,.int .i64 k.v,.sl U X]]=R2 at*
  generalize (ks.take i).map (nM s)=R1 at*
  generalize (k.norm s).kids=l at*
  simp[qhC,qfS,qfR,qfQ,qhk,qhi,qeJ,qeI,qeH,qeG,qhh,qhg,qi5,qhf,qhj,qd8,nB3,hi,hw,cut,ht,hc,hb,h1',happ,hM,splice,qaa,qae,qac,qan,qad,AV.qap]
end Go.Proofs.Ytfiakfiocdfpbaa.VS
namespace Go.Proofs.Ytfiakfiocdfpbaa.VS
theorem qAx(s:List SymL)(hs:s.length<=1099511627776)(f v:Int)(ks:List T)(hl:qcJ ks<=1099511627776)
 (hc:∀t,t∈ks->qai XV 153 [.d (sg s),.d (t.enc .sub)] []=some (.d (nM s t),[])):∀(k i:Nat),i+k=ks.length->∀e:qak,
 qbp XV (XV.lin 153) 3 [0,3,4,5,6] qhC ⟨[(0,.d (sg s)),(3,.ptr 0 0),(4,.ptr 1 0),(5,.ptr 2 0),(6,.d (.int .i64 i))],nB3 f v ks (rowAt s f ks i)++e⟩=
  some (.exit 0,⟨[(0,.d (sg s)),(3,.ptr 0 0),(4,.ptr 1 0),(5,.ptr 2 0),(6,.d (.int .i64 ks.length)),(18,.d (.bool false))],nB3 f v ks (rowAt s f ks ks.length)⟩):=by
 have head:∀(x:Int) (A e:qak),A.length=3->qal 3 [0,3,4,5,6] ⟨[(0,.d (sg s)),(3,.ptr 0 0),(4,.ptr 1 0),(5,.ptr 2 0),(6,.d (.int .i64 x))],A++e⟩=some ⟨[(0,.d (sg s)),(3,.ptr 0 0),(4,.ptr 1 0),(5,.ptr 2 0),(6,.d (.int .i64 x))],A⟩:=fun x A e hA=>
  qee (by simp) (by simp[qaf]) hA rfl
 intro k
 induction k with
 |zero=>
  intro i hi e;have:i=ks.length:=by omega
  subst this;refine qaG (head _ _ e (by simp[nB3])) ?_ (by simp);generalize rowAt s f ks ks.length=R;simp[qhC,qfS,qfR,qfQ,qhk,qhi,qeJ,qeI,qeH,qeG,qhh,qhg,qi5,qhf,qhj,qd8,nB3,qad]
 |succ k ih=>
  intro i hi e;have hlt:i<ks.length:=by omega
  obtain⟨e',he⟩:=qDt s hs f v ks hl i hlt (hc _ (qaJ hlt));rw[<-ih (i+1) (by omega) e'];exact qbg (head _ _ e (by simp[nB3])) he
theorem qnN(s:List SymL)(hs:s.length<=1099511627776)(f v:Int)(ks:List T)(hl:qcJ ks<=1099511627776)
 (hc:∀t,t∈ks->qai XV 153 [.d (sg s),.d (t.enc .sub)] []=some (.d (nM s t),[])):
 qai XV 153 [.d (sg s),.d ((T.node f v ks).enc .sub)] []=some (.d (nM s (.node f v ks)),[]):=by
 rw[qaE XV _ _ _ qBO rfl qsr rfl];have hloop:=qAx s hs f v ks hl hc ks.length 0 (by omega) [];rw[<-rowAt_all];simp only[rowAt_zero,List.append_nil,quD,nB3,Int.natCast_zero]at hloop;generalize rowAt s f ks ks.length=R at*
 simp[qBO,qfS,qfR,qfQ,splice,qaa,qae,qac,qan,qad,AV.qap];rw[hloop];simp[qd8,splice,qaa,qae,qac,qan,qad,AV.qap]
theorem qdl(s:List SymL)(hs:s.length<=1099511627776)(t:T)(ht:t.inner<=1099511627776):qai XV 153 [.d (sg s),.d (t.enc .sub)] []=some (.d (nM s t),[]):=by
 match t,ht with
 | .node f v ks,ht=>
  rw[T.qcx]at ht;exact qnN s hs f v ks ht fun x hx=>qdl s hs x (by have:=qb2 hx;omega)
termination_by t
decreasing_by
 simp_wf
 have:=List.sizeOf_lt_of_mem hx;omega
end Go.Proofs.Ytfiakfiocdfpbaa.VS
namespace Go.Proofs.Ytfiakfiocdfpbaa.VS
def dst(n:Int)(neg:Bool)(s:ByteArray):XS:=⟨[(0,.d (.int .i64 n)),(3,.d (.bool neg)),(4,.d (.str s))],[]⟩
end Go.Proofs.Ytfiakfiocdfpbaa.VS
namespace Go.Proofs.Ytfiakfiocdfpbaa.VS
end Go.Proofs.Ytfiakfiocdfpbaa.VS
namespace Go.Proofs.Ytfiakfiocdfpbaa.VS
end Go.Proofs.Ytfiakfiocdfpbaa.VS
