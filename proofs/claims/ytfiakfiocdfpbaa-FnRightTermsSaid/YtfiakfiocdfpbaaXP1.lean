/- Contracts of the program's functions on the evaluator without names, and plain lemmas: part 1. -/
import Derived.Test.YtfiakfiocdfpbaaLin
set_option linter.unusedSimpArgs false
set_option linter.unusedVariables false
namespace Go.Proofs.Ytfiakfiocdfpbaa.VS
inductive T where
 |node (f v:Int) (kids:List T)
 deriving Inhabited
def T.f:T->Int| .node f _ _=>f
def T.v:T->Int| .node _ v _=>v
def T.kids:T->List T| .node _ _ k=>k
mutual
def T.enc(g:Tag):T->DV
 | .node f v ks=> .agg [.int .i64 f,.int .i64 v,.sl g (T.encs g ks)]
def T.encs(g:Tag):List T->List DV
 | []=>[]
 |t::r=>t.enc g::T.encs g r
end
theorem T.qdz(g:Tag):∀l:List T,T.encs g l=l.map (T.enc g)
 | []=>by unfold T.encs;rfl
 |t::r=>by unfold T.encs;simp[T.qdz g r]
abbrev qao(g:Tag)(l:List T):DV:= .sl g (l.map (T.enc g))
theorem T.qcn(g:Tag)(t:T):t.enc g= .agg [.int .i64 t.f,.int .i64 t.v,qao g t.kids]:=by
 cases t;simp[T.enc,T.qdz,qao,T.f,T.v,T.kids]
@[simp] theorem agg_enc(g:Tag)(f v:Int)(ks:List T):DV.agg [.int .i64 f,.int .i64 v,qao g ks]=(T.node f v ks).enc g:=by
 simp[T.enc,T.qdz,qao]
@[simp] theorem T.eta(t:T):T.node t.f t.v t.kids=t:=by cases t;rfl
@[simp] theorem T.qdp(f v:Int)(k:List T):(T.node f v k).f=f:=rfl
@[simp] theorem T.qet(f v:Int)(k:List T):(T.node f v k).v=v:=rfl
@[simp] theorem T.qaS(f v:Int)(k:List T):(T.node f v k).kids=k:=rfl
@[simp] theorem T.qnZ(g:Tag)(t:T):(t.enc g).cells=[.int .i64 t.f,.int .i64 t.v,qao g t.kids]:=by rw[T.qcn];rfl
@[simp] theorem T.qk5(g:Tag)(t:T):(AV.d (t.enc g)).cells=[.d (.int .i64 t.f),.d (.int .i64 t.v),.d (qao g t.kids)]:=by rw[T.qcn];rfl
@[simp] theorem T.qk4(g:Tag)(t:T):(t.enc g).isCell=false:=by rw[T.qcn];rfl
mutual
theorem T.qe8(g:Tag):∀t:T,(t.enc g).clr=t.enc .sub
 | .node f v ks=>by simp only[T.enc,DV.clr,DV.clrs,T.qep g ks]
theorem T.qep(g:Tag):∀l:List T,DV.clrs (T.encs g l)=T.encs .sub l
 | []=>by simp only[T.encs,DV.clrs]
 |t::r=>by simp only[T.encs,DV.clrs,T.qe8 g t,T.qep g r]
end
attribute [simp] T.qe8
@[simp high] theorem qcD(g:Tag)(l:List T):(l.map (T.enc g)).map DV.clr=l.map (T.enc .sub):=by
 rw[<-T.qdz,<-T.qdz,<-DV.qaq,T.qep]
def tAt(l:List T)(i:Nat):T:=(l[i]?).getD (.node 0 0 [])
theorem qaD{l:List T}{i:Nat}(h:i<l.length):l[i]=tAt l i:=by simp[tAt,h]
theorem qaM{l:List T}{i:Nat}(h:i<l.length):tAt l i∈l:=by rw[<-qaD h];exact List.getElem_mem h
theorem qtB{l:List T}{i:Nat}(h:i<l.length):l[i]?=some (tAt l i):=by simp[tAt,h]
@[simp] theorem qEd(g:Tag){l:List T}{i:Nat}(h:i<l.length):(l.map (T.enc g))[i]?=some ((tAt l i).enc g):=by simp[qtB h]
mutual
def T.inner:T->Nat
 | .node _ _ ks=>ks.length+T.inners ks
def T.inners:List T->Nat
 | []=>0
 |t::r=>t.inner+T.inners r
end
theorem T.qgP(t:T):t.inner=t.kids.length+T.inners t.kids:=by cases t;simp[T.inner]
end Go.Proofs.Ytfiakfiocdfpbaa.VS
namespace Go.Proofs.Ytfiakfiocdfpbaa.VS
mutual
def T.ok:T->Prop
 | .node _ _ ks=>ks.length<=maxLen/\T.oks ks
def T.oks:List T->Prop
 | []=>True
 |t::r=>t.ok/\T.oks r
end
theorem qCF(g:Tag)(l:List T):∀x:DV,x∈l.map (T.enc g)->qAu true 3 x:=by
 intro x hx;simp only[List.mem_map]at hx;obtain⟨t,_,rfl⟩:=hx;exact⟨by simp,by simp[qaa,qaj],fun _=>⟨_,T.qcn g t⟩,by simp⟩
end Go.Proofs.Ytfiakfiocdfpbaa.VS
namespace Go.Proofs.Ytfiakfiocdfpbaa.VS
set_option profiler true
set_option profiler.threshold 2000
theorem T.qaG:∀{l:List T} {t:T},t∈l->t.inner<=T.inners l
 | [],t,h=>by simp at h
 |s::r,t,h=>by
  simp only[T.inners];rcases List.mem_cons.1 h with rfl|h
  ·omega
  ·have:=T.qaG h;omega
mutual
def T.cmp:T->T->Int
 | .node f v ks,.node f' v' ks'=>
  if f<f' then-1 else if f>f' then 1 else if v<v' then-1 else if v>v' then 1 else
  if ks.length<ks'.length then-1 else if ks.length>ks'.length then 1 else T.cmps ks ks'
def T.cmps:List T->List T->Int
 |a::as,b::bs=>if T.cmp a b≠0 then T.cmp a b else T.cmps as bs
 |_,_=>0
end
def qkd(l m:List T)(_:Unit)(i:Nat):Unit⊕Int:=if T.cmp (tAt l i) (tAt m i)≠0 then .inr (T.cmp (tAt l i) (tAt m i))else .inl ()
theorem qEh(l m:List T)(hl:l.length=m.length):∀(k i:Nat),i+k=l.length->runN (qkd l m) k () i=if T.cmps (l.drop i) (m.drop i)=0 then .inl ()else .inr (T.cmps (l.drop i) (m.drop i))
 |0,i,h=>by
  have h1:l.drop i=[]:=List.drop_eq_nil_of_le (by omega);simp[runN,h1,T.cmps]
 |k+1,i,h=>by
  have hlt:i<l.length:=by omega
  have hlt':i<m.length:=by omega
  rw[List.drop_eq_getElem_cons hlt,List.drop_eq_getElem_cons hlt',qaD hlt,qaD hlt'];simp only[runN,qkd,T.cmps]
  by_cases hc:T.cmp (tAt l i) (tAt m i)=0
  ·simp only[hc,ne_eq,not_true_eq_false,if_false]
   exact qEh l m hl k (i+1) (by omega)
  ·simp[hc]
def qeP(a b c d e f:Int)(i:Nat):Int×Int:=if i=0 then(a,b)else if i=1 then(c,d)else(e,f)
def qiJ(a b c d e f:Int)(_:Unit)(i:Nat):Unit⊕(Int×(Int×Int)):=if(qeP a b c d e f i).1<(qeP a b c d e f i).2 then .inr (-1,qeP a b c d e f i)else if(qeP a b c d e f i).1>(qeP a b c d e f i).2 then .inr (1,qeP a b c d e f i)else .inl ()
def qdW(f v:Int)(ks:List T)(f' v':Int)(ks':List T):qak:=[some [.d (.int .i64 f),.d (.int .i64 v),.d (qao .sub ks)],some [.d (.int .i64 f'),.d (.int .i64 v'),.d (qao .sub ks')]]
def qr6(a b c d e f:Int):List DV:=[.agg [.int .i64 a,.int .i64 b],.agg [.int .i64 c,.int .i64 d],.agg [.int .i64 e,.int .i64 f]]
theorem qqu(a b c d e f:Int)(i:Nat)(hi:i<3):(qr6 a b c d e f)[i]?=some (.agg [.int .i64 (qeP a b c d e f i).1,.int .i64 (qeP a b c d e f i).2]):=by
 match i,hi with
 |0,_=>rfl
 |1,_=>rfl
 |2,_=>rfl
theorem qr1(a b c d e f:Int)(B:qak)(hB:B.length=2):
 qbq XV [] 2 [2,3,26,27,28] qss ⟨[(2,.ptr 0 0),(3,.ptr 1 0),(26,.d (.sl .sub (qr6 a b c d e f))),(27,.d (.int .i64 3)),(28,.d (.int .i64 0))],B⟩=
  some (match runN (qiJ a b c d e f) 3 () 0 with
   | .inl _=>(.exit 0,⟨[(2,.ptr 0 0),(3,.ptr 1 0),(26,.d (.sl .sub (qr6 a b c d e f))),(27,.d (.int .i64 3)),(28,.d (.int .i64 3)),(29,.d (.bool false))],B⟩)
   | .inr r=>(.ret,⟨[(4,.d (.int .i64 r.1))],B++[some [.d (.int .i64 r.2.1),.d (.int .i64 r.2.2)]]⟩)):=by
 obtain⟨x0,x1,rfl⟩:∃x0 x1,B=[x0,x1]:=by
  match B,hB with
  | [x0,x1],_=>exact⟨x0,x1,rfl⟩
 have key:=qaJ (X:=XV) (T:=[]) (L:=2) (live:=[2,3,26,27,28]) (b:=qss) (n:=3) (γ:=Int×(Int×Int)) (st:=fun(_:Unit) i=>⟨[(2,.ptr 0 0),(3,.ptr 1 0),(26,.d (.sl .sub (qr6 a b c d e f))),(27,.d (.int .i64 3)),(28,.d (.int .i64 i))],[x0,x1]⟩) (step:=qiJ a b c d e f)
  (F:=fun _=>(.exit 0,⟨[(2,.ptr 0 0),(3,.ptr 1 0),(26,.d (.sl .sub (qr6 a b c d e f))),(27,.d (.int .i64 3)),(28,.d (.int .i64 3)),(29,.d (.bool false))],[x0,x1]⟩)) (R:=fun r=>(.ret,⟨[(4,.d (.int .i64 r.1))],[x0,x1]++[some [.d (.int .i64 r.2.1),.d (.int .i64 r.2.2)]]⟩))
  (fun _=>⟨by simp,by simp[qss,qym]⟩)
  (fun _ i hi=>by
   have hw:=qaw (n:=i) (by omega);have hi':(i:Int)<3:=by omega
   have hb:=qqu a b c d e f i hi;unfold qiJ;generalize qeP a b c d e f i=q at hb;obtain⟨x,y⟩:=q;simp only at hb⊢
   by_cases h1:x<y
   ·rw[if_pos h1]
    refine⟨by simp,?_⟩;simp[qss,qym,qBP,qBO,qBN,hi',hb,cut,h1,qaa,splice,qae,qag,qax]
   ·rw[if_neg h1]
    by_cases h2:x>y
    ·rw[if_pos h2]
     refine⟨by simp,?_⟩;simp[qss,qym,qBP,qBO,qBN,qEp,qEo,hi',hb,cut,h1,h2,qaa,splice,qae,qag,qax]
    ·rw[if_neg h2]
     refine⟨_,by simp[qss,qym,qBP,qBO,qBN,qEp,qEo,qHZ,hi',hb,cut,h1,h2,hw,qaa,splice,qae,qag,qax];rfl,?_⟩;simp[qaf,qac])
  3 () 0 ⟨[(2,.ptr 0 0),(3,.ptr 1 0),(26,.d (.sl .sub (qr6 a b c d e f))),(27,.d (.int .i64 3)),(28,.d (.int .i64 0))],[x0,x1]⟩ (by omega) (by simp[qaf,qac])
 rw[key];cases runN (qiJ a b c d e f) 3 () 0<;>rfl
theorem qr0(f v:Int)(ks:List T)(f' v':Int)(ks':List T)(hl:ks.length<=1099511627776)(hlen:ks.length=ks'.length)
 (hrec:∀s s',s∈ks->s'∈ks'->qad XV 6 [.d (s.enc .sub),.d (s'.enc .sub)] []=some (.d (.int .i64 (T.cmp s s')),[])):
 qbq XV [] 2 [2,3,47,48] qwK ⟨[(2,.ptr 0 0),(3,.ptr 1 0),(47,.d (.int .i64 ks.length)),(48,.d (.int .i64 0))],qdW f v ks f' v' ks'⟩=
  some (if T.cmps ks ks'=0 then(.exit 3,⟨[(2,.ptr 0 0),(3,.ptr 1 0),(47,.d (.int .i64 ks.length)),(48,.d (.int .i64 ks.length)),(49,.d (.bool false))],qdW f v ks f' v' ks'⟩)else(.ret,⟨[(4,.d (.int .i64 (T.cmps ks ks')))],qdW f v ks f' v' ks'⟩)):=by
 have h:=qaJ (X:=XV) (T:=[]) (L:=2) (live:=[2,3,47,48]) (b:=qwK) (n:=ks.length) (γ:=Int) (st:=fun(_:Unit) i=>⟨[(2,.ptr 0 0),(3,.ptr 1 0),(47,.d (.int .i64 ks.length)),(48,.d (.int .i64 i))],qdW f v ks f' v' ks'⟩) (step:=qkd ks ks')
  (F:=fun _=>(.exit 3,⟨[(2,.ptr 0 0),(3,.ptr 1 0),(47,.d (.int .i64 ks.length)),(48,.d (.int .i64 ks.length)),(49,.d (.bool false))],qdW f v ks f' v' ks'⟩)) (R:=fun r=>(.ret,⟨[(4,.d (.int .i64 r))],qdW f v ks f' v' ks'⟩))
  (fun _=>⟨by simp,by simp[qwK,qot]⟩)
  (fun _ i hi=>by
   have hw:=qaw (n:=i) (by omega);have hi2:i<ks'.length:=by omega
   have hc:=hrec _ _ (qaM hi) (qaM hi2);unfold qkd qdW
   by_cases h0:T.cmp (tAt ks i) (tAt ks' i)=0
   ·rw[h0]at hc⊢
    simp only[ne_eq,not_true_eq_false,if_false];refine⟨_,by simp[qwK,qot,qt3,qyV,qt2,qt1,qt0,hi,hi2,hw,cut,qaD hi,qaD hi2,hc,qae];rfl,?_⟩;simp[qaf,qac]
   ·simp only[ne_eq,h0,not_false_eq_true,if_true]
    have h0':(T.cmp (tAt ks i) (tAt ks' i) !=0)=true:=by simp[h0]
    refine⟨by simp,?_⟩;simp[qwK,qot,qt3,qyV,qt2,qt1,qt0,hi,hi2,hw,cut,qaD hi,qaD hi2,hc,qae,h0'])
  ks.length () 0 ⟨[(2,.ptr 0 0),(3,.ptr 1 0),(47,.d (.int .i64 ks.length)),(48,.d (.int .i64 0))],qdW f v ks f' v' ks'⟩ (by omega) (by simp[qaf,qac,qdW])
 rw[qEh ks ks' hlen _ _ (by omega)]at h;simp only[List.drop_zero]at h;rw[h]
 by_cases h0:T.cmps ks ks'=0<;>simp[h0]
def qnF(a b c d e f:Int)(r:Int):Int:=if a<b then-1 else if a>b then 1 else if c<d then-1 else if c>d then 1 else if e<f then-1 else if e>f then 1 else r
theorem qJR(a b c d e f:Int):(runN (qiJ a b c d e f) 3 () 0= .inl ()/\a=b/\c=d/\e=f)\/∃r,runN (qiJ a b c d e f) 3 () 0= .inr r/\∀z,qnF a b c d e f z=r.1:=by
 simp only[runN,qiJ,qeP,qnF]
 by_cases c1:a<b
 ·right;refine⟨_,by simp[c1];rfl,fun z=> ?_⟩;simp[c1]
 by_cases c2:a>b
 ·right;refine⟨_,by simp[c1,c2];rfl,fun z=> ?_⟩;simp[c1,c2]
 by_cases c3:c<d
 ·right;refine⟨_,by simp[c1,c2,c3];rfl,fun z=> ?_⟩;simp[c1,c2,c3]
 by_cases c4:c>d
 ·right;refine⟨_,by simp[c1,c2,c3,c4];rfl,fun z=> ?_⟩;simp[c1,c2,c3,c4]
 by_cases c5:e<f
 ·right;refine⟨_,by simp[c1,c2,c3,c4,c5];rfl,fun z=> ?_⟩;simp[c1,c2,c3,c4,c5]
 by_cases c6:e>f
 ·right;refine⟨_,by simp[c1,c2,c3,c4,c5,c6];rfl,fun z=> ?_⟩;simp[c1,c2,c3,c4,c5,c6]
 left;exact⟨by simp[c1,c2,c3,c4,c5,c6],by omega,by omega,by omega⟩
theorem qiu(f v:Int)(ks:List T)(f' v':Int)(ks':List T):T.cmp (.node f v ks) (.node f' v' ks')=qnF f f' v v' ks.length ks'.length (T.cmps ks ks'):=by
 simp only[T.cmp,qnF,Int.ofNat_lt,gt_iff_lt]
theorem qrZ(f v:Int)(ks:List T)(f' v':Int)(ks':List T)(hl:ks.length<=1099511627776)(hl':ks'.length<=1099511627776)
 (hrec:∀s s',s∈ks->s'∈ks'->qad XV 6 [.d (s.enc .sub),.d (s'.enc .sub)] []=some (.d (.int .i64 (T.cmp s s')),[])):
 qad XV 6 [.d ((T.node f v ks).enc .sub),.d ((T.node f' v' ks').enc .sub)] []=some (.d (.int .i64 (T.cmp (.node f v ks) (.node f' v' ks'))),[]):=by
 rw[qaA XV _ _ _ v6 rfl qsV rfl];have h1:=qr1 f f' v v' ks.length ks'.length (qdW f v ks f' v' ks') rfl;simp[v6,qH1,qH0,qaa,qaj,qag,qax,splice,qae,qaC,List.replicate];simp only[qr6,qdW]at h1;rw[h1,qiu];rcases qJR f f' v v' ks.length ks'.length with⟨h3,e1,e2,e3⟩|⟨r,h3,h4⟩
 ·rw[h3]
  have hlen:ks.length=ks'.length:=by omega
  have h2:=qr0 f v ks f' v' ks' hl hlen hrec;simp only[qdW]at h2;subst e1;subst e2
  simp[qHY,qae];rw[h2];have h5:qnF f f v v ks.length ks'.length (T.cmps ks ks')=T.cmps ks ks':=by simp[qnF,hlen]
  rw[h5]
  by_cases c7:T.cmps ks ks'=0
  ·simp[c7,qBQ]
  ·simp[c7]
 ·rw[h3,h4];simp
theorem qfn(a b:T)(ha:a.inner<=1099511627776)(hb:b.inner<=1099511627776):qad XV 6 [.d (a.enc .sub),.d (b.enc .sub)] []=some (.d (.int .i64 (T.cmp a b)),[]):=by
 match a,b,ha,hb with
 | .node f v ks,.node f' v' ks',ha,hb=>
  simp only[T.inner]at ha hb;exact qrZ f v ks f' v' ks' (by omega) (by omega) (fun s s' hs hs'=>qfn s s' (by have:=T.qaG hs;omega) (by have:=T.qaG hs';omega))
termination_by a
decreasing_by
 simp_wf
 have:=List.sizeOf_lt_of_mem hs;omega
end Go.Proofs.Ytfiakfiocdfpbaa.VS
namespace Go.Proofs.Ytfiakfiocdfpbaa.VS
theorem cmp_zero(f v:Int)(ks:List T)(f' v':Int)(ks':List T):T.cmp (.node f v ks) (.node f' v' ks')=0↔f=f'/\v=v'/\ks.length=ks'.length/\T.cmps ks ks'=0:=by
 rw[qiu];unfold qnF
 constructor
 ·intro h
  iterate 6 (split at h;·omega)
  exact⟨by omega,by omega,by omega,h⟩
 ·rintro⟨rfl,rfl,h,h'⟩
  simp[h,h']
theorem qom(f v:Int)(ks:List T)(f' v':Int)(ks':List T)(hl:ks.length<=1099511627776)(hl':ks'.length<=1099511627776)
 (hrec:∀s s',s∈ks->s'∈ks'->qad XV 3 [.d (s.enc .sub),.d (s'.enc .sub)] []=some (.d (.bool (T.cmp s s'==0)),[])):
 qad XV 3 [.d ((T.node f v ks).enc .sub),.d ((T.node f' v' ks').enc .sub)] []=some (.d (.bool (T.cmp (.node f v ks) (.node f' v' ks')==0)),[]):=by
 rw[qaA XV _ _ _ v3 rfl qA6 rfl];have hz:=cmp_zero f v ks f' v' ks';have ne:¬(f=f'/\v=v'/\ks.length=ks'.length/\T.cmps ks ks'=0)->(T.cmp (.node f v ks) (.node f' v' ks')==0)=false:=fun h=>by
  rw[<-hz]at h;simpa using h
 have hlc:(ks.length:Int)=ks'.length↔ks.length=ks'.length:=by omega
 by_cases c1:f=f'
 case neg=>
  rw[ne (fun h=>c1 h.1)];have b1:(f !=f')=true:=by simp[c1]
  simp[v3,qEJ,qEI,qEH,b1]
 by_cases c2:v=v'
 case neg=>
  rw[ne (fun h=>c2 h.2.1)];have b2:(v !=v')=true:=by simp[c2]
  simp[v3,qEJ,qEI,qEH,c1,b2]
 by_cases c3:ks.length=ks'.length
 case neg=>
  rw[ne (fun h=>c3 h.2.2.1)];have b3:((ks.length:Int) !=ks'.length)=true:=by simp;omega
  simp[v3,qEJ,qEI,qEH,c1,c2,b3]
 have h:=qaJ (X:=XV) (T:=[]) (L:=2) (live:=[2,3,5]) (b:=qGF) (n:=ks.length) (γ:=Int) (st:=fun(_:Unit) i=>⟨[(2,.ptr 0 0),(3,.ptr 1 0),(5,.d (.int .i64 i))],qdW f v ks f' v' ks'⟩) (step:=qkd ks ks')
  (F:=fun _=>(.exit 0,⟨[(2,.ptr 0 0),(3,.ptr 1 0),(5,.d (.int .i64 ks.length)),(31,.d (.bool false))],qdW f v ks f' v' ks'⟩)) (R:=fun r=>(.ret,⟨[(4,.d (.bool false))],qdW f v ks f' v' ks'⟩))
  (fun _=>⟨by simp,by simp[qGF,qGO,qdW]⟩)
  (fun _ i hi=>by
   have hw:=qaw (n:=i) (by omega);have hi2:i<ks'.length:=by omega
   have hc:=hrec _ _ (qaM hi) (qaM hi2);unfold qkd qdW
   by_cases h0:T.cmp (tAt ks i) (tAt ks' i)=0
   ·rw[h0]at hc⊢
    simp only[ne_eq,not_true_eq_false,if_false];refine⟨_,by simp[qGF,qGO,qH5,qKm,qH3,hi,hi2,hw,cut,qaD hi,qaD hi2,hc];rfl,?_⟩;simp[qaf,qac]
   ·simp only[ne_eq,h0,not_false_eq_true,if_true]
    have h0':(T.cmp (tAt ks i) (tAt ks' i)==0)=false:=by simp[h0]
    rw[h0']at hc;refine⟨by simp,?_⟩;simp[qGF,qGO,qH5,qKm,qH3,hi,hi2,hw,cut,qaD hi,qaD hi2,hc])
  ks.length () 0 ⟨[(2,.ptr 0 0),(3,.ptr 1 0),(5,.d (.int .i64 0))],qdW f v ks f' v' ks'⟩ (by omega) (by simp[qaf,qac,qdW])
 rw[qEh ks ks' c3 _ _ (by omega)]at h;simp only[List.drop_zero,qdW]at h;simp[v3,qEJ,qEI,qEH,qJV,c1,c2,hlc,c3];subst c1;subst c2
 rw[c3]at h;rw[h]
 by_cases h0:T.cmps ks ks'=0
 ·have:T.cmp (.node f v ks) (.node f v ks')=0:=hz.2 ⟨rfl,rfl,c3,h0⟩
  simp[h0,qH2,this]
 ·have:¬T.cmp (.node f v ks) (.node f v ks')=0:=fun h=>h0 (hz.1 h).2.2.2
  simp[h0,qH2,this]
theorem qiK(a b:T)(ha:a.inner<=1099511627776)(hb:b.inner<=1099511627776):qad XV 3 [.d (a.enc .sub),.d (b.enc .sub)] []=some (.d (.bool (T.cmp a b==0)),[]):=by
 match a,b,ha,hb with
 | .node f v ks,.node f' v' ks',ha,hb=>
  simp only[T.inner]at ha hb;exact qom f v ks f' v' ks' (by omega) (by omega) (fun s s' hs hs'=>qiK s s' (by have:=T.qaG hs;omega) (by have:=T.qaG hs';omega))
termination_by a
decreasing_by
 simp_wf
 have:=List.sizeOf_lt_of_mem hs;omega
theorem same_eq(a b:T)(ha:a.inner<=1099511627776)(hb:b.inner<=1099511627776):qad XV 4 [.d (a.enc .sub),.d (b.enc .sub)] []=some (.d (.bool (T.cmp a b==0)),[]):=by
 rw[qaA XV _ _ _ v4 rfl qA5 rfl];have h:=qfn a b ha hb;simp[v4,qJU,qJT,h]
end Go.Proofs.Ytfiakfiocdfpbaa.VS
namespace Go.Proofs.Ytfiakfiocdfpbaa.VS
theorem qtO(k i:Nat):runN (fun(_:Unit) (_:Nat)=>(Sum.inl ():Unit⊕Unit)) k () i= .inl ():=by
 induction k generalizing i with
 |zero=>rfl
 |succ k ih=>simp[runN,ih]
@[simp] theorem qFQ(cs:List DV):isAgg (.agg cs)=true:=rfl
@[simp] theorem qFP(k:IntKind)(n:Int):isAgg (.int k n)=false:=rfl
@[simp] theorem qJH(s:SymL):s.enc.cn=s.enc:=by simp[SymL.enc,SymL.cells]
@[simp] theorem qFO(s:SymL):isAgg s.enc=true:=rfl
@[simp] theorem qHi(s:SymL):s.enc.clr=s.enc:=by simp[SymL.enc,SymL.cells]
@[simp] theorem qDv(s:SymL):s.enc.cells=[.str s.name,.int .i64 s.arity,.bool s.ac]:=rfl
@[simp] theorem qC1(s:SymL):(AV.d s.enc).cells=[.d (.str s.name),.d (.int .i64 s.arity),.d (.bool s.ac)]:=rfl
@[simp] theorem qCq(s:SymL):s.enc.isCell=false:=rfl
@[simp] theorem qHl(n:ByteArray)(a:Int)(b:Bool):DV.agg [.str n,.int .i64 a,.bool b]=SymL.enc ⟨n,a,b⟩:=rfl
@[simp high] theorem qdV(l:List SymL):(l.map SymL.enc).map DV.clr=l.map SymL.enc:=by simp[List.map_map,Function.comp_def]
def qaB(l:List SymL)(i:Nat):SymL:=(l[i]?).getD ⟨⟨#[]⟩,0,false⟩
theorem qas{l:List SymL}{i:Nat}(h:i<l.length):l[i]=qaB l i:=by simp[qaB,h]
theorem qmz{l:List SymL}{i:Nat}(h:i<l.length):qaB l i∈l:=by rw[<-qas h];exact List.getElem_mem h
abbrev sg(l:List SymL):DV:= .sl .sub (l.map SymL.enc)
@[simp] theorem qGi(a b:ByteArray):qe1 .eql (.str a) (.str b)=some (.bool (qft a b)):=rfl
@[simp] theorem qGh(a b:ByteArray):qe1 .neq (.str a) (.str b)=some (.bool !(qft a b)):=rfl
def inB(x lo hi:Int):Bool:=decide (lo<=x)&&decide (x<=hi)
theorem qjB(x lo hi:Int):qad XV 30 [.d (.int .i64 x),.d (.int .i64 lo),.d (.int .i64 hi)] []=some (.d (.bool (inB x lo hi)),[]):=by
 rw[qaA XV _ _ _ v30 rfl qxu rfl];unfold inB
 by_cases h:lo<=x
 ·have h':x>=lo:=h
  simp[v30,qB1,qB0,h]
 ·have h':¬x>=lo:=h
  simp[v30,qB1,qB0,h]
theorem qhg(x lo hi:Int):qad XV 31 [.d (.int .i64 x),.d (.int .i64 lo),.d (.int .i64 hi)] []=some (.d (.bool (inB x lo hi)),[]):=by
 rw[qaA XV _ _ _ v31 rfl qxt rfl];unfold inB
 by_cases h:lo<=x
 ·simp[v31,qBZ,qBY,h]
 ·simp[v31,qBZ,qBY,h]
def qeu(l:List SymL)(f:Int):Bool:=inB f 0 (l.length-1)
theorem qd3{l:List SymL}{f:Int}(h:qeu l f=true):0<=f/\f.toNat<l.length:=by
 simp[qeu,inB]at h;omega
theorem qqc(l:List SymL)(hl:l.length<=1099511627776)(f:Int):qad XV 29 [.d (sg l),.d (.int .i64 f)] []=some (.d (.bool (qeu l f)),[]):=by
 rw[qaA XV _ _ _ v29 rfl qxv rfl];have hw:IntKind.i64.wrap ((l.length:Int)-1)=l.length-1:=wrap_i64 (by omega) (by omega);have h:=qjB f 0 (l.length-1);simp[v29,qEL,qEK,hw,h,qeu]
def qa9(l:List SymL)(f:Int):Bool:=qeu l f&&(qaB l f.toNat).ac
theorem qeR(l:List SymL)(hl:l.length<=1099511627776)(f:Int):qad XV 34 [.d (sg l),.d (.int .i64 f)] []=some (.d (.bool (qa9 l f)),[]):=by
 rw[qaA XV _ _ _ v34 rfl qxr rfl];have h:=qqc l hl f;unfold qa9;cases hs:qeu l f with
 |false=>
  rw[hs]at h;simp[v34,qBV,qBU,h]
 |true=>
  rw[hs]at h;obtain⟨h1,h2⟩:=qd3 hs;simp[v34,qBV,qBU,h,h1,h2,qas h2,cut]
theorem qhB(l:List SymL)(hl:l.length<=1099511627776)(f:Int):qad XV 33 [.d (sg l),.d (.int .i64 f)] []=some (.d (.bool (qa9 l f)),[]):=by
 rw[qaA XV _ _ _ v33 rfl qxs rfl];have hw:IntKind.i64.wrap ((l.length:Int)-1)=l.length-1:=wrap_i64 (by omega) (by omega);have h:=qhg f 0 (l.length-1);unfold qa9 qeu;cases hs:inB f 0 (l.length-1)with
 |false=>
  rw[hs]at h;simp[v33,qBX,qBW,h,hw]
 |true=>
  rw[hs]at h;obtain⟨h1,h2⟩:=qd3 (l:=l) (f:=f) hs;simp[v33,qBX,qBW,h,hw,h1,h2,qas h2,cut]
end Go.Proofs.Ytfiakfiocdfpbaa.VS
namespace Go.Proofs.Ytfiakfiocdfpbaa.VS
def qqE(x:Int):Int:=IntKind.i64.wrap ((BitVec.ofInt 64 x&&&BitVec.ofInt 64 255).toNat:Int)
def qKt(x y:Int):Int:=IntKind.i64.wrap ((BitVec.ofInt 64 x^^^BitVec.ofInt 64 y).toNat:Int)
theorem qh1(x:Int):qc3 .and .i64 x 255=some (.int .i64 (qqE x)):=rfl
theorem qnw(x y:Int):qc3 .xor .i64 x y=some (.int .i64 (qKt x y)):=rfl
theorem qjK(x:Int):qc3 .shr .i64 x 33=some (.int .i64 (x.fdiv 8589934592)):=rfl
theorem qjJ(x:Int):qc3 .shr .i64 x 45=some (.int .i64 (x.fdiv 35184372088832)):=rfl
theorem qnS(x:Int):0<=qqE x/\qqE x<=255:=by
 have h:(BitVec.ofInt 64 x&&&BitVec.ofInt 64 255).toNat<=255:=by
  rw[BitVec.toNat_and];exact Nat.le_trans Nat.and_le_right (by decide)
 unfold qqE;generalize (BitVec.ofInt 64 x&&&BitVec.ofInt 64 255).toNat=n at*
 rw[wrap_i64 (by omega) (by omega)];omega
def qbf(bs:List Int)(pos st:Int):List AV:=[.d (.sl .sub (bs.map (.int .u8))),.d (.int .i64 pos),.d (.int .i64 st)]
theorem qqz{B:qak}{i:Nat}{c:List AV}(h:i<B.length):qa1 (B.set i (some c)) i=some c:=by simp[qa1,h]
theorem qwF{B:qak}{i:Nat}{c:List AV}(h:qa1 B i=some c):i<B.length:=by
 rcases Nat.lt_or_ge i B.length with h1|h1
 ·exact h1
 ·simp[qa1,List.getElem?_eq_none h1]at h
theorem qc7{B:qak}{i:Nat}{c:List AV}(h:qa1 B i=some c):B[i]?=some (some c):=by
 unfold qa1 at h;split at h
 ·rename_i c' hc;rw[hc];simpa using h
 ·simp at h
theorem qvk(bs:List Int)(hl:bs.length<=1099511627776)(B:qak)(i:Nat)(pos st:Int)(hB:qa1 B i=some (qbf bs pos st))(hp:0<=pos/\pos<=bs.length):
 ∃b pos' st':Int,(0<=b/\b<=255)/\(0<=pos'/\pos'<=bs.length)/\qad XV 165 [.ptr i 0] B=some (.d (.int .i64 b),B.set i (some (qbf bs pos' st'))):=by
 have hi:=qwF hB;have hnl:¬B.length<=i:=by omega
 have htake:∀c:Option (List AV),List.take B.length (B.set i c)=B.set i c:=fun c=>List.take_of_length_le (by simp)
 have hset:∀c:Option (List AV),(B.set i c)[i]?=some c:=fun c=>by simp[hi]
 rw[qaA XV _ _ _ qBo rfl qs4 rfl];have hB:=qc7 hB;unfold qbf at hB⊢
 by_cases c:pos<bs.length
 ·have hw:IntKind.i64.wrap (pos+1)=pos+1:=wrap_i64 (by omega) (by omega)
  have hlt:pos.toNat<bs.length:=by omega
  refine⟨_,_,_,?_,?_,by simp[qBo,quS,quR,qAD,qAC,qAB,quN,quM,qae,hB,hset,splice,qh1,qnw,qjK,qjJ,qcl,hnl,c,hp,hlt,hw,cut,qaa,qaj,qag,qax,qbo,htake];exact⟨rfl,rfl⟩⟩
  ·exact qnS _
  ·exact⟨by omega,by omega⟩
 ·refine⟨_,_,_,?_,?_,by simp[qBo,quS,quR,qAD,qAC,qAB,quN,quM,qae,hB,hset,splice,qh1,qnw,qjK,qjJ,qcl,hnl,c,cut,qaa,qaj,qag,qax,qbo,htake];exact⟨rfl,rfl⟩⟩
  ·exact qnS _
  ·exact hp
def qce(bs:List Int)(i:Nat)(B B':qak):Prop:=∃pos st:Int,(0<=pos/\pos<=bs.length)/\B'=B.set i (some (qbf bs pos st))
def qcf(bs:List Int)(i:Nat)(B:qak):Prop:=∃pos st:Int,(0<=pos/\pos<=bs.length)/\qa1 B i=some (qbf bs pos st)
theorem qce.at{bs:List Int}{i:Nat}{B B':qak}(hi:i<B.length)(h:qce bs i B B'):qcf bs i B':=by
 obtain⟨pos,st,hp,rfl⟩:=h;exact⟨pos,st,hp,qqz hi⟩
theorem qce.len{bs:List Int}{i:Nat}{B B':qak}(h:qce bs i B B'):B'.length=B.length:=by
 obtain⟨pos,st,hp,rfl⟩:=h;simp
theorem qce.trans{bs:List Int}{i:Nat}{B B' B'':qak}(h:qce bs i B B')(h':qce bs i B' B''):qce bs i B B'':=by
 obtain⟨pos,st,hp,rfl⟩:=h;obtain⟨pos',st',hp',rfl⟩:=h';exact⟨pos',st',hp',by simp⟩
theorem qcf.lt{bs:List Int}{i:Nat}{B:qak}(h:qcf bs i B):i<B.length:=by
 obtain⟨_,_,_,h⟩:=h;exact qwF h
theorem qvl(bs:List Int)(hl:bs.length<=1099511627776)(B:qak)(i:Nat)(h:qcf bs i B):∃(b:Int) (B':qak),(0<=b/\b<=255)/\qce bs i B B'/\qad XV 165 [.ptr i 0] B=some (.d (.int .i64 b),B'):=by
 obtain⟨pos,st,hp,hB⟩:=h;obtain⟨b,pos',st',h1,h2,h3⟩:=qvk bs hl B i pos st hB hp;exact⟨b,_,h1,⟨pos',st',h2,rfl⟩,h3⟩
theorem qrN(x n:Int)(h:n≠0):qc3 .rem .i64 x n=some (.int .i64 (x.tmod n)):=by simp[qc3,h]
theorem qca(bs:List Int)(hl:bs.length<=1099511627776)(B:qak)(i:Nat)(h:qcf bs i B)(n:Int)(hn:0<n)(hn2:n<=256):∃(r:Int) (B':qak),(0<=r/\r<n)/\qce bs i B B'/\qad XV 159 [.ptr i 0,.d (.int .i64 n)] B=some (.d (.int .i64 r),B'):=by
 obtain⟨b,B',hb,hT,hc⟩:=qvl bs hl B i h;have hi:=h.lt;have hlen:=hT.len;have hm:b.tmod n=b%n:=Int.tmod_eq_emod_of_nonneg hb.1;have hr:=qrN b n (by omega);have htake:List.take B.length B'=B':=List.take_of_length_le (by omega);refine⟨b%n,B',⟨Int.emod_nonneg _ (by omega),Int.emod_lt_of_pos _ hn⟩,hT,?_⟩;rw[qaA XV _ _ _ qDm rfl qta rfl];have c1:¬n<=0:=by omega
 simp[qDm,qz7,qz6,qz5,qz4,qz3,qz2,qz1,qz0,qzZ,qzY,c1,hn2,hc,hr,hm,htake,hi]
theorem qdv(bs:List Int)(hl:bs.length<=1099511627776)(B:qak)(i:Nat)(h:qcf bs i B)(l:List Int)(h0:0<l.length)(h1:l.length<=256):∃(j:Nat) (hj:j<l.length) (B':qak),qce bs i B B'/\qad XV 160 [.ptr i 0,.d (.sl .sub (l.map (.int .i64)))] B=some (.d (.int .i64 l[j]),B'):=by
 obtain⟨r,B',hr,hT,hc⟩:=qca bs hl B i h l.length (by omega) (by omega);have hi:=h.lt;have hlen:=hT.len;have htake:List.take B.length B'=B':=List.take_of_length_le (by omega);refine⟨r.toNat,by omega,B',hT,?_⟩;rw[qaA XV _ _ _ qDl rfl qs9 rfl];have hlt:r.toNat<l.length:=by omega
 simp[qDl,qzX,qzW,hc,hr,hlt,htake,hi,cut]
theorem qng(bs:List Int)(hl:bs.length<=1099511627776)(B:qak)(i:Nat)(h:qcf bs i B)(l:List ByteArray)(h0:0<l.length)(h1:l.length<=256):∃(j:Nat) (hj:j<l.length) (B':qak),qce bs i B B'/\qad XV 196 [.ptr i 0,.d (.sl .sub (l.map .str))] B=some (.d (.str l[j]),B'):=by
 obtain⟨r,B',hr,hT,hc⟩:=qca bs hl B i h l.length (by omega) (by omega);have hi:=h.lt;have hlen:=hT.len;have htake:List.take B.length B'=B':=List.take_of_length_le (by omega);refine⟨r.toNat,by omega,B',hT,?_⟩;rw[qaA XV _ _ _ qDd rfl qsZ rfl];have hlt:r.toNat<l.length:=by omega
 simp[qDd,qzH,qzG,hc,hr,hlt,htake,hi,cut]
def qHk(x:Int):Int:=IntKind.i64.wrap ((BitVec.ofInt 64 x&&&BitVec.ofInt 64 1073741823).toNat:Int)
theorem qrO(x:Int):qc3 .and .i64 x 1073741823=some (.int .i64 (qHk x)):=rfl
def qzx(bs:List Int)(s:Int)(i:Nat):Int⊕Unit:= .inl (qHk (IntKind.i64.wrap (IntKind.i64.wrap (IntKind.i64.wrap (s*131)+IntKind.i64.wrap ((bs[i]?).getD 0))+7)))
theorem qpn{β:Type}(f:β->Nat->β):∀(k:Nat) (a:β) (i:Nat),∃b,runN (fun a i=>(.inl (f a i):β⊕Unit)) k a i= .inl b
 |0,a,i=>⟨a,rfl⟩
 |k+1,a,i=>by simp only[runN];exact qpn f k _ _
theorem qyB(bs:List Int)(hl:bs.length<=1099511627776)(B:qak):∃st:Int,qad XV 156 [.d (.sl .sub (bs.map (.int .u8)))] B=some (.ptr B.length 0,B++[some (qbf bs 0 st)]):=by
 have hn:min bs.length 4000<=bs.length:=Nat.min_le_left _ _;have h:=qaJ (X:=XV) (T:=XV.lin 156) (L:=B.length) (live:=[0,3,4]) (b:=qnQ) (n:=min bs.length 4000) (γ:=Unit) (st:=fun(s:Int) i=>⟨[(0,.d (.sl .sub (bs.map (.int .u8)))),(3,.d (.int .i64 s)),(4,.d (.int .i64 i))],B⟩) (step:=qzx bs)
  (F:=fun s=>(.exit 0,⟨[(0,.d (.sl .sub (bs.map (.int .u8)))),(3,.d (.int .i64 s)),(4,.d (.int .i64 (min bs.length 4000:Nat))),(15,.d (.bool false))],B⟩)) (R:=fun _=>(.ret,⟨[],B⟩))
  (fun s=>⟨by simp,by
   by_cases c:bs.length<=4000
   ·rw[Nat.min_eq_left c];simp[qnQ,qm0,qmZ,qmY,qpS,qpQ,qpR,qmX]
   ·have c1:(4000:Int)<bs.length:=by omega
    rw[Nat.min_eq_right (by omega)];simp[qnQ,qm0,qmZ,qmY,qpS,qpQ,qpR,qmX,c1,show¬bs.length<=4000 from c]⟩)
  (fun s i hi=>by
   have hw:=qaw (n:=i) (by omega);have h1:i<bs.length:=by omega
   have h2:(i:Int)<4000:=by omega
   refine⟨_,by simp[qnQ,qm0,qmZ,qmY,qpS,qpQ,qpR,qmX,h1,h2,hw,cut,qrO];rfl,by simp[qaf,qac,h1]⟩)
  (min bs.length 4000) (IntKind.i64.wrap (27064+bs.length)) 0 ⟨[(0,.d (.sl .sub (bs.map (.int .u8)))),(3,.d (.int .i64 (IntKind.i64.wrap (27064+bs.length)))),(4,.d (.int .i64 0))],B⟩ (by omega) (by simp[qaf,qac])
 obtain⟨st,hst⟩:=qpn (fun(s:Int) (i:Nat)=>qHk (IntKind.i64.wrap (IntKind.i64.wrap (IntKind.i64.wrap (s*131)+IntKind.i64.wrap ((bs[i]?).getD 0))+7))) (min bs.length 4000) (IntKind.i64.wrap (27064+bs.length)) 0;rw[show qzx bs=fun s i=>(.inl (qHk (IntKind.i64.wrap (IntKind.i64.wrap (IntKind.i64.wrap (s*131)+IntKind.i64.wrap ((bs[i]?).getD 0))+7))):Int⊕Unit)from rfl,hst]at h;refine⟨st,?_⟩;rw[qaA XV _ _ _ qDn rfl qtb rfl];simp[qDn,qm0,qmZ,qmY];simp only[qCk]at h;rw[h];simp[qmX,qbf,qaa,qaj,qag,qax,splice,qae]
end Go.Proofs.Ytfiakfiocdfpbaa.VS
namespace Go.Proofs.Ytfiakfiocdfpbaa.VS
mutual
def T.fold{σ:Type}(e:T->σ->σ):T->σ->σ
 | .node f v ks,s=>T.folds e ks (e (.node f v ks) s)
def T.folds{σ:Type}(e:T->σ->σ):List T->σ->σ
 | [],s=>s
 |t::r,s=>T.folds e r (T.fold e t s)
end
theorem qzy{α:Type}(B:List α)(x v:α)(r:List α):(B++x::r).set B.length v=B++v::r:=by simp
theorem get_at{α:Type}(B:List α)(x:α)(r:List α):(B++x::r)[B.length]?=some x:=by simp
theorem qBx{α:Type}(B:List α)(x y v:α)(r:List α):(B++x::y::r).set (B.length+1) v=B++x::v::r:=by
 rw[List.set_append_right _ _ (by omega),show B.length+1-B.length=1 by omega];rfl
theorem qCt{α:Type}(B:List α)(x y:α)(r:List α):(B++x::y::r)[B.length+1]?=some y:=by
 rw[List.getElem?_append_right (by omega),show B.length+1-B.length=1 by omega];rfl
theorem take_at{α:Type}(B r:List α):(B++r).take B.length=B:=by simp
theorem qfj{L:Nat}{live:List Nat}{s:XS}{r':List (Nat×AV)}{B e:qak}(h:keep s.r live=r')(hs:qac L r'=true)(hl:B.length=L)(he:s.B=B++e):qaf L live s=some ⟨r',B⟩:=by
 unfold qaf;rw[h,he,if_pos ⟨hs,by simp;omega⟩,<-hl,take_at]
def qxT{σ:Type}(e:T->σ->σ)(l:List T)(s:σ)(i:Nat):σ⊕Unit:= .inl (T.fold e (tAt l i) s)
theorem qJS{σ:Type}(e:T->σ->σ)(l:List T):∀(k i:Nat) (s:σ),i+k=l.length->runN (qxT e l) k s i= .inl (T.folds e (l.drop i) s)
 |0,i,s,h=>by
  have h1:l.drop i=[]:=List.drop_eq_nil_of_le (by omega);simp[runN,h1,T.folds]
 |k+1,i,s,h=>by
  have hlt:i<l.length:=by omega
  rw[List.drop_eq_getElem_cons hlt,qaD hlt];simp only[runN,qxT,T.folds];exact qJS e l k (i+1) _ (by omega)
theorem qCG{σ:Type}(st:σ->qak)(e:T->σ->σ)(k:Nat)(caps:List AV)(m:Nat)(hm:∀s,(st s).length=m)(hcs:∀n,m<=n->AV.safe.safes n caps=true)(hcc:caps.map AV.clr=caps)(hk:¬0∈XV.lin k)
 (f v:Int) (ks:List T) (hl:ks.length<=1099511627776)
 (hf:∀(x:T) (s:σ) (r:qak),qad XV k (.d (x.enc .sub)::caps) (st s++r)=some (.d (.tup []),st (e x s)++r))
 (hrec:∀x,x∈ks->∀(s:σ) (r:qak),qad XV 25 [.d (x.enc .sub),.fn k caps] (st s++r)=some (.d (.tup []),st (T.fold e x s)++r)) (s:σ) (r:qak):
 qad XV 25 [.d ((T.node f v ks).enc .sub),.fn k caps] (st s++r)=some (.d (.tup []),st (T.fold e (.node f v ks) s)++r):=by
 rw[qaA XV _ _ _ v25 rfl qxw rfl];have hf1:=hf (.node f v ks) s (r++[some [.d (.int .i64 f),.d (.int .i64 v),.d (qao .sub ks)]]);have len:∀s,(st s++r).length=m+r.length:=fun s=>by simp[hm]
 have hloop:=qaJ (X:=XV) (T:=XV.lin 25) (L:=m+r.length+1) (live:=[1,10,11,12]) (b:=qzf) (n:=ks.length) (γ:=Unit) (st:=fun(s:σ) i=>⟨[(1,.fn k caps),(10,.d (qao .sub ks)),(11,.d (.int .i64 ks.length)),(12,.d (.int .i64 i))],(st s++r)++[some [.d (.int .i64 f),.d (.int .i64 v),.d (qao .sub ks)]]⟩) (step:=qxT e ks)
  (F:=fun s=>(.exit 0,⟨[(1,.fn k caps),(10,.d (qao .sub ks)),(11,.d (.int .i64 ks.length)),(12,.d (.int .i64 ks.length)),(13,.d (.bool false))],(st s++r)++[some [.d (.int .i64 f),.d (.int .i64 v),.d (qao .sub ks)]]⟩)) (R:=fun _=>(.ret,⟨[],[]⟩))
  (fun s=>⟨by simp,by simp[qzf,qB2,hcc]⟩)
  (fun s i hi=>by
   have hw:=qaw (n:=i) (by omega);have hr:=hrec _ (qaM hi) s (r++[some [.d (.int .i64 f),.d (.int .i64 v),.d (qao .sub ks)],some [.d (.int .i64 (tAt ks i).f),.d (.int .i64 (tAt ks i).v),.d (qao .sub (tAt ks i).kids)]]);have hln:=len s;have hln2:=len (T.fold e (tAt ks i) s);simp only[<-List.append_assoc]at hr;generalize hB:st s++r=B at hr hln;generalize hB':st (T.fold e (tAt ks i) s)++r=B' at hr hln2;unfold qxT;refine⟨⟨[(1,.fn k caps),(10,.d (qao .sub ks)),(11,.d (.int .i64 ks.length)),(12,.d (.int .i64 (i+1:Nat)))],B'++[some [.d (.int .i64 f),.d (.int .i64 v),.d (qao .sub ks)],some [.d (.int .i64 (tAt ks i).f),.d (.int .i64 (tAt ks i).v),.d (qao .sub (tAt ks i).kids)]]⟩,?_,?_⟩
   ·simp[qzf,qB2,qEO,qEN,qEM,hi,hw,cut,qaD hi,hcc,hr,qzy,get_at,qBx,qCt,splice]
   ·refine qfj (e:=[some [.d (.int .i64 (tAt ks i).f),.d (.int .i64 (tAt ks i).v),.d (qao .sub (tAt ks i).kids)]]) (by simp) (by simp[qac,hcs _ (show m<=m+r.length+1 by omega)]) (by simp[hln2,hB']) (by simp[<-hB']))
  ks.length (e (.node f v ks) s) 0 ⟨[(1,.fn k caps),(10,.d (qao .sub ks)),(11,.d (.int .i64 ks.length)),(12,.d (.int .i64 0))],(st (e (.node f v ks) s)++r)++[some [.d (.int .i64 f),.d (.int .i64 v),.d (qao .sub ks)]]⟩ (by omega) (qfj (e:=[]) (by simp) (by simp[qac,hcs _ (show m<=m+r.length+1 by omega)]) (by simp[hm];omega) (by simp))
 rw[qJS e ks _ _ _ (by omega)]at hloop;simp only[List.drop_zero]at hloop;have hl0:=len s;have hl1:=len (e (.node f v ks) s);have hl2:(st (T.fold e (.node f v ks) s)++r).length=m+r.length:=len _;have hfin:T.folds e ks (e (.node f v ks) s)=T.fold e (.node f v ks) s:=by simp[T.fold]
 rw[hfin]at hloop;simp only[<-List.append_assoc]at hf1;generalize hB0:st s++r=B0 at hf1 hl0;generalize hB1:st (e (.node f v ks) s)++r=B1 at hf1 hl1 hloop;generalize hB2:st (T.fold e (.node f v ks) s)++r=B2 at hl2 hloop;have hlen:B1.length=B0.length:=by omega
 rw[<-hl1]at hloop;simp only[qao,qFK]at hf1 hloop;simp[v25,qER,qEQ,qEP,qzy,get_at,hf1,hcc,hk,hlen.symm];rw[hloop];simp[show B1.length=B2.length by omega]
theorem qv2{σ:Type}(st:σ->qak)(e:T->σ->σ)(k:Nat)(caps:List AV)(m:Nat)(hm:∀s,(st s).length=m)(hcs:∀n,m<=n->AV.safe.safes n caps=true)(hcc:caps.map AV.clr=caps)(hk:¬0∈XV.lin k)
 (hf:∀(x:T) (s:σ) (r:qak),qad XV k (.d (x.enc .sub)::caps) (st s++r)=some (.d (.tup []),st (e x s)++r)) (t:T) (ht:t.inner<=1099511627776) (s:σ) (r:qak):
 qad XV 25 [.d (t.enc .sub),.fn k caps] (st s++r)=some (.d (.tup []),st (T.fold e t s)++r):=by
 match t,ht with
 | .node f v ks,ht=>
  simp only[T.inner]at ht;exact qCG st e k caps m hm hcs hcc hk f v ks (by omega) hf (fun x hx s r=>qv2 st e k caps m hm hcs hcc hk hf x (by have:=T.qaG hx;omega) s r) s r
termination_by t
decreasing_by
 simp_wf
 have:=List.sizeOf_lt_of_mem hx;omega
end Go.Proofs.Ytfiakfiocdfpbaa.VS
namespace Go.Proofs.Ytfiakfiocdfpbaa.VS
theorem wrap_add(a b:Int):IntKind.i64.wrap (IntKind.i64.wrap a+b)=IntKind.i64.wrap (a+b):=by
 show(if(true&&decide (((if(true&&decide (a%18446744073709551616>=9223372036854775808))=true then a%18446744073709551616-18446744073709551616 else a%18446744073709551616)+b)%18446744073709551616>=9223372036854775808))=true then((if(true&&decide (a%18446744073709551616>=9223372036854775808))=true then a%18446744073709551616-18446744073709551616 else a%18446744073709551616)+b)%18446744073709551616-18446744073709551616 else((if(true&&decide (a%18446744073709551616>=9223372036854775808))=true then a%18446744073709551616-18446744073709551616 else a%18446744073709551616)+b)%18446744073709551616)=(if(true&&decide ((a+b)%18446744073709551616>=9223372036854775808))=true then(a+b)%18446744073709551616-18446744073709551616 else(a+b)%18446744073709551616);simp only[Bool.true_and,decide_eq_true_eq];have:((if a%18446744073709551616>=9223372036854775808 then a%18446744073709551616-18446744073709551616 else a%18446744073709551616)+b)%18446744073709551616=(a+b)%18446744073709551616:=by
  split<;>omega
 rw[this]
theorem qtr(a b:Int):IntKind.i64.wrap (a+IntKind.i64.wrap b)=IntKind.i64.wrap (a+b):=by
 rw[Int.add_comm,wrap_add,Int.add_comm]
mutual
def T.sum(w:T->Int):T->Int
 | .node f v ks=>w (.node f v ks)+T.sums w ks
def T.sums(w:T->Int):List T->Int
 | []=>0
 |t::r=>T.sum w t+T.sums w r
end
def qDx(w:T->Int)(x:T)(n:Int):Int:=IntKind.i64.wrap (n+w x)
mutual
theorem qqi(w:T->Int):∀(t:T) (n:Int),T.fold (qDx w) t (IntKind.i64.wrap n)=IntKind.i64.wrap (n+T.sum w t)
 | .node f v ks,n=>by
  simp only[T.fold,T.sum,qDx];rw[wrap_add,qnq w ks,Int.add_assoc]
theorem qnq(w:T->Int):∀(l:List T) (n:Int),T.folds (qDx w) l (IntKind.i64.wrap n)=IntKind.i64.wrap (n+T.sums w l)
 | [],n=>by simp[T.folds,T.sums]
 |t::r,n=>by
  simp only[T.folds,T.sums];rw[qqi w t,qnq w r,Int.add_assoc]
end
def qtF(c:T->Int)(l:List T)(n:Int)(i:Nat):Int⊕Unit:= .inl (IntKind.i64.wrap (n+c (tAt l i)))
theorem qGM(w:T->Int)(l:List T):∀(k i:Nat) (n:Int),i+k=l.length->runN (qtF (fun t=>IntKind.i64.wrap (T.sum w t)) l) k (IntKind.i64.wrap n) i= .inl (IntKind.i64.wrap (n+T.sums w (l.drop i)))
 |0,i,n,h=>by
  have h1:l.drop i=[]:=List.drop_eq_nil_of_le (by omega);simp[runN,h1,T.sums]
 |k+1,i,n,h=>by
  have hlt:i<l.length:=by omega
  rw[List.drop_eq_getElem_cons hlt,qaD hlt];simp only[runN,qtF,T.sums];rw[qtr,wrap_add,qGM w l k (i+1) _ (by omega),Int.add_assoc]
theorem qnm(t:T)(ht:t.inner<=1099511627776):qad XV 23 [.d (t.enc .sub)] []=some (.d (.int .i64 (IntKind.i64.wrap (T.sum (fun _=>1) t))),[]):=by
 rw[qaA XV _ _ _ v23 rfl qxy rfl];have key:∀(n:Int),qad XV 25 [.d (t.enc .sub),.fn 24 [.ptr 1 0]] ([some [.d (.int .i64 t.f),.d (.int .i64 t.v),.d (qao .sub t.kids)],some [.d (.int .i64 n)]]++[])=some (.d (.tup []),[some [.d (.int .i64 t.f),.d (.int .i64 t.v),.d (qao .sub t.kids)],some [.d (.int .i64 (T.fold (qDx fun _=>1) t n))]]++[]):=fun n=>
  qv2 (fun n:Int=>[some [.d (.int .i64 t.f),.d (.int .i64 t.v),.d (qao .sub t.kids)],some [.d (.int .i64 n)]]) (qDx fun _=>1) 24 [.ptr 1 0] 2 (fun _=>rfl) (fun n hn=>by simp;omega) rfl (by simp) (fun x s r=>by
   rw[qaA XV _ _ _ v24 rfl qxx rfl];simp[v24,qET,qES,splice,qDx]) t ht n []
 have k0:=key 0;have h0:=qqi (fun _=>1) t 0;rw[show IntKind.i64.wrap 0=0 from rfl,Int.zero_add]at h0;rw[h0]at k0;simp only[List.append_nil,qao]at k0;simp[v23,qEX,qEW,qEV,qEU,splice,k0]
theorem qmF(f v:Int)(ks:List T)(hl:ks.length<=1099511627776)(hrec:∀s,s∈ks->qad XV 22 [.d (s.enc .sub)] []=some (.d (.int .i64 (IntKind.i64.wrap (T.sum (fun _=>1) s))),[])):
 qad XV 22 [.d ((T.node f v ks).enc .sub)] []=some (.d (.int .i64 (IntKind.i64.wrap (T.sum (fun _=>1) (.node f v ks)))),[]):=by
 rw[qaA XV _ _ _ v22 rfl qxz rfl];have h:=qaJ (X:=XV) (T:=[]) (L:=1) (live:=[1,3,4]) (b:=qzg) (n:=ks.length) (γ:=Unit) (st:=fun(n:Int) i=>⟨[(1,.ptr 0 0),(3,.d (.int .i64 n)),(4,.d (.int .i64 i))],[some [.d (.int .i64 f),.d (.int .i64 v),.d (qao .sub ks)]]⟩) (step:=qtF (fun t=>IntKind.i64.wrap (T.sum (fun _=>1) t)) ks)
  (F:=fun n=>(.exit 0,⟨[(1,.ptr 0 0),(3,.d (.int .i64 n)),(4,.d (.int .i64 ks.length)),(9,.d (.bool false))],[some [.d (.int .i64 f),.d (.int .i64 v),.d (qao .sub ks)]]⟩)) (R:=fun r=>(.ret,⟨[],[]⟩))
  (fun _=>⟨by simp,by simp[qzg,qB3]⟩)
  (fun n i hi=>by
   have hw:=qaw (n:=i) (by omega);have hc:=hrec _ (qaM hi);exact⟨_,by simp[qzg,qB3,qE0,qEZ,hi,hw,cut,qaD hi,hc];rfl,by simp[qaf,qac]⟩)
  ks.length (IntKind.i64.wrap 1) 0 ⟨[(1,.ptr 0 0),(3,.d (.int .i64 1)),(4,.d (.int .i64 0))],[some [.d (.int .i64 f),.d (.int .i64 v),.d (qao .sub ks)]]⟩ (by omega) (by simp[qaf,qac,show IntKind.i64.wrap 1=1 from rfl])
 rw[qGM _ _ _ _ _ (by omega)]at h;simp only[List.drop_zero,qao]at h;have hs:T.sum (fun _=>1) (T.node f v ks)=1+T.sums (fun _=>1) ks:=by simp[T.sum]
 simp[v22,qE3,qE2,qE1,hs];rw[h];simp[qEY]
theorem qhA(t:T)(ht:t.inner<=1099511627776):qad XV 22 [.d (t.enc .sub)] []=some (.d (.int .i64 (IntKind.i64.wrap (T.sum (fun _=>1) t))),[]):=by
 match t,ht with
 | .node f v ks,ht=>
  simp only[T.inner]at ht;exact qmF f v ks (by omega) (fun s hs=>qhA s (by have:=T.qaG hs;omega))
termination_by t
decreasing_by
 simp_wf
 have:=List.sizeOf_lt_of_mem hs;omega
end Go.Proofs.Ytfiakfiocdfpbaa.VS
namespace Go.Proofs.Ytfiakfiocdfpbaa.VS
theorem qyF(t:T):qad XV 75 [.d (t.enc .sub)] []=some (.d (.bool (t.f== -1)),[]):=by
 rw[qaA XV _ _ _ v75 rfl qxl rfl];simp[v75,qEn,qEm]
end Go.Proofs.Ytfiakfiocdfpbaa.VS
namespace Go.Proofs.Ytfiakfiocdfpbaa.VS
abbrev is(l:List Int):DV:= .sl .sub (l.map (.int .i64))
@[simp high] theorem qGA(l:List Int):(l.map (DV.int .i64)).map DV.clr=l.map (DV.int .i64):=by simp[List.map_map,Function.comp_def]
end Go.Proofs.Ytfiakfiocdfpbaa.VS
namespace Go.Proofs.Ytfiakfiocdfpbaa.VS
def qhC(c:Int):Bool:=decide (97<=c)&&decide (c<=122)
def qnC(c:Int):Bool:=decide (48<=c)&&decide (c<=57)
theorem qkF(c:Int):qad XV 61 [.d (.int .u8 c)] []=some (.d (.bool (qhC c)),[]):=by
 rw[qaA XV _ _ _ v61 rfl qxo rfl];cases h1:decide (97<=c)<;>simp[v61,qEt,qEs,h1,qhC]
theorem qkG(c:Int):qad XV 62 [.d (.int .u8 c)] []=some (.d (.bool (qnC c)),[]):=by
 rw[qaA XV _ _ _ v62 rfl qxn rfl];cases h1:decide (48<=c)<;>simp[v62,qEr,qEq,h1,qnC]
def qmg(x:Int)(i:Nat):Prop:=(97<=x/\x<=122)\/(0<i/\48<=x/\x<=57)
instance (x:Int) (i:Nat):Decidable (qmg x i):=by unfold qmg;exact inferInstance
theorem qAH(s:ByteArray)(hs:s.size<=1099511627776)(i:Nat)(hlt:i<s.size)(x:Int)(hb:qjU s i=some x):
 qau XV [] qwM ⟨[(0,.d (.str s)),(3,.d (.int .i64 i))],[]⟩=some (if qmg x i then(.normal,⟨[(0,.d (.str s)),(3,.d (.int .i64 (i+1:Nat)))],[]⟩)else(.ret,⟨[(2,.d (.bool false))],[]⟩)):=by
 have hw:=qaw (n:=i) (by omega);simp[qwM,qBT,qED,qEC,qEE,hb,hlt,hw];cases h1:decide (97<=x)
 case true=>
  simp[hb];cases h2:decide (x<=122)
  case true=>
   simp[hb,hw];have:qmg x i:=by simp at h1 h2;exact .inl ⟨h1,h2⟩
   simp[this]
  case false=>
   simp[hb,hw];cases h3:decide (0<i)<;>simp[hb,hw]
   case true=>
    have h4:(48<=x):=by simp at h1;omega
    simp[h4,hb];have h5:¬(x<=57):=by simp at h1;omega
    have:¬qmg x i:=by simp at h1 h2;unfold qmg;omega
    simp[h5,this]
   case false=>
    have:¬qmg x i:=by simp at h1 h2 h3;unfold qmg;omega
    simp[this]
 case false=>
  simp[hb];cases h3:decide (0<i)
  case true=>
   simp[hb,hw];cases h4:decide (48<=x)
   case true=>
    simp[hb,hw];cases h5:decide (x<=57)
    case true=>
     have:qmg x i:=by simp at h1 h3 h4 h5;unfold qmg;omega
     simp[hw,this]
    case false=>
     have:¬qmg x i:=by simp at h1 h3 h4 h5;unfold qmg;omega
     simp[hw,this]
   case false=>
    have:¬qmg x i:=by simp at h1 h3 h4;unfold qmg;omega
    simp[hb,hw,this]
  case false=>
   have:¬qmg x i:=by simp at h1 h3;unfold qmg;omega
   simp[hb,hw,this]
def qyu(s:ByteArray)(i:Nat):Bool:=decide (qmg (chr s i) i)
def qie(s:ByteArray)(f:ByteArray->Nat->Bool)(i k:Nat):Bool:=(List.range' i k).all (f s)
theorem qk1(s:ByteArray)(f:ByteArray->Nat->Bool)(i:Nat):qie s f i 0=true:=rfl
theorem qk2(s:ByteArray)(f:ByteArray->Nat->Bool)(i k:Nat):qie s f i (k+1)=(f s i&&qie s f (i+1) k):=by simp[qie,List.range'_succ]
theorem qwT(s:ByteArray)(f:ByteArray->Nat->Bool)(i k:Nat):qie s f i k=true↔∀j,i<=j->j<i+k->f s j=true:=by
 simp only[qie,List.all_eq_true,List.mem_range'_1];exact⟨fun h j h1 h2=>h j ⟨h1,h2⟩,fun h j h1=>h j h1.1 h1.2⟩
theorem qAm(s:ByteArray)(hs:s.size<=1099511627776):∀(k i:Nat),i+k=s.size->
 qbq XV [] 0 [0,3] qwM ⟨[(0,.d (.str s)),(3,.d (.int .i64 i))],[]⟩=
  some (if qie s qyu i k then(.exit 0,⟨[(0,.d (.str s)),(3,.d (.int .i64 s.size)),(7,.d (.bool false))],[]⟩)else(.ret,⟨[(2,.d (.bool false))],[]⟩))
 |0,i,hk=>by
  have:i=s.size:=by omega
  subst this;rw[qdt];simp[qaf,qac,qwM,qBT,qk1]
 |k+1,i,hk=>by
  have hlt:i<s.size:=by omega
  have ih:=qAm s hs k (i+1) (by omega);rw[qdt,qk2]
  by_cases h:qmg (chr s i) i
  ·have h2:qyu s i=true:=by simp[qyu,h]
   rw[h2,Bool.true_and,<-ih];simp[qaf,qac,qAH s hs i hlt _ (qgJ hlt),h]
  ·have h2:qyu s i=false:=by simp[qyu,h]
   simp[qaf,qac,qAH s hs i hlt _ (qgJ hlt),h,h2]
def qgn(s:ByteArray):Bool:=qie s qyu 0 s.size&&inB s.size 1 8
theorem qlg(s:ByteArray)(hs:s.size<=1099511627776):qad XV 59 [.d (.str s)] []=some (.d (.bool (qgn s)),[]):=by
 rw[qaA XV _ _ _ v59 rfl qxq rfl];have h:=qAm s hs s.size 0 (by omega);simp[v59,qEG,qEF,qEB];simp at h;rw[h];cases h1:qie s qyu 0 s.size
 ·simp[qgn,h1]
 ·simp[qgn,h1,qhg]
def qlO(s:ByteArray)(i:Nat):Bool:=qhC (chr s i)||qnC (chr s i)
theorem qAG(s:ByteArray)(hs:s.size<=1099511627776)(i:Nat)(hlt:i<s.size):
 qau XV [] qwL ⟨[(0,.d (.str s)),(5,.d (.int .i64 s.size)),(6,.d (.int .i64 i))],[]⟩=some (if qlO s i then(.normal,⟨[(0,.d (.str s)),(5,.d (.int .i64 s.size)),(6,.d (.int .i64 (i+1:Nat)))],[]⟩)else(.ret,⟨[(2,.d (.bool false))],[]⟩)):=by
 have hw:=qaw (n:=i) (by omega);have hb:=qgJ hlt;simp[qwL,qBS,qEy,qEx,qEw,qEv,hb,hlt,hw,qkF,qkG];cases h1:qhC (chr s i)
 ·simp[hb,qkG]
  cases h2:qnC (chr s i)<;>simp[hw,qlO,h1,h2]
 ·simp[hw,qlO,h1]
theorem qAl(s:ByteArray)(hs:s.size<=1099511627776):∀(k i:Nat),i+k=s.size->
 qbq XV [] 0 [0,5,6] qwL ⟨[(0,.d (.str s)),(5,.d (.int .i64 s.size)),(6,.d (.int .i64 i))],[]⟩=
  some (if qie s qlO i k then(.exit 0,⟨[(0,.d (.str s)),(5,.d (.int .i64 s.size)),(6,.d (.int .i64 s.size)),(7,.d (.bool false))],[]⟩)else(.ret,⟨[(2,.d (.bool false))],[]⟩))
 |0,i,hk=>by
  have:i=s.size:=by omega
  subst this;rw[qdt];simp[qaf,qac,qwL,qBS,qk1]
 |k+1,i,hk=>by
  have hlt:i<s.size:=by omega
  have ih:=qAl s hs k (i+1) (by omega);rw[qdt,qk2];cases h:qlO s i
  ·simp[qaf,qac,qAG s hs i hlt,h]
  ·rw[Bool.true_and,<-ih]
   simp[qaf,qac,qAG s hs i hlt,h]
def qjp(s:ByteArray):Bool:=qie s qlO 0 s.size&&(inB s.size 1 8&&qhC (chr s 0))
theorem qlV(s:ByteArray)(hs:s.size<=1099511627776):qad XV 60 [.d (.str s)] []=some (.d (.bool (qjp s)),[]):=by
 rw[qaA XV _ _ _ v60 rfl qxp rfl];have h:=qAl s hs s.size 0 (by omega);simp[v60,qEA,qEz,qEu];simp at h;rw[h];cases h1:qie s qlO 0 s.size
 ·simp[qjp,h1]
 ·simp[qjp,h1,qjB]
  cases h2:inB s.size 1 8
  ·simp[h2]
  ·have h3:0<s.size:=by simp[inB]at h2;omega
   simp[h2,qgJ h3,qkF]
theorem qyt(s:ByteArray)(i:Nat):qyu s i=true↔(97<=chr s i/\chr s i<=122)\/(0<i/\48<=chr s i/\chr s i<=57):=by
 unfold qyu;rw[decide_eq_true_eq];rfl
theorem qu4(s:ByteArray)(i:Nat):qlO s i=true↔(97<=chr s i/\chr s i<=122)\/(48<=chr s i/\chr s i<=57):=by
 simp[qlO,qhC,qnC]
theorem qq3(x:Int):qhC x=true↔97<=x/\x<=122:=by simp[qhC]
theorem qoK(s:ByteArray):qjp s=qgn s:=by
 rw[Bool.eq_iff_iff];simp only[qgn,qjp,Bool.and_eq_true,qwT,qyt,qu4,qq3];constructor
 ·rintro⟨h1,h2,h3⟩
  refine⟨fun j hj hj2=> ?_,h2⟩;have h4:=h1 j hj hj2;rcases Nat.eq_zero_or_pos j with rfl|hp
  ·exact .inl h3
  ·omega
 ·rintro⟨h1,h2⟩
  have h0:0<s.size:=by simp[inB]at h2;omega
  have h5:=h1 0 (Nat.le_refl _) (by omega);refine⟨fun j hj hj2=> ?_,h2,?_⟩
  ·have h4:=h1 j hj hj2
   omega
  ·omega
end Go.Proofs.Ytfiakfiocdfpbaa.VS
namespace Go.Proofs.Ytfiakfiocdfpbaa.VS
def qaY(q:Nat->Bool):Nat->Nat->Option Nat
 |0,_=>none
 |k+1,i=>if q i then some i else qaY q k (i+1)
def qev(q:Nat->Bool)(_:Unit)(i:Nat):Unit⊕Nat:=if q i then .inr i else .inl ()
theorem qzz(q:Nat->Bool):∀(k i:Nat),runN (qev q) k () i=match qaY q k i with|some j=> .inr j|none=> .inl ()
 |0,i=>rfl
 |k+1,i=>by
  simp only[runN,qev,qaY];cases h:q i
  ·simp[qzz q k (i+1)]
  ·simp
def qyp:Option Nat->Int
 |some j=>j
 |none=> -1
theorem qjG(q:Nat->Bool):∀(k i j:Nat),qaY q k i=some j->i<=j/\j<i+k/\q j=true
 |0,i,j,h=>by simp[qaY]at h
 |k+1,i,j,h=>by
  simp only[qaY]at h;split at h
  ·simp at h;subst h;exact⟨Nat.le_refl _,by omega,by assumption⟩
  ·obtain⟨h1,h2,h3⟩:=qjG q k (i+1) j h;exact⟨by omega,by omega,h3⟩
def qdr(l:List SymL)(name:ByteArray):Int:=qyp (qaY (fun i=>qft (qaB l i).name name) l.length 0)
theorem qmD(l:List SymL)(name:ByteArray)(hl:l.length<=1099511627776):qad XV 13 [.d (sg l),.d (.str name)] []=some (.d (.int .i64 (qdr l name)),[]):=by
 rw[qaA XV _ _ _ v13 rfl qxD rfl];have h:=qaJ (X:=XV) (T:=[]) (L:=0) (live:=[0,1,5]) (b:=qwO) (n:=l.length) (st:=fun(_:Unit) i=>⟨[(0,.d (sg l)),(1,.d (.str name)),(5,.d (.int .i64 i))],[]⟩) (step:=qev fun i=>qft (qaB l i).name name)
  (F:=fun _=>(.exit 0,⟨[(0,.d (sg l)),(1,.d (.str name)),(5,.d (.int .i64 l.length)),(9,.d (.bool false))],[]⟩)) (R:=fun(j:Nat)=>(.ret,⟨[(4,.d (.int .i64 j))],[]⟩))
  (fun a=>⟨by simp,by simp[qwO,qrs,qrr,qrq,qro,qrn,qrp,qrm]⟩)
  (fun a i hi=>by
   have hw:=qaw (n:=i) (by omega);unfold qev
   by_cases hq:qft (qaB l i).name name=true
   ·rw[if_pos hq];exact⟨by simp,by simp[qwO,qrs,qrr,qrq,qro,qrn,qrp,qrm,hi,hw,cut,qas hi,hq]⟩
   ·rw[if_neg hq]
    have hq':qft (qaB l i).name name=false:=by simpa using hq
    exact⟨_,by simp[qwO,qrs,qrr,qrq,qro,qrn,qrp,qrm,hi,hw,cut,qas hi,hq'];rfl,by simp[qaf,qac]⟩)
  l.length () 0 ⟨[(0,.d (sg l)),(1,.d (.str name)),(5,.d (.int .i64 0))],[]⟩ (by omega) (by simp[qaf,qac])
 rw[qzz]at h;simp[v13,qrs,qrr,qrq,qro,qrn,qrp,qrm];rw[h];unfold qdr;cases hq:qaY (fun i=>qft (qaB l i).name name) l.length 0<;>simp[qyp,v13,qrs,qrr,qrq,qro,qrn,qrp,qrm]
theorem qlS(l:List SymL)(fk:Nat)(caps:List AV)(B:qak)(P:SymL->Bool)(hl:l.length<=1099511627776)(hs:AV.safe.safes B.length caps=true)(hcc:caps.map AV.clr=caps)(hk:¬0∈XV.lin fk)
 (hf:∀s,s∈l->qad XV fk (.d s.enc::caps) B=some (.d (.bool (P s)),B)):
 qad XV 19 [.d (sg l),.fn fk caps] B=some (.d (.int .i64 (qyp (qaY (fun i=>P (qaB l i)) l.length 0))),B):=by
 rw[qaA XV _ _ _ v19 rfl qxA rfl];have h:=qaJ (X:=XV) (T:=XV.lin 19) (L:=B.length) (live:=[0,1,7,8]) (b:=qwN) (n:=l.length) (st:=fun(_:Unit) i=>⟨[(0,.d (sg l)),(1,.fn fk caps),(7,.d (.int .i64 l.length)),(8,.d (.int .i64 i))],B⟩) (step:=qev fun i=>P (qaB l i))
  (F:=fun _=>(.exit 0,⟨[(0,.d (sg l)),(1,.fn fk caps),(7,.d (.int .i64 l.length)),(8,.d (.int .i64 l.length)),(9,.d (.bool false))],B⟩)) (R:=fun(j:Nat)=>(.ret,⟨[(4,.d (.int .i64 j))],B⟩))
  (fun a=>⟨by simp,by simp[qwN,qrl,qrk,qrj,qri,qrh,qrg,qrf,qre,hcc]⟩)
  (fun a i hi=>by
   have hw:=qaw (n:=i) (by omega);have hc:=hf _ (qmz hi);unfold qev
   by_cases hq:P (qaB l i)=true
   ·rw[if_pos hq];rw[hq]at hc
    exact⟨by simp,by simp[qwN,qrl,qrk,qrj,qri,qrh,qrg,qrf,qre,hi,hw,cut,qas hi,hc,hcc,hk]⟩
   ·rw[if_neg hq]
    have hq':P (qaB l i)=false:=by simpa using hq
    rw[hq']at hc;exact⟨_,by simp[qwN,qrl,qrk,qrj,qri,qrh,qrg,qrf,qre,hi,hw,cut,qas hi,hc,hcc,hk];rfl,by simp[qaf,qac,hs]⟩)
  l.length () 0 ⟨[(0,.d (sg l)),(1,.fn fk caps),(7,.d (.int .i64 l.length)),(8,.d (.int .i64 0))],B⟩ (by omega) (by simp[qaf,qac,hs])
 rw[qzz]at h;simp only[qFL]at h;simp[v19,qrl,qrk,qrj,qri,qrh,qrg,qrf,qre,hcc];rw[h];cases hq:qaY (fun i=>P (qaB l i)) l.length 0<;>simp[qyp,v19,qrl,qrk,qrj,qri,qrh,qrg,qrf,qre]
theorem qtC(s:SymL)(name:ByteArray):qad XV 18 [.d s.enc,.ptr 0 0] [some [.d (.str name)]]=some (.d (.bool (qft s.name name)),[some [.d (.str name)]]):=by
 rw[qaA XV _ _ _ v18 rfl qxB rfl];simp[v18,qE5,qE4]
theorem qnk(l:List SymL)(name:ByteArray)(hl:l.length<=1099511627776):qad XV 14 [.d (sg l),.d (.str name)] []=some (.d (.int .i64 (qdr l name)),[]):=by
 rw[qaA XV _ _ _ v14 rfl qxC rfl];have hc:=qlS l 18 [.ptr 0 0] [some [.d (.str name)]] (fun s=>qft s.name name) hl (by simp) (by simp) (by simp) (fun s _=>qtC s name);simp[v14,qE7,qE6,hc,qdr]
def qdx(l:List SymL)(s:SymL)(i:Nat):Bool:= !qgn s.name|| !(decide (qdr l s.name=i))|| !(inB s.arity 0 3)||(s.ac&& !decide (s.arity=2))
def ttB(s:SymL):Bool:=qft s.name ⟨#[116,116]⟩&&decide (s.arity=0)
def qiM(l:List SymL):Bool:=(qaY (fun i=>qdx l (qaB l i) i) l.length 0).isNone&&(inB l.length 1 8&&ttB (qaB l 0))
theorem qcW(l:List SymL)(s:SymL)(i:Nat):qdx l s i=false↔qgn s.name=true/\qdr l s.name=i/\inB s.arity 0 3=true/\(s.ac=true->s.arity=2):=by
 simp[qdx,and_assoc]
theorem qGC(l:List SymL)(hl:l.length<=1099511627776)(i:Nat)(hi:i<l.length)(hn:(qaB l i).name.size<=1099511627776):
 qBf 0 [0,5,6,7] (fun(_:Unit) i=>⟨[(0,.d (sg l)),(5,.d (sg l)),(6,.d (.int .i64 l.length)),(7,.d (.int .i64 i))],[]⟩) (fun(_:Nat)=>(.ret,⟨[(2,.d (.bool false))],[some [.d (.str (qaB l i).name),.d (.int .i64 (qaB l i).arity),.d (.bool (qaB l i).ac)]]⟩)) i
  (qau XV (XV.lin 77) qki ⟨[(0,.d (sg l)),(5,.d (sg l)),(6,.d (.int .i64 l.length)),(7,.d (.int .i64 i))],[]⟩) (qev (fun i=>qdx l (qaB l i) i) () i):=by
 have hw:=qaw (n:=i) (by omega);have n1:=qlV (qaB l i).name hn;rw[qoK]at n1;have n2:=qnk l (qaB l i).name hl;have n3:=qjB (qaB l i).arity 0 3;unfold qev
 by_cases hb:qdx l (qaB l i) i=true
 ·rw[if_pos hb]
  refine⟨by simp,?_⟩;cases c1:qgn (qaB l i).name with
  |false=>rw[c1]at n1;simp[qki,qg8,qg7,qg6,qg5,qg4,qg3,qg2,qg1,hi,hw,cut,qas hi,n1,splice]
  |true=>
   rw[c1]at n1
   by_cases c2:qdr l (qaB l i).name=i
   ·have b2:(qdr l (qaB l i).name !=i)=false:=by simp[c2]
    cases c3:inB (qaB l i).arity 0 3 with
    |false=>rw[c3]at n3;simp[qki,qg8,qg7,qg6,qg5,qg4,qg3,qg2,qg1,hi,hw,cut,qas hi,n1,n2,b2,n3,splice]
    |true=>
     rw[c3]at n3;have c4:(qaB l i).ac=true/\¬(qaB l i).arity=2:=by
      have:¬qdx l (qaB l i) i=false:=by simp[hb]
      rw[qcW]at this;simp only[c1,c2,c3,true_and]at this;exact Classical.not_imp.1 this
     have b4:((qaB l i).arity !=2)=true:=by simp[c4.2]
     simp[qki,qg8,qg7,qg6,qg5,qg4,qg3,qg2,qg1,hi,hw,cut,qas hi,n1,n2,b2,n3,splice,c4.1,b4]
   ·have b2:(qdr l (qaB l i).name !=i)=true:=by simp[c2]
    simp[qki,qg8,qg7,qg6,qg5,qg4,qg3,qg2,qg1,hi,hw,cut,qas hi,n1,n2,b2,splice]
 ·have hb':qdx l (qaB l i) i=false:=by simpa using hb
  rw[if_neg hb];obtain⟨c1,c2,c3,c4⟩:=(qcW l _ i).1 hb';have b2:(qdr l (qaB l i).name !=i)=false:=by simp[c2]
  rw[c1]at n1;rw[c3]at n3
  cases c5:(qaB l i).ac with
  |false=>exact⟨_,by simp[qki,qg8,qg7,qg6,qg5,qg4,qg3,qg2,qg1,hi,hw,cut,qas hi,n1,n2,b2,n3,splice,c5];rfl,by simp[qaf,qac]⟩
  |true=>
   have b4:((qaB l i).arity !=2)=false:=by simp[c4 c5]
   exact⟨_,by simp[qki,qg8,qg7,qg6,qg5,qg4,qg3,qg2,qg1,hi,hw,cut,qas hi,n1,n2,b2,n3,splice,c5,b4];rfl,by simp[qaf,qac]⟩
theorem qnl(l:List SymL)(hl:l.length<=1099511627776)(hn:∀i,i<l.length->(qaB l i).name.size<=1099511627776):qad XV 77 [.d (sg l)] []=some (.d (.bool (qiM l)),[]):=by
 rw[qaA XV _ _ _ v77 rfl qxk rfl];have h:=qaJ (X:=XV) (T:=XV.lin 77) (L:=0) (live:=[0,5,6,7]) (b:=qki) (n:=l.length) (γ:=Nat) (st:=fun(_:Unit) i=>⟨[(0,.d (sg l)),(5,.d (sg l)),(6,.d (.int .i64 l.length)),(7,.d (.int .i64 i))],[]⟩) (step:=qev fun i=>qdx l (qaB l i) i)
  (F:=fun _=>(.exit 0,⟨[(0,.d (sg l)),(5,.d (sg l)),(6,.d (.int .i64 l.length)),(7,.d (.int .i64 l.length)),(8,.d (.bool false))],[]⟩)) (R:=fun j=>(.ret,⟨[(2,.d (.bool false))],[some [.d (.str (qaB l j).name),.d (.int .i64 (qaB l j).arity),.d (.bool (qaB l j).ac)]]⟩))
  (fun a=>⟨by simp,by simp[qki,qg8,qg7,qg6,qg5,qg4,qg3,qg2,qg1]⟩)
  (fun a i hi=>by
   have hb:=qGC l hl i hi (hn i hi);unfold qev at hb⊢
   split at hb
   ·rename_i h1;rw[if_pos h1];exact hb
   ·rename_i h1;rw[if_neg h1];exact hb)
  l.length () 0 ⟨[(0,.d (sg l)),(5,.d (sg l)),(6,.d (.int .i64 l.length)),(7,.d (.int .i64 0))],[]⟩ (by omega) (by simp[qaf,qac])
 rw[qzz]at h;simp only[qFJ]at h;simp[v77,qg8,qg7,qg6,qg5,qg4,qg3,qg2,qg1];rw[h];unfold qiM;cases hq:qaY (fun i=>qdx l (qaB l i) i) l.length 0 with
 |some j=>simp
 |none=>
  have n3:=qjB l.length 1 8;cases c1:inB l.length 1 8 with
  |false=>rw[c1]at n3;simp[v77,qg8,qg7,qg6,qg5,qg4,qg3,qg2,qg1,n3]
  |true=>
   rw[c1]at n3;have h0:0<l.length:=by simp[inB]at c1;omega
   unfold ttB;cases c2:qft (qaB l 0).name ⟨#[116,116]⟩with
   |false=>simp[v77,qg8,qg7,qg6,qg5,qg4,qg3,qg2,qg1,n3,h0,qas h0,cut,c2]
   |true=>
    by_cases c3:(qaB l 0).arity=0
    ·simp[v77,qg8,qg7,qg6,qg5,qg4,qg3,qg2,qg1,n3,h0,qas h0,cut,c2,c3]
    ·have b3:((qaB l 0).arity==0)=false:=by simp[c3]
     simp[v77,qg8,qg7,qg6,qg5,qg4,qg3,qg2,qg1,n3,h0,qas h0,cut,c2,c3,b3]
theorem qmE(l:List SymL)(hl:l.length<=1099511627776)(hn:∀i,i<l.length->(qaB l i).name.size<=1099511627776):qad XV 82 [.d (sg l)] []=some (.d (.bool (qiM l)),[]):=by
 rw[qaA XV _ _ _ v82 rfl qxg rfl];have h:=qaJ (X:=XV) (T:=XV.lin 82) (L:=0) (live:=[0,3]) (b:=qmb) (n:=l.length) (γ:=Nat) (st:=fun(_:Unit) i=>⟨[(0,.d (sg l)),(3,.d (.int .i64 i))],[]⟩) (step:=qev fun i=>qdx l (qaB l i) i)
  (F:=fun _=>(.exit 0,⟨[(0,.d (sg l)),(3,.d (.int .i64 l.length)),(7,.d (.bool false))],[]⟩)) (R:=fun j=>(.ret,⟨[(2,.d (.bool false))],[]⟩))
  (fun a=>⟨by simp,by simp[qmb,qiZ,qiY,qiX,qiV,qiU,qiW,qiT]⟩)
  (fun a i hi=>by
   have hw:=qaw (n:=i) (by omega);have n1:=qlg (qaB l i).name (hn i hi);have n2:=qmD l (qaB l i).name hl;have n3:=qhg (qaB l i).arity 0 3;unfold qev
   by_cases hb:qdx l (qaB l i) i=true
   ·rw[if_pos hb]
    refine⟨by simp,?_⟩;cases c1:qgn (qaB l i).name with
    |false=>rw[c1]at n1;simp[qmb,qiZ,qiY,qiX,qiV,qiU,qiW,qiT,hi,hw,cut,qas hi,n1,splice]
    |true=>
     rw[c1]at n1
     by_cases c2:qdr l (qaB l i).name=i
     ·have b2:(qdr l (qaB l i).name !=i)=false:=by simp[c2]
      cases c3:inB (qaB l i).arity 0 3 with
      |false=>rw[c3]at n3;simp[qmb,qiZ,qiY,qiX,qiV,qiU,qiW,qiT,hi,hw,cut,qas hi,n1,n2,b2,n3,splice]
      |true=>
       rw[c3]at n3;have c4:(qaB l i).ac=true/\¬(qaB l i).arity=2:=by
        have:¬qdx l (qaB l i) i=false:=by simp[hb]
        rw[qcW]at this;simp only[c1,c2,c3,true_and]at this;exact Classical.not_imp.1 this
       have b4:((qaB l i).arity !=2)=true:=by simp[c4.2]
       simp[qmb,qiZ,qiY,qiX,qiV,qiU,qiW,qiT,hi,hw,cut,qas hi,n1,n2,b2,n3,splice,c4.1,b4]
     ·have b2:(qdr l (qaB l i).name !=i)=true:=by simp[c2]
      simp[qmb,qiZ,qiY,qiX,qiV,qiU,qiW,qiT,hi,hw,cut,qas hi,n1,n2,b2,splice]
   ·have hb':qdx l (qaB l i) i=false:=by simpa using hb
    rw[if_neg hb];obtain⟨c1,c2,c3,c4⟩:=(qcW l _ i).1 hb';have b2:(qdr l (qaB l i).name !=i)=false:=by simp[c2]
    rw[c1]at n1;rw[c3]at n3
    cases c5:(qaB l i).ac with
    |false=>exact⟨_,by simp[qmb,qiZ,qiY,qiX,qiV,qiU,qiW,qiT,hi,hw,cut,qas hi,n1,n2,b2,n3,splice,c5];rfl,by simp[qaf,qac]⟩
    |true=>
     have b4:((qaB l i).arity !=2)=false:=by simp[c4 c5]
     exact⟨_,by simp[qmb,qiZ,qiY,qiX,qiV,qiU,qiW,qiT,hi,hw,cut,qas hi,n1,n2,b2,n3,splice,c5,b4];rfl,by simp[qaf,qac]⟩)
  l.length () 0 ⟨[(0,.d (sg l)),(3,.d (.int .i64 0))],[]⟩ (by omega) (by simp[qaf,qac])
 rw[qzz]at h;simp only[qFI]at h;simp[v82,qiZ,qiY,qiX,qiV,qiU,qiW,qiT];rw[h];unfold qiM;cases hq:qaY (fun i=>qdx l (qaB l i) i) l.length 0 with
 |some j=>simp
 |none=>
  have n3:=qhg l.length 1 8;cases c1:inB l.length 1 8 with
  |false=>rw[c1]at n3;simp[v82,qiZ,qiY,qiX,qiV,qiU,qiW,qiT,n3]
  |true=>
   rw[c1]at n3;have h0:0<l.length:=by simp[inB]at c1;omega
   have hnone:∀(q:Nat->Bool) (k i j:Nat),qaY q k i=none->i<=j->j<i+k->q j=false:=by
    intro q k
    induction k with
    |zero=>intro i j _ h1 h2;omega
    |succ k ih=>
     intro i j hf h1 h2;simp only[qaY]at hf;split at hf
     ·simp at hf
     ·rcases Nat.eq_or_lt_of_le h1 with rfl|h1
      ·simpa using ‹¬q i=true›
      ·exact ih (i+1) j hf h1 (by omega)
   have hb0:=hnone _ _ _ 0 hq (Nat.le_refl _) (by omega);obtain⟨_,_,_,c4⟩:=(qcW l (qaB l 0) 0).1 hb0;have key:qbl [2,0,1] [.str (qaB l 0).name,.int .i64 (qaB l 0).arity,.bool (qaB l 0).ac] [.str ⟨#[116,116]⟩,.int .i64 0,.bool false]=some (ttB (qaB l 0)):=by
    unfold ttB;cases c2:qft (qaB l 0).name ⟨#[116,116]⟩<;>by_cases c3:(qaB l 0).arity=0<;>cases c5:(qaB l 0).ac<;>simp[qbl,c2,c3,c5]
    have:=c4 c5;omega
   have key2:∀s s':SymL,qv4 false [2,0,1] (some (.d s.enc)) (some (.d s'.enc))=(qbl [2,0,1] [.str s.name,.int .i64 s.arity,.bool s.ac] [.str s'.name,.int .i64 s'.arity,.bool s'.ac]).map fun e=> .d (.bool e):=fun s s'=>by
    show(qbl [2,0,1] s.cells s'.cells).map _=_;simp[SymL.cells]
   simp[v82,qiZ,qiY,qiX,qiV,qiU,qiW,qiT,n3,h0,qas h0,cut,key2,key,splice]
end Go.Proofs.Ytfiakfiocdfpbaa.VS
namespace Go.Proofs.Ytfiakfiocdfpbaa.VS
section
variable (X:XEnv)
end
end Go.Proofs.Ytfiakfiocdfpbaa.VS
namespace Go.Proofs.Ytfiakfiocdfpbaa.VS
end Go.Proofs.Ytfiakfiocdfpbaa.VS
namespace Go.Proofs.Ytfiakfiocdfpbaa.VS
@[simp high] theorem qDu(l:List Int):(l.map (DV.int .u8)).map DV.clr=l.map (DV.int .u8):=by simp[List.map_map,Function.comp_def]
theorem qGD(bs:List Int):qad XV 133 [.d (.sl .sub (bs.map (.int .u8)))] []=some (.d (.bool (decide (1048576<bs.length))),[]):=by
 rw[qaA XV _ _ _ qDs rfl qtg rfl];have h:decide ((1048576:Int)<bs.length)=decide (1048576<bs.length):=by congr 1;apply propext;omega
 simp[qDs,qAd,qAc,h]
end Go.Proofs.Ytfiakfiocdfpbaa.VS
namespace Go.Proofs.Ytfiakfiocdfpbaa.VS
def mk:Nat->Nat->List Int
 |0,_=>[]
 |n+1,k=>(k:Int)::mk n (k+1)
theorem qAs(B:qak)(n:Nat)(v:DV):AV.frzC B n (.d v)=some v:=by cases n<;>simp only[AV.frzC]
end Go.Proofs.Ytfiakfiocdfpbaa.VS
namespace Go.Proofs.Ytfiakfiocdfpbaa.VS
mutual
def T.nb:T->Nat
 | .node _ _ []=>0
 | .node _ _ (t::r)=>T.nbs (t::r)+1
def T.nbs:List T->Nat
 | []=>0
 |t::r=>t.nb+T.nbs r
end
def qKE(ks:List T):Nat:=if ks=[]then 0 else T.nbs ks+1
def qKD(b:Nat)(ks:List T):AV:=if ks=[]then .d (qao .sub [])else .tsl true (b+T.nbs ks) 3 ks.length
def qzw(b:Nat):List T->List AV
 | []=>[]
 | .node f v ks::r=> .d (.int .i64 f):: .d (.int .i64 v)::qKD b ks::qzw (b+qKE ks) r
mutual
def T.bx(b:Nat):T->qak
 | .node _ _ []=>[]
 | .node _ _ (t::r)=>T.bxs b (t::r)++[some (qzw b (t::r))]
def T.bxs(b:Nat):List T->qak
 | []=>[]
 |t::r=>t.bx b++T.bxs (b+t.nb) r
end
def qdE(l:List T):Nat:=l.length+T.inners l
theorem qjP(t:T):qdE t.kids=t.inner:=by cases t;simp[qdE,T.inner]
theorem qef:∀(a c:List T),T.inners (a++c)=T.inners a+T.inners c
 | [],c=>by simp[T.inners]
 |t::r,c=>by simp[T.inners,qef r c];omega
theorem qb3(t:T)(l:List T):qdE (t::l)=(t.inner+1)+qdE l:=by unfold qdE;simp[T.inners];omega
theorem qiH(ks:List T)(i:Nat)(hi:i<ks.length):ks.take (i+1)=ks.take i++[tAt ks i]:=by
 rw[<-qaD hi,List.take_append_getElem hi]
theorem qCR(ks:List T)(i:Nat):qdE (ks.take i)<=qdE ks:=by
 have h:qdE (ks.take i++ks.drop i)=qdE (ks.take i)+qdE (ks.drop i):=by unfold qdE;rw[qef];simp;omega
 rw[List.take_append_drop]at h;omega
end Go.Proofs.Ytfiakfiocdfpbaa.VS
namespace Go.Proofs.Ytfiakfiocdfpbaa.VS
end Go.Proofs.Ytfiakfiocdfpbaa.VS
namespace Go.Proofs.Ytfiakfiocdfpbaa.VS
end Go.Proofs.Ytfiakfiocdfpbaa.VS
namespace Go.Proofs.Ytfiakfiocdfpbaa.VS
def wW(l:List SymL)(x:T):Int:=if qa9 l x.f=true/\0<x.kids.length then(x.kids.length:Int)-1 else 1
def qaK(f v:Int)(ks:List T):qak:=[some [.d (.int .i64 f),.d (.int .i64 v),.d (qao .sub ks)]]
theorem qlT(l:List SymL)(hs:l.length<=1099511627776)(f v:Int)(ks:List T)(hl:ks.length<=1099511627776)(hrec:∀s,s∈ks->qad XV 118 [.d (sg l),.d (s.enc .sub)] []=some (.d (.int .i64 (IntKind.i64.wrap (T.sum (wW l) s))),[])):
 qad XV 118 [.d (sg l),.d ((T.node f v ks).enc .sub)] []=some (.d (.int .i64 (IntKind.i64.wrap (T.sum (wW l) (.node f v ks)))),[]):=by
 rw[qaA XV _ _ _ qtv rfl qth rfl];have h:=fun m=>qaJ (X:=XV) (T:=XV.lin 118) (L:=1) (live:=[0,5,23,24,25]) (b:=qqC) (n:=ks.length) (γ:=Unit) (st:=fun(m:Int) i=>⟨[(0,.d (sg l)),(5,.d (.int .i64 m)),(23,.d (qao .sub ks)),(24,.d (.int .i64 ks.length)),(25,.d (.int .i64 i))],qaK f v ks⟩) (step:=qtF (fun t=>IntKind.i64.wrap (T.sum (wW l) t)) ks)
  (F:=fun m=>(.exit 0,⟨[(0,.d (sg l)),(5,.d (.int .i64 m)),(23,.d (qao .sub ks)),(24,.d (.int .i64 ks.length)),(25,.d (.int .i64 ks.length)),(26,.d (.bool false))],qaK f v ks⟩)) (R:=fun r=>(.ret,⟨[],[]⟩))
  (fun _=>⟨by simp,by simp[qqC,qga,qf9,qf8,qf7,qf6,qf5,qf4,qf3,qf2,qf1]⟩)
  (fun m i hi=>by
   have hw:=qaw (n:=i) (by omega);have hc:=hrec _ (qaM hi);unfold qaK;exact⟨_,by simp[qqC,qga,qf9,qf8,qf7,qf6,qf5,qf4,qf3,qf2,qf1,hi,hw,cut,qaD hi,hc,splice];rfl,by simp[qaf,qac]⟩)
  ks.length (IntKind.i64.wrap m) 0 ⟨[(0,.d (sg l)),(5,.d (.int .i64 (IntKind.i64.wrap m))),(23,.d (qao .sub ks)),(24,.d (.int .i64 ks.length)),(25,.d (.int .i64 0))],qaK f v ks⟩ (by omega) (by simp[qaf,qac,qaK])
 have h':=fun m=>by
  have:=h m;rw[qGM _ _ _ _ _ (by omega)]at this;simpa only[List.drop_zero,qao,qaK,qCm]using this
 have hs2:T.sum (wW l) (T.node f v ks)=wW l (.node f v ks)+T.sums (wW l) ks:=by simp[T.sum]
 have hb:=qeR l hs f;have hw1:IntKind.i64.wrap ((ks.length:Int)-1)=ks.length-1:=wrap_i64 (by omega) (by omega);rw[hs2];have h1:=h' 1;rw[show IntKind.i64.wrap 1=1 from rfl]at h1;have h2:=h' (ks.length-1);rw[hw1]at h2;simp only[wW,T.qdp,T.qaS]
 by_cases c1:qa9 l f=true
 case neg=>
  have c1':qa9 l f=false:=by simpa using c1
  rw[c1']at hb;simp only[c1',Bool.false_eq_true,false_and,if_false];simp[qtv,qga,qf9,qf8,qf7,qf6,qf5,qf4,qf3,qf2,qf1,hb];rw[h1];simp[qtv,qga,qf9,qf8,qf7,qf6,qf5,qf4,qf3,qf2,qf1]
 case pos=>
  rw[c1]at hb;simp only[c1,true_and]
  by_cases c2:0<ks.length
  ·simp[qtv,qga,qf9,qf8,qf7,qf6,qf5,qf4,qf3,qf2,qf1,hb,c2,hw1]
   rw[h2];simp[qtv,qga,qf9,qf8,qf7,qf6,qf5,qf4,qf3,qf2,qf1]
  ·simp[qtv,qga,qf9,qf8,qf7,qf6,qf5,qf4,qf3,qf2,qf1,hb,c2]
   rw[h1];simp[qtv,qga,qf9,qf8,qf7,qf6,qf5,qf4,qf3,qf2,qf1]
theorem qeg(l:List SymL)(hs:l.length<=1099511627776)(t:T)(ht:t.inner<=1099511627776):qad XV 118 [.d (sg l),.d (t.enc .sub)] []=some (.d (.int .i64 (IntKind.i64.wrap (T.sum (wW l) t))),[]):=by
 match t,ht with
 | .node f v ks,ht=>
  simp only[T.inner]at ht;exact qlT l hs f v ks (by omega) (fun s h=>qeg l hs s (by have:=T.qaG h;omega))
termination_by t
decreasing_by
 simp_wf
 have:=List.sizeOf_lt_of_mem h;omega
theorem qle(l:List SymL)(hs:l.length<=1099511627776)(f v:Int)(ks:List T)(hl:ks.length<=1099511627776)(hrec:∀s,s∈ks->qad XV 117 [.d (sg l),.d (s.enc .sub)] []=some (.d (.int .i64 (IntKind.i64.wrap (T.sum (wW l) s))),[])):
 qad XV 117 [.d (sg l),.d ((T.node f v ks).enc .sub)] []=some (.d (.int .i64 (IntKind.i64.wrap (T.sum (wW l) (.node f v ks)))),[]):=by
 rw[qaA XV _ _ _ qtw rfl qti rfl];have h:=fun m=>qaJ (X:=XV) (T:=[]) (L:=1) (live:=[0,3,5,6]) (b:=qqD) (n:=ks.length) (γ:=Unit) (st:=fun(m:Int) i=>⟨[(0,.d (sg l)),(3,.ptr 0 0),(5,.d (.int .i64 m)),(6,.d (.int .i64 i))],qaK f v ks⟩) (step:=qtF (fun t=>IntKind.i64.wrap (T.sum (wW l) t)) ks)
  (F:=fun m=>(.exit 0,⟨[(0,.d (sg l)),(3,.ptr 0 0),(5,.d (.int .i64 m)),(6,.d (.int .i64 ks.length)),(25,.d (.bool false))],qaK f v ks⟩)) (R:=fun r=>(.ret,⟨[],[]⟩))
  (fun _=>⟨by simp,by simp[qqD,qgj,qgi,qgh,qgg,qgf,qge,qgc,qgd,qgb,qaK]⟩)
  (fun m i hi=>by
   have hw:=qaw (n:=i) (by omega);have hc:=hrec _ (qaM hi);unfold qaK;exact⟨_,by simp[qqD,qgj,qgi,qgh,qgg,qgf,qge,qgc,qgd,qgb,hi,hw,cut,qaD hi,hc,splice];rfl,by simp[qaf,qac]⟩)
  ks.length (IntKind.i64.wrap m) 0 ⟨[(0,.d (sg l)),(3,.ptr 0 0),(5,.d (.int .i64 (IntKind.i64.wrap m))),(6,.d (.int .i64 0))],qaK f v ks⟩ (by omega) (by simp[qaf,qac,qaK])
 have h':=fun m=>by
  have:=h m;rw[qGM _ _ _ _ _ (by omega)]at this;simpa only[List.drop_zero,qao,qaK]using this
 have hs2:T.sum (wW l) (T.node f v ks)=wW l (.node f v ks)+T.sums (wW l) ks:=by simp[T.sum]
 have hb:=qhB l hs f;have hw1:IntKind.i64.wrap ((ks.length:Int)-1)=ks.length-1:=wrap_i64 (by omega) (by omega);rw[hs2];have h1:=h' 1;rw[show IntKind.i64.wrap 1=1 from rfl]at h1;have h2:=h' (ks.length-1);rw[hw1]at h2;simp only[wW,T.qdp,T.qaS]
 by_cases c1:qa9 l f=true
 case neg=>
  have c1':qa9 l f=false:=by simpa using c1
  rw[c1']at hb;simp only[c1',Bool.false_eq_true,false_and,if_false];simp[qtw,qgj,qgi,qgh,qgg,qgf,qge,qgc,qgd,qgb,hb];rw[h1];simp[qtw,qgj,qgi,qgh,qgg,qgf,qge,qgc,qgd,qgb]
 case pos=>
  rw[c1]at hb;simp only[c1,true_and]
  by_cases c2:0<ks.length
  ·simp[qtw,qgj,qgi,qgh,qgg,qgf,qge,qgc,qgd,qgb,hb,c2,hw1]
   rw[h2];simp[qtw,qgj,qgi,qgh,qgg,qgf,qge,qgc,qgd,qgb]
  ·simp[qtw,qgj,qgi,qgh,qgg,qgf,qge,qgc,qgd,qgb,hb,c2]
   rw[h1];simp[qtw,qgj,qgi,qgh,qgg,qgf,qge,qgc,qgd,qgb]
theorem qfR(l:List SymL)(hs:l.length<=1099511627776)(t:T)(ht:t.inner<=1099511627776):qad XV 117 [.d (sg l),.d (t.enc .sub)] []=some (.d (.int .i64 (IntKind.i64.wrap (T.sum (wW l) t))),[]):=by
 match t,ht with
 | .node f v ks,ht=>
  simp only[T.inner]at ht;exact qle l hs f v ks (by omega) (fun s h=>qfR l hs s (by have:=T.qaG h;omega))
termination_by t
decreasing_by
 simp_wf
 have:=List.sizeOf_lt_of_mem h;omega
end Go.Proofs.Ytfiakfiocdfpbaa.VS
namespace Go.Proofs.Ytfiakfiocdfpbaa.VS
theorem qlW(a b:T)(ha:a.inner<=1099511627776)(hb:b.inner<=1099511627776):qad XV 79 [.d (a.enc .sub),.d (b.enc .sub)] []=some (.d (.bool (decide (T.cmp a b<0))),[]):=by
 rw[qaA XV _ _ _ v79 rfl qxi rfl];have h:=qfn a b ha hb;simp[v79,qEk,qEj,h]
theorem qlh(f v:Int)(ks:List T)(f' v':Int)(ks':List T)(hl:ks.length<=1099511627776)(hl':ks'.length<=1099511627776)
 (hsame:∀s s',s∈ks->s'∈ks'->qad XV 3 [.d (s.enc .sub),.d (s'.enc .sub)] []=some (.d (.bool (T.cmp s s'==0)),[]))
 (hrec:∀s s',s∈ks->s'∈ks'->qad XV 84 [.d (s.enc .sub),.d (s'.enc .sub)] []=some (.d (.bool (decide (T.cmp s s'<0))),[])):
 qad XV 84 [.d ((T.node f v ks).enc .sub),.d ((T.node f' v' ks').enc .sub)] []=some (.d (.bool (decide (T.cmp (.node f v ks) (.node f' v' ks')<0))),[]):=by
 rw[qaA XV _ _ _ v84 rfl qxe rfl];rw[qiu]
 by_cases c1:f=f'
 case neg=>
  have b1:(f !=f')=true:=by simp[c1]
  have e:decide (qnF f f' v v' ks.length ks'.length (T.cmps ks ks')<0)=decide (f<f'):=by
   unfold qnF;by_cases h1:f<f'
   ·simp[h1]
   ·have h2:f>f':=by omega
    simp[h1,h2]
  rw[e];simp[v84,qlx,qlw,qlv,qlu,qlt,qls,qlr,qlq,qlp,qh5,qh4,qlo,qfW,b1]
 subst c1
 by_cases c2:v=v'
 case neg=>
  have b2:(v !=v')=true:=by simp[c2]
  have e:decide (qnF f f v v' ks.length ks'.length (T.cmps ks ks')<0)=decide (v<v'):=by
   unfold qnF;by_cases h1:v<v'
   ·simp[h1]
   ·have h2:v>v':=by omega
    simp[h1,h2]
  rw[e];simp[v84,qlx,qlw,qlv,qlu,qlt,qls,qlr,qlq,qlp,qh5,qh4,qlo,qfW,b2]
 subst c2
 by_cases c3:ks.length=ks'.length
 case neg=>
  have b3:((ks.length:Int) !=ks'.length)=true:=by simp;omega
  have e:decide (qnF f f v v ks.length ks'.length (T.cmps ks ks')<0)=decide (ks.length<ks'.length):=by
   unfold qnF;by_cases h1:ks.length<ks'.length
   ·simp[h1]
   ·have h2:ks'.length<ks.length:=by omega
    simp[h1,h2]
  rw[e];simp[v84,qlx,qlw,qlv,qlu,qlt,qls,qlr,qlq,qlp,qh5,qh4,qlo,qfW,b3]
 have hcp:qnF f f v v ks.length ks'.length (T.cmps ks ks')=T.cmps ks ks':=by simp[qnF,c3]
 rw[hcp];have h:=qaJ (X:=XV) (T:=[]) (L:=2) (live:=[2,3,5]) (b:=qwH) (n:=ks.length) (γ:=Int) (st:=fun(_:Unit) i=>⟨[(2,.ptr 0 0),(3,.ptr 1 0),(5,.d (.int .i64 i))],qdW f v ks f v ks'⟩) (step:=qkd ks ks')
  (F:=fun _=>(.exit 0,⟨[(2,.ptr 0 0),(3,.ptr 1 0),(5,.d (.int .i64 ks.length)),(44,.d (.bool false))],qdW f v ks f v ks'⟩)) (R:=fun r=>(.ret,⟨[(4,.d (.bool (decide (r<0))))],qdW f v ks f v ks'⟩))
  (fun _=>⟨by simp,by simp[qwH,qlx,qlw,qlv,qlu,qlt,qls,qlr,qlq,qlp,qh5,qh4,qlo,qfW,qdW]⟩)
  (fun _ i hi=>by
   have hw:=qaw (n:=i) (by omega);have hi2:i<ks'.length:=by omega
   have hs:=hsame _ _ (qaM hi) (qaM hi2);have hc:=hrec _ _ (qaM hi) (qaM hi2);unfold qkd qdW
   by_cases h0:T.cmp (tAt ks i) (tAt ks' i)=0
   ·rw[h0]at hs⊢
    simp only[ne_eq,not_true_eq_false,if_false];refine⟨_,by simp[qwH,qlx,qlw,qlv,qlu,qlt,qls,qlr,qlq,qlp,qh5,qh4,qlo,qfW,hi,hi2,hw,cut,qaD hi,qaD hi2,hs];rfl,?_⟩;simp[qaf,qac]
   ·simp only[ne_eq,h0,not_false_eq_true,if_true]
    have h0':(T.cmp (tAt ks i) (tAt ks' i)==0)=false:=by simp[h0]
    rw[h0']at hs;refine⟨by simp,?_⟩;simp[qwH,qlx,qlw,qlv,qlu,qlt,qls,qlr,qlq,qlp,qh5,qh4,qlo,qfW,hi,hi2,hw,cut,qaD hi,qaD hi2,hs,hc])
  ks.length () 0 ⟨[(2,.ptr 0 0),(3,.ptr 1 0),(5,.d (.int .i64 0))],qdW f v ks f v ks'⟩ (by omega) (by simp[qaf,qac,qdW])
 rw[qEh ks ks' c3 _ _ (by omega)]at h;simp only[List.drop_zero,qdW,qao]at h;simp[v84,qlx,qlw,qlv,qlu,qlt,qls,qlr,qlq,qlp,qh5,qh4,qlo,qfW,c3];rw[c3]at h;rw[h]
 by_cases h0:T.cmps ks ks'=0<;>simp[h0,v84,qlx,qlw,qlv,qlu,qlt,qls,qlr,qlq,qlp,qh5,qh4,qlo,qfW]
theorem qd4(a b:T)(ha:a.inner<=1099511627776)(hb:b.inner<=1099511627776):qad XV 84 [.d (a.enc .sub),.d (b.enc .sub)] []=some (.d (.bool (decide (T.cmp a b<0))),[]):=by
 match a,b,ha,hb with
 | .node f v ks,.node f' v' ks',ha,hb=>
  simp only[T.inner]at ha hb;exact qlh f v ks f' v' ks' (by omega) (by omega) (fun s s' hs hs'=>qiK s s' (by have:=T.qaG hs;omega) (by have:=T.qaG hs';omega)) (fun s s' hs hs'=>qd4 s s' (by have:=T.qaG hs;omega) (by have:=T.qaG hs';omega))
termination_by a
decreasing_by
 simp_wf
 have:=List.sizeOf_lt_of_mem hs;omega
end Go.Proofs.Ytfiakfiocdfpbaa.VS
