/- Contracts of the program's functions on the evaluator without names, and plain lemmas: part 1. -/
import Derived.Test.YtfiakfiocdfpbaaLin
set_option linter.unusedSimpArgs false
set_option linter.unusedVariables false
namespace Go.Proofs.Ytfiakfiocdfpbaa.VS
inductive T where
 |node (f v:Int) (kids:List T)
 deriving Inhabited
def T.f:T->Int| .node f _ _=>f
def T.v:T->Int| .node _ v _=>v
def T.kids:T->List T| .node _ _ k=>k
mutual
def T.enc(g:Tag):T->DV
 | .node f v ks=> .agg [.int .i64 f,.int .i64 v,.sl g (T.encs g ks)]
def T.encs(g:Tag):List T->List DV
 | []=>[]
 |t::r=>t.enc g::T.encs g r
end
theorem T.qer(g:Tag):∀l:List T,T.encs g l=l.map (T.enc g)
 | []=>by unfold T.encs;rfl
 |t::r=>by unfold T.encs;simp[T.qer g r]
abbrev qaj(g:Tag)(l:List T):DV:= .sl g (l.map (T.enc g))
theorem T.qbF(g:Tag)(t:T):t.enc g= .agg [.int .i64 t.f,.int .i64 t.v,qaj g t.kids]:=by
 cases t;simp[T.enc,T.qer,qaj,T.f,T.v,T.kids]
@[simp] theorem agg_enc(g:Tag)(f v:Int)(ks:List T):DV.agg [.int .i64 f,.int .i64 v,qaj g ks]=(T.node f v ks).enc g:=by
 simp[T.enc,T.qer,qaj]
@[simp] theorem T.eta(t:T):T.node t.f t.v t.kids=t:=by cases t;rfl
@[simp] theorem T.qcj(f v:Int)(k:List T):(T.node f v k).f=f:=rfl
@[simp] theorem T.qcV(f v:Int)(k:List T):(T.node f v k).v=v:=rfl
@[simp] theorem T.qaQ(f v:Int)(k:List T):(T.node f v k).kids=k:=rfl
@[simp] theorem T.qrs(g:Tag)(t:T):(t.enc g).cells=[.int .i64 t.f,.int .i64 t.v,qaj g t.kids]:=by rw[T.qbF];rfl
@[simp] theorem T.qnu(g:Tag)(t:T):(AV.d (t.enc g)).cells=[.d (.int .i64 t.f),.d (.int .i64 t.v),.d (qaj g t.kids)]:=by rw[T.qbF];rfl
@[simp] theorem T.qnt(g:Tag)(t:T):(t.enc g).isCell=false:=by rw[T.qbF];rfl
mutual
theorem T.qf7(g:Tag):∀t:T,(t.enc g).clr=t.enc .sub
 | .node f v ks=>by simp only[T.enc,DV.clr,DV.clrs,T.qfp g ks]
theorem T.qfp(g:Tag):∀l:List T,DV.clrs (T.encs g l)=T.encs .sub l
 | []=>by simp only[T.encs,DV.clrs]
 |t::r=>by simp only[T.encs,DV.clrs,T.qf7 g t,T.qfp g r]
end
attribute [simp] T.qf7
@[simp high] theorem qbz(g:Tag)(l:List T):(l.map (T.enc g)).map DV.clr=l.map (T.enc .sub):=by
 rw[<-T.qer,<-T.qer,<-DV.qam,T.qfp]
def tAt(l:List T)(i:Nat):T:=(l[i]?).getD (.node 0 0 [])
theorem qaF{l:List T}{i:Nat}(h:i<l.length):l[i]=tAt l i:=by simp[tAt,h]
theorem qaH{l:List T}{i:Nat}(h:i<l.length):tAt l i∈l:=by rw[<-qaF h];exact List.getElem_mem h
theorem qrM{l:List T}{i:Nat}(h:i<l.length):l[i]?=some (tAt l i):=by simp[tAt,h]
@[simp] theorem qLP(g:Tag){l:List T}{i:Nat}(h:i<l.length):(l.map (T.enc g))[i]?=some ((tAt l i).enc g):=by simp[qrM h]
mutual
def T.inner:T->Nat
 | .node _ _ ks=>ks.length+T.inners ks
def T.inners:List T->Nat
 | []=>0
 |t::r=>t.inner+T.inners r
end
theorem T.qhX(t:T):t.inner=t.kids.length+T.inners t.kids:=by cases t;simp[T.inner]
end Go.Proofs.Ytfiakfiocdfpbaa.VS
namespace Go.Proofs.Ytfiakfiocdfpbaa.VS
mutual
def T.ok:T->Prop
 | .node _ _ ks=>ks.length<=maxLen/\T.oks ks
def T.oks:List T->Prop
 | []=>True
 |t::r=>t.ok/\T.oks r
end
theorem qJ5(g:Tag)(l:List T):∀x:DV,x∈l.map (T.enc g)->qHu true 3 x:=by
 intro x hx;simp only[List.mem_map]at hx;obtain⟨t,_,rfl⟩:=hx;exact⟨by simp,by simp[qaa,qab],fun _=>⟨_,T.qbF g t⟩,by simp⟩
end Go.Proofs.Ytfiakfiocdfpbaa.VS
namespace Go.Proofs.Ytfiakfiocdfpbaa.VS
set_option profiler true
set_option profiler.threshold 2000
theorem T.qaG:∀{l:List T} {t:T},t∈l->t.inner<=T.inners l
 | [],t,h=>by simp at h
 |s::r,t,h=>by
  simp only[T.inners];rcases List.mem_cons.1 h with rfl|h
  ·omega
  ·have:=T.qaG h;omega
mutual
def T.cmp:T->T->Int
 | .node f v ks,.node f' v' ks'=>
  if f<f' then-1 else if f>f' then 1 else if v<v' then-1 else if v>v' then 1 else
  if ks.length<ks'.length then-1 else if ks.length>ks'.length then 1 else T.cmps ks ks'
def T.cmps:List T->List T->Int
 |a::as,b::bs=>if T.cmp a b≠0 then T.cmp a b else T.cmps as bs
 |_,_=>0
end
def qml(l m:List T)(_:Unit)(i:Nat):Unit⊕Int:=if T.cmp (tAt l i) (tAt m i)≠0 then .inr (T.cmp (tAt l i) (tAt m i))else .inl ()
theorem qLU(l m:List T)(hl:l.length=m.length):∀(k i:Nat),i+k=l.length->runN (qml l m) k () i=if T.cmps (l.drop i) (m.drop i)=0 then .inl ()else .inr (T.cmps (l.drop i) (m.drop i))
 |0,i,h=>by
  have h1:l.drop i=[]:=List.drop_eq_nil_of_le (by omega);simp[runN,h1,T.cmps]
 |k+1,i,h=>by
  have hlt:i<l.length:=by omega
  have hlt':i<m.length:=by omega
  rw[List.drop_eq_getElem_cons hlt,List.drop_eq_getElem_cons hlt',qaF hlt,qaF hlt'];simp only[runN,qml,T.cmps]
  by_cases hc:T.cmp (tAt l i) (tAt m i)=0
  ·simp only[hc,ne_eq,not_true_eq_false,if_false]
   exact qLU l m hl k (i+1) (by omega)
  ·simp[hc]
def qfK(a b c d e f:Int)(i:Nat):Int×Int:=if i=0 then(a,b)else if i=1 then(c,d)else(e,f)
def qkm(a b c d e f:Int)(_:Unit)(i:Nat):Unit⊕(Int×(Int×Int)):=if(qfK a b c d e f i).1<(qfK a b c d e f i).2 then .inr (-1,qfK a b c d e f i)else if(qfK a b c d e f i).1>(qfK a b c d e f i).2 then .inr (1,qfK a b c d e f i)else .inl ()
def qeS(f v:Int)(ks:List T)(f' v':Int)(ks':List T):qan:=[some [.d (.int .i64 f),.d (.int .i64 v),.d (qaj .sub ks)],some [.d (.int .i64 f'),.d (.int .i64 v'),.d (qaj .sub ks')]]
def qw8(a b c d e f:Int):List DV:=[.agg [.int .i64 a,.int .i64 b],.agg [.int .i64 c,.int .i64 d],.agg [.int .i64 e,.int .i64 f]]
theorem qu1(a b c d e f:Int)(i:Nat)(hi:i<3):(qw8 a b c d e f)[i]?=some (.agg [.int .i64 (qfK a b c d e f i).1,.int .i64 (qfK a b c d e f i).2]):=by
 match i,hi with
 |0,_=>rfl
 |1,_=>rfl
 |2,_=>rfl
theorem qw3(a b c d e f:Int)(B:qan)(hB:B.length=2):
 qbj XV [] 2 [2,3,26,27,28] qxv ⟨[(2,.ptr 0 0),(3,.ptr 1 0),(26,.d (.sl .sub (qw8 a b c d e f))),(27,.d (.int .i64 3)),(28,.d (.int .i64 0))],B⟩=
  some (match runN (qkm a b c d e f) 3 () 0 with
   | .inl _=>(.exit 0,⟨[(2,.ptr 0 0),(3,.ptr 1 0),(26,.d (.sl .sub (qw8 a b c d e f))),(27,.d (.int .i64 3)),(28,.d (.int .i64 3)),(29,.d (.bool false))],B⟩)
   | .inr r=>(.ret,⟨[(4,.d (.int .i64 r.1))],B++[some [.d (.int .i64 r.2.1),.d (.int .i64 r.2.2)]]⟩)):=by
 obtain⟨x0,x1,rfl⟩:∃x0 x1,B=[x0,x1]:=by
  match B,hB with
  | [x0,x1],_=>exact⟨x0,x1,rfl⟩
 have key:=qat (X:=XV) (T:=[]) (L:=2) (live:=[2,3,26,27,28]) (b:=qxv) (n:=3) (γ:=Int×(Int×Int)) (st:=fun(_:Unit) i=>⟨[(2,.ptr 0 0),(3,.ptr 1 0),(26,.d (.sl .sub (qw8 a b c d e f))),(27,.d (.int .i64 3)),(28,.d (.int .i64 i))],[x0,x1]⟩) (step:=qkm a b c d e f)
  (F:=fun _=>(.exit 0,⟨[(2,.ptr 0 0),(3,.ptr 1 0),(26,.d (.sl .sub (qw8 a b c d e f))),(27,.d (.int .i64 3)),(28,.d (.int .i64 3)),(29,.d (.bool false))],[x0,x1]⟩)) (R:=fun r=>(.ret,⟨[(4,.d (.int .i64 r.1))],[x0,x1]++[some [.d (.int .i64 r.2.1),.d (.int .i64 r.2.2)]]⟩))
  (fun _=>⟨by simp,by simp[qxv,qEL]⟩)
  (fun _ i hi=>by
   have hw:=qao (n:=i) (by omega);have hi':(i:Int)<3:=by omega
   have hb:=qu1 a b c d e f i hi;unfold qkm;generalize qfK a b c d e f i=q at hb;obtain⟨x,y⟩:=q;simp only at hb⊢
   by_cases h1:x<y
   ·rw[if_pos h1]
    refine⟨by simp,?_⟩;simp[qxv,qEL,qI0,qIZ,qIY,hi',hb,cut,h1,qaa,splice,qae,qac,qai]
   ·rw[if_neg h1]
    by_cases h2:x>y
    ·rw[if_pos h2]
     refine⟨by simp,?_⟩;simp[qxv,qEL,qI0,qIZ,qIY,qMc,qMb,hi',hb,cut,h1,h2,qaa,splice,qae,qac,qai]
    ·rw[if_neg h2]
     refine⟨_,by simp[qxv,qEL,qI0,qIZ,qIY,qMc,qMb,qQt,hi',hb,cut,h1,h2,hw,qaa,splice,qae,qac,qai];rfl,?_⟩;simp[qag,qad])
  3 () 0 ⟨[(2,.ptr 0 0),(3,.ptr 1 0),(26,.d (.sl .sub (qw8 a b c d e f))),(27,.d (.int .i64 3)),(28,.d (.int .i64 0))],[x0,x1]⟩ (by omega) (by simp[qag,qad])
 rw[key];cases runN (qkm a b c d e f) 3 () 0<;>rfl
theorem qw2(f v:Int)(ks:List T)(f' v':Int)(ks':List T)(hl:ks.length<=1099511627776)(hlen:ks.length=ks'.length)
 (hrec:∀s s',s∈ks->s'∈ks'->qaf XV 6 [.d (s.enc .sub),.d (s'.enc .sub)] []=some (.d (.int .i64 (T.cmp s s')),[])):
 qbj XV [] 2 [2,3,47,48] qCI ⟨[(2,.ptr 0 0),(3,.ptr 1 0),(47,.d (.int .i64 ks.length)),(48,.d (.int .i64 0))],qeS f v ks f' v' ks'⟩=
  some (if T.cmps ks ks'=0 then(.exit 3,⟨[(2,.ptr 0 0),(3,.ptr 1 0),(47,.d (.int .i64 ks.length)),(48,.d (.int .i64 ks.length)),(49,.d (.bool false))],qeS f v ks f' v' ks'⟩)else(.ret,⟨[(4,.d (.int .i64 (T.cmps ks ks')))],qeS f v ks f' v' ks'⟩)):=by
 have h:=qat (X:=XV) (T:=[]) (L:=2) (live:=[2,3,47,48]) (b:=qCI) (n:=ks.length) (γ:=Int) (st:=fun(_:Unit) i=>⟨[(2,.ptr 0 0),(3,.ptr 1 0),(47,.d (.int .i64 ks.length)),(48,.d (.int .i64 i))],qeS f v ks f' v' ks'⟩) (step:=qml ks ks')
  (F:=fun _=>(.exit 3,⟨[(2,.ptr 0 0),(3,.ptr 1 0),(47,.d (.int .i64 ks.length)),(48,.d (.int .i64 ks.length)),(49,.d (.bool false))],qeS f v ks f' v' ks'⟩)) (R:=fun r=>(.ret,⟨[(4,.d (.int .i64 r))],qeS f v ks f' v' ks'⟩))
  (fun _=>⟨by simp,by simp[qCI,qr9]⟩)
  (fun _ i hi=>by
   have hw:=qao (n:=i) (by omega);have hi2:i<ks'.length:=by omega
   have hc:=hrec _ _ (qaH hi) (qaH hi2);unfold qml qeS
   by_cases h0:T.cmp (tAt ks i) (tAt ks' i)=0
   ·rw[h0]at hc⊢
    simp only[ne_eq,not_true_eq_false,if_false];refine⟨_,by simp[qCI,qr9,qzE,qFu,qzD,qzC,qzB,hi,hi2,hw,cut,qaF hi,qaF hi2,hc,qae];rfl,?_⟩;simp[qag,qad]
   ·simp only[ne_eq,h0,not_false_eq_true,if_true]
    have h0':(T.cmp (tAt ks i) (tAt ks' i) !=0)=true:=by simp[h0]
    refine⟨by simp,?_⟩;simp[qCI,qr9,qzE,qFu,qzD,qzC,qzB,hi,hi2,hw,cut,qaF hi,qaF hi2,hc,qae,h0'])
  ks.length () 0 ⟨[(2,.ptr 0 0),(3,.ptr 1 0),(47,.d (.int .i64 ks.length)),(48,.d (.int .i64 0))],qeS f v ks f' v' ks'⟩ (by omega) (by simp[qag,qad,qeS])
 rw[qLU ks ks' hlen _ _ (by omega)]at h;simp only[List.drop_zero]at h;rw[h]
 by_cases h0:T.cmps ks ks'=0<;>simp[h0]
def qq4(a b c d e f:Int)(r:Int):Int:=if a<b then-1 else if a>b then 1 else if c<d then-1 else if c>d then 1 else if e<f then-1 else if e>f then 1 else r
theorem qSZ(a b c d e f:Int):(runN (qkm a b c d e f) 3 () 0= .inl ()/\a=b/\c=d/\e=f)\/∃r,runN (qkm a b c d e f) 3 () 0= .inr r/\∀z,qq4 a b c d e f z=r.1:=by
 simp only[runN,qkm,qfK,qq4]
 by_cases c1:a<b
 ·right;refine⟨_,by simp[c1];rfl,fun z=> ?_⟩;simp[c1]
 by_cases c2:a>b
 ·right;refine⟨_,by simp[c1,c2];rfl,fun z=> ?_⟩;simp[c1,c2]
 by_cases c3:c<d
 ·right;refine⟨_,by simp[c1,c2,c3];rfl,fun z=> ?_⟩;simp[c1,c2,c3]
 by_cases c4:c>d
 ·right;refine⟨_,by simp[c1,c2,c3,c4];rfl,fun z=> ?_⟩;simp[c1,c2,c3,c4]
 by_cases c5:e<f
 ·right;refine⟨_,by simp[c1,c2,c3,c4,c5];rfl,fun z=> ?_⟩;simp[c1,c2,c3,c4,c5]
 by_cases c6:e>f
 ·right;refine⟨_,by simp[c1,c2,c3,c4,c5,c6];rfl,fun z=> ?_⟩;simp[c1,c2,c3,c4,c5,c6]
 left;exact⟨by simp[c1,c2,c3,c4,c5,c6],by omega,by omega,by omega⟩
theorem qj7(f v:Int)(ks:List T)(f' v':Int)(ks':List T):T.cmp (.node f v ks) (.node f' v' ks')=qq4 f f' v v' ks.length ks'.length (T.cmps ks ks'):=by
 simp only[T.cmp,qq4,Int.ofNat_lt,gt_iff_lt]
theorem qw1(f v:Int)(ks:List T)(f' v':Int)(ks':List T)(hl:ks.length<=1099511627776)(hl':ks'.length<=1099511627776)
 (hrec:∀s s',s∈ks->s'∈ks'->qaf XV 6 [.d (s.enc .sub),.d (s'.enc .sub)] []=some (.d (.int .i64 (T.cmp s s')),[])):
 qaf XV 6 [.d ((T.node f v ks).enc .sub),.d ((T.node f' v' ks').enc .sub)] []=some (.d (.int .i64 (T.cmp (.node f v ks) (.node f' v' ks'))),[]):=by
 rw[qap XV _ _ _ v6 rfl qx2 rfl];have h1:=qw3 f f' v v' ks.length ks'.length (qeS f v ks f' v' ks') rfl;simp[v6,qQv,qQu,qaa,qab,qac,qai,splice,qae,qay,List.replicate];simp only[qw8,qeS]at h1;rw[h1,qj7];rcases qSZ f f' v v' ks.length ks'.length with⟨h3,e1,e2,e3⟩|⟨r,h3,h4⟩
 ·rw[h3]
  have hlen:ks.length=ks'.length:=by omega
  have h2:=qw2 f v ks f' v' ks' hl hlen hrec;simp only[qeS]at h2;subst e1;subst e2
  simp[qQs,qae];rw[h2];have h5:qq4 f f v v ks.length ks'.length (T.cmps ks ks')=T.cmps ks ks':=by simp[qq4,hlen]
  rw[h5]
  by_cases c7:T.cmps ks ks'=0
  ·simp[c7,qI1]
  ·simp[c7]
 ·rw[h3,h4];simp
theorem qgl(a b:T)(ha:a.inner<=1099511627776)(hb:b.inner<=1099511627776):qaf XV 6 [.d (a.enc .sub),.d (b.enc .sub)] []=some (.d (.int .i64 (T.cmp a b)),[]):=by
 match a,b,ha,hb with
 | .node f v ks,.node f' v' ks',ha,hb=>
  simp only[T.inner]at ha hb;exact qw1 f v ks f' v' ks' (by omega) (by omega) (fun s s' hs hs'=>qgl s s' (by have:=T.qaG hs;omega) (by have:=T.qaG hs';omega))
termination_by a
decreasing_by
 simp_wf
 have:=List.sizeOf_lt_of_mem hs;omega
end Go.Proofs.Ytfiakfiocdfpbaa.VS
namespace Go.Proofs.Ytfiakfiocdfpbaa.VS
theorem cmp_zero(f v:Int)(ks:List T)(f' v':Int)(ks':List T):T.cmp (.node f v ks) (.node f' v' ks')=0↔f=f'/\v=v'/\ks.length=ks'.length/\T.cmps ks ks'=0:=by
 rw[qj7];unfold qq4
 constructor
 ·intro h
  iterate 6 (split at h;·omega)
  exact⟨by omega,by omega,by omega,h⟩
 ·rintro⟨rfl,rfl,h,h'⟩
  simp[h,h']
theorem qrT(f v:Int)(ks:List T)(f' v':Int)(ks':List T)(hl:ks.length<=1099511627776)(hl':ks'.length<=1099511627776)
 (hrec:∀s s',s∈ks->s'∈ks'->qaf XV 3 [.d (s.enc .sub),.d (s'.enc .sub)] []=some (.d (.bool (T.cmp s s'==0)),[])):
 qaf XV 3 [.d ((T.node f v ks).enc .sub),.d ((T.node f' v' ks').enc .sub)] []=some (.d (.bool (T.cmp (.node f v ks) (.node f' v' ks')==0)),[]):=by
 rw[qap XV _ _ _ v3 rfl qH7 rfl];have hz:=cmp_zero f v ks f' v' ks';have ne:¬(f=f'/\v=v'/\ks.length=ks'.length/\T.cmps ks ks'=0)->(T.cmp (.node f v ks) (.node f' v' ks')==0)=false:=fun h=>by
  rw[<-hz]at h;simpa using h
 have hlc:(ks.length:Int)=ks'.length↔ks.length=ks'.length:=by omega
 by_cases c1:f=f'
 case neg=>
  rw[ne (fun h=>c1 h.1)];have b1:(f !=f')=true:=by simp[c1]
  simp[v3,qMw,qMv,qMu,b1]
 by_cases c2:v=v'
 case neg=>
  rw[ne (fun h=>c2 h.2.1)];have b2:(v !=v')=true:=by simp[c2]
  simp[v3,qMw,qMv,qMu,c1,b2]
 by_cases c3:ks.length=ks'.length
 case neg=>
  rw[ne (fun h=>c3 h.2.2.1)];have b3:((ks.length:Int) !=ks'.length)=true:=by simp;omega
  simp[v3,qMw,qMv,qMu,c1,c2,b3]
 have h:=qat (X:=XV) (T:=[]) (L:=2) (live:=[2,3,5]) (b:=qOS) (n:=ks.length) (γ:=Int) (st:=fun(_:Unit) i=>⟨[(2,.ptr 0 0),(3,.ptr 1 0),(5,.d (.int .i64 i))],qeS f v ks f' v' ks'⟩) (step:=qml ks ks')
  (F:=fun _=>(.exit 0,⟨[(2,.ptr 0 0),(3,.ptr 1 0),(5,.d (.int .i64 ks.length)),(31,.d (.bool false))],qeS f v ks f' v' ks'⟩)) (R:=fun r=>(.ret,⟨[(4,.d (.bool false))],qeS f v ks f' v' ks'⟩))
  (fun _=>⟨by simp,by simp[qOS,qO1,qeS]⟩)
  (fun _ i hi=>by
   have hw:=qao (n:=i) (by omega);have hi2:i<ks'.length:=by omega
   have hc:=hrec _ _ (qaH hi) (qaH hi2);unfold qml qeS
   by_cases h0:T.cmp (tAt ks i) (tAt ks' i)=0
   ·rw[h0]at hc⊢
    simp only[ne_eq,not_true_eq_false,if_false];refine⟨_,by simp[qOS,qO1,qQz,qTE,qQx,hi,hi2,hw,cut,qaF hi,qaF hi2,hc];rfl,?_⟩;simp[qag,qad]
   ·simp only[ne_eq,h0,not_false_eq_true,if_true]
    have h0':(T.cmp (tAt ks i) (tAt ks' i)==0)=false:=by simp[h0]
    rw[h0']at hc;refine⟨by simp,?_⟩;simp[qOS,qO1,qQz,qTE,qQx,hi,hi2,hw,cut,qaF hi,qaF hi2,hc])
  ks.length () 0 ⟨[(2,.ptr 0 0),(3,.ptr 1 0),(5,.d (.int .i64 0))],qeS f v ks f' v' ks'⟩ (by omega) (by simp[qag,qad,qeS])
 rw[qLU ks ks' c3 _ _ (by omega)]at h;simp only[List.drop_zero,qeS]at h;simp[v3,qMw,qMv,qMu,qS3,c1,c2,hlc,c3];subst c1;subst c2
 rw[c3]at h;rw[h]
 by_cases h0:T.cmps ks ks'=0
 ·have:T.cmp (.node f v ks) (.node f v ks')=0:=hz.2 ⟨rfl,rfl,c3,h0⟩
  simp[h0,qQw,this]
 ·have:¬T.cmp (.node f v ks) (.node f v ks')=0:=fun h=>h0 (hz.1 h).2.2.2
  simp[h0,qQw,this]
theorem qgN(a b:T)(ha:a.inner<=1099511627776)(hb:b.inner<=1099511627776):qaf XV 3 [.d (a.enc .sub),.d (b.enc .sub)] []=some (.d (.bool (T.cmp a b==0)),[]):=by
 match a,b,ha,hb with
 | .node f v ks,.node f' v' ks',ha,hb=>
  simp only[T.inner]at ha hb;exact qrT f v ks f' v' ks' (by omega) (by omega) (fun s s' hs hs'=>qgN s s' (by have:=T.qaG hs;omega) (by have:=T.qaG hs';omega))
termination_by a
decreasing_by
 simp_wf
 have:=List.sizeOf_lt_of_mem hs;omega
theorem same_eq(a b:T)(ha:a.inner<=1099511627776)(hb:b.inner<=1099511627776):qaf XV 4 [.d (a.enc .sub),.d (b.enc .sub)] []=some (.d (.bool (T.cmp a b==0)),[]):=by
 rw[qap XV _ _ _ v4 rfl qH6 rfl];have h:=qgl a b ha hb;simp[v4,qS2,qS1,h]
end Go.Proofs.Ytfiakfiocdfpbaa.VS
namespace Go.Proofs.Ytfiakfiocdfpbaa.VS
theorem qg7(k i:Nat):runN (fun(_:Unit) (_:Nat)=>(Sum.inl ():Unit⊕Unit)) k () i= .inl ():=by
 induction k generalizing i with
 |zero=>rfl
 |succ k ih=>simp[runN,ih]
def qtv(w:Nat->Nat):Nat->Nat->Nat
 |_,0=>0
 |i,k+1=>w i+qtv w (i+1) k
@[simp] theorem qN0(cs:List DV):isAgg (.agg cs)=true:=rfl
@[simp] theorem qNZ(k:IntKind)(n:Int):isAgg (.int k n)=false:=rfl
@[simp] theorem qSN(s:SymL):s.enc.cn=s.enc:=by simp[SymL.enc,SymL.cells]
@[simp] theorem qNY(s:SymL):isAgg s.enc=true:=rfl
@[simp] theorem qPK(s:SymL):s.enc.clr=s.enc:=by simp[SymL.enc,SymL.cells]
@[simp] theorem qK7(s:SymL):s.enc.cells=[.str s.name,.int .i64 s.arity,.bool s.ac]:=rfl
@[simp] theorem qKr(s:SymL):(AV.d s.enc).cells=[.d (.str s.name),.d (.int .i64 s.arity),.d (.bool s.ac)]:=rfl
@[simp] theorem qJQ(s:SymL):s.enc.isCell=false:=rfl
@[simp] theorem qPQ(n:ByteArray)(a:Int)(b:Bool):DV.agg [.str n,.int .i64 a,.bool b]=SymL.enc ⟨n,a,b⟩:=rfl
@[simp high] theorem qeP(l:List SymL):(l.map SymL.enc).map DV.clr=l.map SymL.enc:=by simp[List.map_map,Function.comp_def]
def qaw(l:List SymL)(i:Nat):SymL:=(l[i]?).getD ⟨⟨#[]⟩,0,false⟩
theorem qax{l:List SymL}{i:Nat}(h:i<l.length):l[i]=qaw l i:=by simp[qaw,h]
theorem qpb{l:List SymL}{i:Nat}(h:i<l.length):qaw l i∈l:=by rw[<-qax h];exact List.getElem_mem h
abbrev sg(l:List SymL):DV:= .sl .sub (l.map SymL.enc)
theorem qmF(a:ByteArray):qfv a a=true:=by simp[qfv]
@[simp] theorem qOt(a b:ByteArray):qbG .eql (.str a) (.str b)=some (.bool (qfv a b)):=rfl
@[simp] theorem qOs(a b:ByteArray):qbG .neq (.str a) (.str b)=some (.bool !(qfv a b)):=rfl
def inB(x lo hi:Int):Bool:=decide (lo<=x)&&decide (x<=hi)
theorem qis(x lo hi:Int):qaf XV 30 [.d (.int .i64 x),.d (.int .i64 lo),.d (.int .i64 hi)] []=some (.d (.bool (inB x lo hi)),[]):=by
 rw[qap XV _ _ _ v30 rfl qDN rfl];unfold inB
 by_cases h:lo<=x
 ·have h':x>=lo:=h
  simp[v30,qJh,qJg,h]
 ·have h':¬x>=lo:=h
  simp[v30,qJh,qJg,h]
theorem qfN(x lo hi:Int):qaf XV 31 [.d (.int .i64 x),.d (.int .i64 lo),.d (.int .i64 hi)] []=some (.d (.bool (inB x lo hi)),[]):=by
 rw[qap XV _ _ _ v31 rfl qDM rfl];unfold inB
 by_cases h:lo<=x
 ·simp[v31,qJf,qJe,h]
 ·simp[v31,qJf,qJe,h]
def qdq(l:List SymL)(f:Int):Bool:=inB f 0 (l.length-1)
theorem qcZ{l:List SymL}{f:Int}(h:qdq l f=true):0<=f/\f.toNat<l.length:=by
 simp[qdq,inB]at h;omega
theorem qor(l:List SymL)(hl:l.length<=1099511627776)(f:Int):qaf XV 29 [.d (sg l),.d (.int .i64 f)] []=some (.d (.bool (qdq l f)),[]):=by
 rw[qap XV _ _ _ v29 rfl qDO rfl];have hw:IntKind.i64.wrap ((l.length:Int)-1)=l.length-1:=wrap_i64 (by omega) (by omega);have h:=qis f 0 (l.length-1);simp[v29,qMy,qMx,hw,h,qdq]
def qbE(l:List SymL)(f:Int):Bool:=qdq l f&&(qaw l f.toNat).ac
theorem qjl(l:List SymL)(hl:l.length<=1099511627776)(f:Int):qaf XV 34 [.d (sg l),.d (.int .i64 f)] []=some (.d (.bool (qbE l f)),[]):=by
 rw[qap XV _ _ _ v34 rfl qDK rfl];have h:=qor l hl f;unfold qbE;cases hs:qdq l f with
 |false=>
  rw[hs]at h;simp[v34,qJb,qJa,h]
 |true=>
  rw[hs]at h;obtain⟨h1,h2⟩:=qcZ hs;simp[v34,qJb,qJa,h,h1,h2,qax h2,cut]
theorem qpm(l:List SymL)(hl:l.length<=1099511627776)(f:Int):qaf XV 33 [.d (sg l),.d (.int .i64 f)] []=some (.d (.bool (qbE l f)),[]):=by
 rw[qap XV _ _ _ v33 rfl qDL rfl];have hw:IntKind.i64.wrap ((l.length:Int)-1)=l.length-1:=wrap_i64 (by omega) (by omega);have h:=qfN f 0 (l.length-1);unfold qbE qdq;cases hs:inB f 0 (l.length-1)with
 |false=>
  rw[hs]at h;simp[v33,qJd,qJc,h,hw]
 |true=>
  rw[hs]at h;obtain⟨h1,h2⟩:=qcZ (l:=l) (f:=f) hs;simp[v33,qJd,qJc,h,hw,h1,h2,qax h2,cut]
end Go.Proofs.Ytfiakfiocdfpbaa.VS
namespace Go.Proofs.Ytfiakfiocdfpbaa.VS
def qve(x:Int):Int:=IntKind.i64.wrap ((BitVec.ofInt 64 x&&&BitVec.ofInt 64 255).toNat:Int)
def qTL(x y:Int):Int:=IntKind.i64.wrap ((BitVec.ofInt 64 x^^^BitVec.ofInt 64 y).toNat:Int)
theorem qjp(x:Int):qdw .and .i64 x 255=some (.int .i64 (qve x)):=rfl
theorem qqQ(x y:Int):qdw .xor .i64 x y=some (.int .i64 (qTL x y)):=rfl
theorem qlP(x:Int):qdw .shr .i64 x 33=some (.int .i64 (x.fdiv 8589934592)):=rfl
theorem qlO(x:Int):qdw .shr .i64 x 45=some (.int .i64 (x.fdiv 35184372088832)):=rfl
theorem qrk(x:Int):0<=qve x/\qve x<=255:=by
 have h:(BitVec.ofInt 64 x&&&BitVec.ofInt 64 255).toNat<=255:=by
  rw[BitVec.toNat_and];exact Nat.le_trans Nat.and_le_right (by decide)
 unfold qve;generalize (BitVec.ofInt 64 x&&&BitVec.ofInt 64 255).toNat=n at*
 rw[wrap_i64 (by omega) (by omega)];omega
def qbb(bs:List Int)(pos st:Int):List AV:=[.d (.sl .sub (bs.map (.int .u8))),.d (.int .i64 pos),.d (.int .i64 st)]
theorem qu6{B:qan}{i:Nat}{c:List AV}(h:i<B.length):qa6 (B.set i (some c)) i=some c:=by simp[qa6,h]
theorem qtc{B:qan}{i:Nat}{c:List AV}(h:qa6 B i=some c):i<B.length:=by
 rcases Nat.lt_or_ge i B.length with h1|h1
 ·exact h1
 ·simp[qa6,List.getElem?_eq_none h1]at h
theorem qda{B:qan}{i:Nat}{c:List AV}(h:qa6 B i=some c):B[i]?=some (some c):=by
 unfold qa6 at h;split at h
 ·rename_i c' hc;rw[hc];simpa using h
 ·simp at h
theorem qA8(bs:List Int)(hl:bs.length<=1099511627776)(B:qan)(i:Nat)(pos st:Int)(hB:qa6 B i=some (qbb bs pos st))(hp:0<=pos/\pos<=bs.length):
 ∃b pos' st':Int,(0<=b/\b<=255)/\(0<=pos'/\pos'<=bs.length)/\qaf XV 165 [.ptr i 0] B=some (.d (.int .i64 b),B.set i (some (qbb bs pos' st'))):=by
 have hi:=qtc hB;have hnl:¬B.length<=i:=by omega
 have htake:∀c:Option (List AV),List.take B.length (B.set i c)=B.set i c:=fun c=>List.take_of_length_le (by simp)
 have hset:∀c:Option (List AV),(B.set i c)[i]?=some c:=fun c=>by simp[hi]
 rw[qap XV _ _ _ qIp rfl qx8 rfl];have hB:=qda hB;unfold qbb at hB⊢
 by_cases c:pos<bs.length
 ·have hw:IntKind.i64.wrap (pos+1)=pos+1:=wrap_i64 (by omega) (by omega)
  have hlt:pos.toNat<bs.length:=by omega
  refine⟨_,_,_,?_,?_,by simp[qIp,qAr,qAq,qHC,qHB,qHA,qAm,qAl,qae,hB,hset,splice,qjp,qqQ,qlP,qlO,qcI,hnl,c,hp,hlt,hw,cut,qaa,qab,qac,qai,qbx,htake];exact⟨rfl,rfl⟩⟩
  ·exact qrk _
  ·exact⟨by omega,by omega⟩
 ·refine⟨_,_,_,?_,?_,by simp[qIp,qAr,qAq,qHC,qHB,qHA,qAm,qAl,qae,hB,hset,splice,qjp,qqQ,qlP,qlO,qcI,hnl,c,cut,qaa,qab,qac,qai,qbx,htake];exact⟨rfl,rfl⟩⟩
  ·exact qrk _
  ·exact hp
def qch(bs:List Int)(i:Nat)(B B':qan):Prop:=∃pos st:Int,(0<=pos/\pos<=bs.length)/\B'=B.set i (some (qbb bs pos st))
def qcB(bs:List Int)(i:Nat)(B:qan):Prop:=∃pos st:Int,(0<=pos/\pos<=bs.length)/\qa6 B i=some (qbb bs pos st)
theorem qch.at{bs:List Int}{i:Nat}{B B':qan}(hi:i<B.length)(h:qch bs i B B'):qcB bs i B':=by
 obtain⟨pos,st,hp,rfl⟩:=h;exact⟨pos,st,hp,qu6 hi⟩
theorem qch.len{bs:List Int}{i:Nat}{B B':qan}(h:qch bs i B B'):B'.length=B.length:=by
 obtain⟨pos,st,hp,rfl⟩:=h;simp
theorem qch.trans{bs:List Int}{i:Nat}{B B' B'':qan}(h:qch bs i B B')(h':qch bs i B' B''):qch bs i B B'':=by
 obtain⟨pos,st,hp,rfl⟩:=h;obtain⟨pos',st',hp',rfl⟩:=h';exact⟨pos',st',hp',by simp⟩
theorem qcB.lt{bs:List Int}{i:Nat}{B:qan}(h:qcB bs i B):i<B.length:=by
 obtain⟨_,_,_,h⟩:=h;exact qtc h
theorem qA9(bs:List Int)(hl:bs.length<=1099511627776)(B:qan)(i:Nat)(h:qcB bs i B):∃(b:Int) (B':qan),(0<=b/\b<=255)/\qch bs i B B'/\qaf XV 165 [.ptr i 0] B=some (.d (.int .i64 b),B'):=by
 obtain⟨pos,st,hp,hB⟩:=h;obtain⟨b,pos',st',h1,h2,h3⟩:=qA8 bs hl B i pos st hB hp;exact⟨b,_,h1,⟨pos',st',h2,rfl⟩,h3⟩
theorem qwM(x n:Int)(h:n≠0):qdw .rem .i64 x n=some (.int .i64 (x.tmod n)):=by simp[qdw,h]
theorem qcv(bs:List Int)(hl:bs.length<=1099511627776)(B:qan)(i:Nat)(h:qcB bs i B)(n:Int)(hn:0<n)(hn2:n<=256):∃(r:Int) (B':qan),(0<=r/\r<n)/\qch bs i B B'/\qaf XV 159 [.ptr i 0,.d (.int .i64 n)] B=some (.d (.int .i64 r),B'):=by
 obtain⟨b,B',hb,hT,hc⟩:=qA9 bs hl B i h;have hi:=h.lt;have hlen:=hT.len;have hm:b.tmod n=b%n:=Int.tmod_eq_emod_of_nonneg hb.1;have hr:=qwM b n (by omega);have htake:List.take B.length B'=B':=List.take_of_length_le (by omega);refine⟨b%n,B',⟨Int.emod_nonneg _ (by omega),Int.emod_lt_of_pos _ hn⟩,hT,?_⟩;rw[qap XV _ _ _ qKL rfl qye rfl];have c1:¬n<=0:=by omega
 simp[qKL,qGJ,qGI,qGH,qGG,qGF,qGE,qGD,qGC,qGB,qGA,c1,hn2,hc,hr,hm,htake,hi]
theorem qdt(bs:List Int)(hl:bs.length<=1099511627776)(B:qan)(i:Nat)(h:qcB bs i B)(l:List Int)(h0:0<l.length)(h1:l.length<=256):∃(j:Nat) (hj:j<l.length) (B':qan),qch bs i B B'/\qaf XV 160 [.ptr i 0,.d (.sl .sub (l.map (.int .i64)))] B=some (.d (.int .i64 l[j]),B'):=by
 obtain⟨r,B',hr,hT,hc⟩:=qcv bs hl B i h l.length (by omega) (by omega);have hi:=h.lt;have hlen:=hT.len;have htake:List.take B.length B'=B':=List.take_of_length_le (by omega);refine⟨r.toNat,by omega,B',hT,?_⟩;rw[qap XV _ _ _ qKK rfl qyd rfl];have hlt:r.toNat<l.length:=by omega
 simp[qKK,qGz,qGy,hc,hr,hlt,htake,hi,cut]
def qPP(x:Int):Int:=IntKind.i64.wrap ((BitVec.ofInt 64 x&&&BitVec.ofInt 64 1073741823).toNat:Int)
theorem qwN(x:Int):qdw .and .i64 x 1073741823=some (.int .i64 (qPP x)):=rfl
def qGb(bs:List Int)(s:Int)(i:Nat):Int⊕Unit:= .inl (qPP (IntKind.i64.wrap (IntKind.i64.wrap (IntKind.i64.wrap (s*131)+IntKind.i64.wrap ((bs[i]?).getD 0))+7)))
theorem qtx{β:Type}(f:β->Nat->β):∀(k:Nat) (a:β) (i:Nat),∃b,runN (fun a i=>(.inl (f a i):β⊕Unit)) k a i= .inl b
 |0,a,i=>⟨a,rfl⟩
 |k+1,a,i=>by simp only[runN];exact qtx f k _ _
theorem qhq(bs:List Int)(hl:bs.length<=1099511627776)(B:qan):∃st:Int,qaf XV 156 [.d (.sl .sub (bs.map (.int .u8)))] B=some (.ptr B.length 0,B++[some (qbb bs 0 st)]):=by
 have hn:min bs.length 4000<=bs.length:=Nat.min_le_left _ _;have h:=qat (X:=XV) (T:=XV.lin 156) (L:=B.length) (live:=[0,3,4]) (b:=qrg) (n:=min bs.length 4000) (γ:=Unit) (st:=fun(s:Int) i=>⟨[(0,.d (.sl .sub (bs.map (.int .u8)))),(3,.d (.int .i64 s)),(4,.d (.int .i64 i))],B⟩) (step:=qGb bs)
  (F:=fun s=>(.exit 0,⟨[(0,.d (.sl .sub (bs.map (.int .u8)))),(3,.d (.int .i64 s)),(4,.d (.int .i64 (min bs.length 4000:Nat))),(15,.d (.bool false))],B⟩)) (R:=fun _=>(.ret,⟨[],B⟩))
  (fun s=>⟨by simp,by
   by_cases c:bs.length<=4000
   ·rw[Nat.min_eq_left c];simp[qrg,qpY,qpX,qpW,qt2,qt0,qt1,qpV]
   ·have c1:(4000:Int)<bs.length:=by omega
    rw[Nat.min_eq_right (by omega)];simp[qrg,qpY,qpX,qpW,qt2,qt0,qt1,qpV,c1,show¬bs.length<=4000 from c]⟩)
  (fun s i hi=>by
   have hw:=qao (n:=i) (by omega);have h1:i<bs.length:=by omega
   have h2:(i:Int)<4000:=by omega
   refine⟨_,by simp[qrg,qpY,qpX,qpW,qt2,qt0,qt1,qpV,h1,h2,hw,cut,qwN];rfl,by simp[qag,qad,h1]⟩)
  (min bs.length 4000) (IntKind.i64.wrap (27064+bs.length)) 0 ⟨[(0,.d (.sl .sub (bs.map (.int .u8)))),(3,.d (.int .i64 (IntKind.i64.wrap (27064+bs.length)))),(4,.d (.int .i64 0))],B⟩ (by omega) (by simp[qag,qad])
 obtain⟨st,hst⟩:=qtx (fun(s:Int) (i:Nat)=>qPP (IntKind.i64.wrap (IntKind.i64.wrap (IntKind.i64.wrap (s*131)+IntKind.i64.wrap ((bs[i]?).getD 0))+7))) (min bs.length 4000) (IntKind.i64.wrap (27064+bs.length)) 0;rw[show qGb bs=fun s i=>(.inl (qPP (IntKind.i64.wrap (IntKind.i64.wrap (IntKind.i64.wrap (s*131)+IntKind.i64.wrap ((bs[i]?).getD 0))+7))):Int⊕Unit)from rfl,hst]at h;refine⟨st,?_⟩;rw[qap XV _ _ _ qKN rfl qyh rfl];simp[qKN,qpY,qpX,qpW];simp only[qJC]at h;rw[h];simp[qpV,qbb,qaa,qab,qac,qai,splice,qae]
end Go.Proofs.Ytfiakfiocdfpbaa.VS
namespace Go.Proofs.Ytfiakfiocdfpbaa.VS
mutual
def T.fold{σ:Type}(e:T->σ->σ):T->σ->σ
 | .node f v ks,s=>T.folds e ks (e (.node f v ks) s)
def T.folds{σ:Type}(e:T->σ->σ):List T->σ->σ
 | [],s=>s
 |t::r,s=>T.folds e r (T.fold e t s)
end
theorem qGd{α:Type}(B:List α)(x v:α)(r:List α):(B++x::r).set B.length v=B++v::r:=by simp
theorem get_at{α:Type}(B:List α)(x:α)(r:List α):(B++x::r)[B.length]?=some x:=by simp
theorem qID{α:Type}(B:List α)(x y v:α)(r:List α):(B++x::y::r).set (B.length+1) v=B++x::v::r:=by
 rw[List.set_append_right _ _ (by omega),show B.length+1-B.length=1 by omega];rfl
theorem qJT{α:Type}(B:List α)(x y:α)(r:List α):(B++x::y::r)[B.length+1]?=some y:=by
 rw[List.getElem?_append_right (by omega),show B.length+1-B.length=1 by omega];rfl
theorem take_at{α:Type}(B r:List α):(B++r).take B.length=B:=by simp
theorem qbX{L:Nat}{live:List Nat}{s:XS}{r':List (Nat×AV)}{B e:qan}(h:keep s.r live=r')(hs:qad L r'=true)(hl:B.length=L)(he:s.B=B++e):qag L live s=some ⟨r',B⟩:=by
 unfold qag;rw[h,he,if_pos ⟨hs,by simp;omega⟩,<-hl,take_at]
def qEd{σ:Type}(e:T->σ->σ)(l:List T)(s:σ)(i:Nat):σ⊕Unit:= .inl (T.fold e (tAt l i) s)
theorem qS0{σ:Type}(e:T->σ->σ)(l:List T):∀(k i:Nat) (s:σ),i+k=l.length->runN (qEd e l) k s i= .inl (T.folds e (l.drop i) s)
 |0,i,s,h=>by
  have h1:l.drop i=[]:=List.drop_eq_nil_of_le (by omega);simp[runN,h1,T.folds]
 |k+1,i,s,h=>by
  have hlt:i<l.length:=by omega
  rw[List.drop_eq_getElem_cons hlt,qaF hlt];simp only[runN,qEd,T.folds];exact qS0 e l k (i+1) _ (by omega)
theorem qJ6{σ:Type}(st:σ->qan)(e:T->σ->σ)(k:Nat)(caps:List AV)(m:Nat)(hm:∀s,(st s).length=m)(hcs:∀n,m<=n->AV.safe.safes n caps=true)(hcc:caps.map AV.clr=caps)(hk:¬0∈XV.lin k)
 (f v:Int) (ks:List T) (hl:ks.length<=1099511627776)
 (hf:∀(x:T) (s:σ) (r:qan),qaf XV k (.d (x.enc .sub)::caps) (st s++r)=some (.d (.tup []),st (e x s)++r))
 (hrec:∀x,x∈ks->∀(s:σ) (r:qan),qaf XV 25 [.d (x.enc .sub),.fn k caps] (st s++r)=some (.d (.tup []),st (T.fold e x s)++r)) (s:σ) (r:qan):
 qaf XV 25 [.d ((T.node f v ks).enc .sub),.fn k caps] (st s++r)=some (.d (.tup []),st (T.fold e (.node f v ks) s)++r):=by
 rw[qap XV _ _ _ v25 rfl qDP rfl];have hf1:=hf (.node f v ks) s (r++[some [.d (.int .i64 f),.d (.int .i64 v),.d (qaj .sub ks)]]);have len:∀s,(st s++r).length=m+r.length:=fun s=>by simp[hm]
 have hloop:=qat (X:=XV) (T:=XV.lin 25) (L:=m+r.length+1) (live:=[1,10,11,12]) (b:=qFR) (n:=ks.length) (γ:=Unit) (st:=fun(s:σ) i=>⟨[(1,.fn k caps),(10,.d (qaj .sub ks)),(11,.d (.int .i64 ks.length)),(12,.d (.int .i64 i))],(st s++r)++[some [.d (.int .i64 f),.d (.int .i64 v),.d (qaj .sub ks)]]⟩) (step:=qEd e ks)
  (F:=fun s=>(.exit 0,⟨[(1,.fn k caps),(10,.d (qaj .sub ks)),(11,.d (.int .i64 ks.length)),(12,.d (.int .i64 ks.length)),(13,.d (.bool false))],(st s++r)++[some [.d (.int .i64 f),.d (.int .i64 v),.d (qaj .sub ks)]]⟩)) (R:=fun _=>(.ret,⟨[],[]⟩))
  (fun s=>⟨by simp,by simp[qFR,qJi,hcc]⟩)
  (fun s i hi=>by
   have hw:=qao (n:=i) (by omega);have hr:=hrec _ (qaH hi) s (r++[some [.d (.int .i64 f),.d (.int .i64 v),.d (qaj .sub ks)],some [.d (.int .i64 (tAt ks i).f),.d (.int .i64 (tAt ks i).v),.d (qaj .sub (tAt ks i).kids)]]);have hln:=len s;have hln2:=len (T.fold e (tAt ks i) s);simp only[<-List.append_assoc]at hr;generalize hB:st s++r=B at hr hln;generalize hB':st (T.fold e (tAt ks i) s)++r=B' at hr hln2;unfold qEd;refine⟨⟨[(1,.fn k caps),(10,.d (qaj .sub ks)),(11,.d (.int .i64 ks.length)),(12,.d (.int .i64 (i+1:Nat)))],B'++[some [.d (.int .i64 f),.d (.int .i64 v),.d (qaj .sub ks)],some [.d (.int .i64 (tAt ks i).f),.d (.int .i64 (tAt ks i).v),.d (qaj .sub (tAt ks i).kids)]]⟩,?_,?_⟩
   ·simp[qFR,qJi,qMB,qMA,qMz,hi,hw,cut,qaF hi,hcc,hr,qGd,get_at,qID,qJT,splice]
   ·refine qbX (e:=[some [.d (.int .i64 (tAt ks i).f),.d (.int .i64 (tAt ks i).v),.d (qaj .sub (tAt ks i).kids)]]) (by simp) (by simp[qad,hcs _ (show m<=m+r.length+1 by omega)]) (by simp[hln2,hB']) (by simp[<-hB']))
  ks.length (e (.node f v ks) s) 0 ⟨[(1,.fn k caps),(10,.d (qaj .sub ks)),(11,.d (.int .i64 ks.length)),(12,.d (.int .i64 0))],(st (e (.node f v ks) s)++r)++[some [.d (.int .i64 f),.d (.int .i64 v),.d (qaj .sub ks)]]⟩ (by omega) (qbX (e:=[]) (by simp) (by simp[qad,hcs _ (show m<=m+r.length+1 by omega)]) (by simp[hm];omega) (by simp))
 rw[qS0 e ks _ _ _ (by omega)]at hloop;simp only[List.drop_zero]at hloop;have hl0:=len s;have hl1:=len (e (.node f v ks) s);have hl2:(st (T.fold e (.node f v ks) s)++r).length=m+r.length:=len _;have hfin:T.folds e ks (e (.node f v ks) s)=T.fold e (.node f v ks) s:=by simp[T.fold]
 rw[hfin]at hloop;simp only[<-List.append_assoc]at hf1;generalize hB0:st s++r=B0 at hf1 hl0;generalize hB1:st (e (.node f v ks) s)++r=B1 at hf1 hl1 hloop;generalize hB2:st (T.fold e (.node f v ks) s)++r=B2 at hl2 hloop;have hlen:B1.length=B0.length:=by omega
 rw[<-hl1]at hloop;simp only[qaj,qNT]at hf1 hloop;simp[v25,qME,qMD,qMC,qGd,get_at,hf1,hcc,hk,hlen.symm];rw[hloop];simp[show B1.length=B2.length by omega]
theorem qsV{σ:Type}(st:σ->qan)(e:T->σ->σ)(k:Nat)(caps:List AV)(m:Nat)(hm:∀s,(st s).length=m)(hcs:∀n,m<=n->AV.safe.safes n caps=true)(hcc:caps.map AV.clr=caps)(hk:¬0∈XV.lin k)
 (hf:∀(x:T) (s:σ) (r:qan),qaf XV k (.d (x.enc .sub)::caps) (st s++r)=some (.d (.tup []),st (e x s)++r)) (t:T) (ht:t.inner<=1099511627776) (s:σ) (r:qan):
 qaf XV 25 [.d (t.enc .sub),.fn k caps] (st s++r)=some (.d (.tup []),st (T.fold e t s)++r):=by
 match t,ht with
 | .node f v ks,ht=>
  simp only[T.inner]at ht;exact qJ6 st e k caps m hm hcs hcc hk f v ks (by omega) hf (fun x hx s r=>qsV st e k caps m hm hcs hcc hk hf x (by have:=T.qaG hx;omega) s r) s r
termination_by t
decreasing_by
 simp_wf
 have:=List.sizeOf_lt_of_mem hx;omega
end Go.Proofs.Ytfiakfiocdfpbaa.VS
namespace Go.Proofs.Ytfiakfiocdfpbaa.VS
theorem wrap_add(a b:Int):IntKind.i64.wrap (IntKind.i64.wrap a+b)=IntKind.i64.wrap (a+b):=by
 show(if(true&&decide (((if(true&&decide (a%18446744073709551616>=9223372036854775808))=true then a%18446744073709551616-18446744073709551616 else a%18446744073709551616)+b)%18446744073709551616>=9223372036854775808))=true then((if(true&&decide (a%18446744073709551616>=9223372036854775808))=true then a%18446744073709551616-18446744073709551616 else a%18446744073709551616)+b)%18446744073709551616-18446744073709551616 else((if(true&&decide (a%18446744073709551616>=9223372036854775808))=true then a%18446744073709551616-18446744073709551616 else a%18446744073709551616)+b)%18446744073709551616)=(if(true&&decide ((a+b)%18446744073709551616>=9223372036854775808))=true then(a+b)%18446744073709551616-18446744073709551616 else(a+b)%18446744073709551616);simp only[Bool.true_and,decide_eq_true_eq];have:((if a%18446744073709551616>=9223372036854775808 then a%18446744073709551616-18446744073709551616 else a%18446744073709551616)+b)%18446744073709551616=(a+b)%18446744073709551616:=by
  split<;>omega
 rw[this]
theorem qyO(a b:Int):IntKind.i64.wrap (a+IntKind.i64.wrap b)=IntKind.i64.wrap (a+b):=by
 rw[Int.add_comm,wrap_add,Int.add_comm]
mutual
def T.sum(w:T->Int):T->Int
 | .node f v ks=>w (.node f v ks)+T.sums w ks
def T.sums(w:T->Int):List T->Int
 | []=>0
 |t::r=>T.sum w t+T.sums w r
end
def qK9(w:T->Int)(x:T)(n:Int):Int:=IntKind.i64.wrap (n+w x)
mutual
theorem quO(w:T->Int):∀(t:T) (n:Int),T.fold (qK9 w) t (IntKind.i64.wrap n)=IntKind.i64.wrap (n+T.sum w t)
 | .node f v ks,n=>by
  simp only[T.fold,T.sum,qK9];rw[wrap_add,qqE w ks,Int.add_assoc]
theorem qqE(w:T->Int):∀(l:List T) (n:Int),T.folds (qK9 w) l (IntKind.i64.wrap n)=IntKind.i64.wrap (n+T.sums w l)
 | [],n=>by simp[T.folds,T.sums]
 |t::r,n=>by
  simp only[T.folds,T.sums];rw[quO w t,qqE w r,Int.add_assoc]
end
def qEe(c:T->Int)(l:List T)(n:Int)(i:Nat):Int⊕Unit:= .inl (IntKind.i64.wrap (n+c (tAt l i)))
theorem qQr(w:T->Int)(l:List T):∀(k i:Nat) (n:Int),i+k=l.length->runN (qEe (fun t=>IntKind.i64.wrap (T.sum w t)) l) k (IntKind.i64.wrap n) i= .inl (IntKind.i64.wrap (n+T.sums w (l.drop i)))
 |0,i,n,h=>by
  have h1:l.drop i=[]:=List.drop_eq_nil_of_le (by omega);simp[runN,h1,T.sums]
 |k+1,i,n,h=>by
  have hlt:i<l.length:=by omega
  rw[List.drop_eq_getElem_cons hlt,qaF hlt];simp only[runN,qEe,T.sums];rw[qyO,wrap_add,qQr w l k (i+1) _ (by omega),Int.add_assoc]
theorem qqz(t:T)(ht:t.inner<=1099511627776):qaf XV 23 [.d (t.enc .sub)] []=some (.d (.int .i64 (IntKind.i64.wrap (T.sum (fun _=>1) t))),[]):=by
 rw[qap XV _ _ _ v23 rfl qDR rfl];have key:∀(n:Int),qaf XV 25 [.d (t.enc .sub),.fn 24 [.ptr 1 0]] ([some [.d (.int .i64 t.f),.d (.int .i64 t.v),.d (qaj .sub t.kids)],some [.d (.int .i64 n)]]++[])=some (.d (.tup []),[some [.d (.int .i64 t.f),.d (.int .i64 t.v),.d (qaj .sub t.kids)],some [.d (.int .i64 (T.fold (qK9 fun _=>1) t n))]]++[]):=fun n=>
  qsV (fun n:Int=>[some [.d (.int .i64 t.f),.d (.int .i64 t.v),.d (qaj .sub t.kids)],some [.d (.int .i64 n)]]) (qK9 fun _=>1) 24 [.ptr 1 0] 2 (fun _=>rfl) (fun n hn=>by simp;omega) rfl (by simp) (fun x s r=>by
   rw[qap XV _ _ _ v24 rfl qDQ rfl];simp[v24,qMG,qMF,splice,qK9]) t ht n []
 have k0:=key 0;have h0:=quO (fun _=>1) t 0;rw[show IntKind.i64.wrap 0=0 from rfl,Int.zero_add]at h0;rw[h0]at k0;simp only[List.append_nil,qaj]at k0;simp[v23,qMK,qMJ,qMI,qMH,splice,k0]
theorem qpk(f v:Int)(ks:List T)(hl:ks.length<=1099511627776)(hrec:∀s,s∈ks->qaf XV 22 [.d (s.enc .sub)] []=some (.d (.int .i64 (IntKind.i64.wrap (T.sum (fun _=>1) s))),[])):
 qaf XV 22 [.d ((T.node f v ks).enc .sub)] []=some (.d (.int .i64 (IntKind.i64.wrap (T.sum (fun _=>1) (.node f v ks)))),[]):=by
 rw[qap XV _ _ _ v22 rfl qDS rfl];have h:=qat (X:=XV) (T:=[]) (L:=1) (live:=[1,3,4]) (b:=qFS) (n:=ks.length) (γ:=Unit) (st:=fun(n:Int) i=>⟨[(1,.ptr 0 0),(3,.d (.int .i64 n)),(4,.d (.int .i64 i))],[some [.d (.int .i64 f),.d (.int .i64 v),.d (qaj .sub ks)]]⟩) (step:=qEe (fun t=>IntKind.i64.wrap (T.sum (fun _=>1) t)) ks)
  (F:=fun n=>(.exit 0,⟨[(1,.ptr 0 0),(3,.d (.int .i64 n)),(4,.d (.int .i64 ks.length)),(9,.d (.bool false))],[some [.d (.int .i64 f),.d (.int .i64 v),.d (qaj .sub ks)]]⟩)) (R:=fun r=>(.ret,⟨[],[]⟩))
  (fun _=>⟨by simp,by simp[qFS,qJj]⟩)
  (fun n i hi=>by
   have hw:=qao (n:=i) (by omega);have hc:=hrec _ (qaH hi);exact⟨_,by simp[qFS,qJj,qMN,qMM,hi,hw,cut,qaF hi,hc];rfl,by simp[qag,qad]⟩)
  ks.length (IntKind.i64.wrap 1) 0 ⟨[(1,.ptr 0 0),(3,.d (.int .i64 1)),(4,.d (.int .i64 0))],[some [.d (.int .i64 f),.d (.int .i64 v),.d (qaj .sub ks)]]⟩ (by omega) (by simp[qag,qad,show IntKind.i64.wrap 1=1 from rfl])
 rw[qQr _ _ _ _ _ (by omega)]at h;simp only[List.drop_zero,qaj]at h;have hs:T.sum (fun _=>1) (T.node f v ks)=1+T.sums (fun _=>1) ks:=by simp[T.sum]
 simp[v22,qMQ,qMP,qMO,hs];rw[h];simp[qML]
theorem qiM(t:T)(ht:t.inner<=1099511627776):qaf XV 22 [.d (t.enc .sub)] []=some (.d (.int .i64 (IntKind.i64.wrap (T.sum (fun _=>1) t))),[]):=by
 match t,ht with
 | .node f v ks,ht=>
  simp only[T.inner]at ht;exact qpk f v ks (by omega) (fun s hs=>qiM s (by have:=T.qaG hs;omega))
termination_by t
decreasing_by
 simp_wf
 have:=List.sizeOf_lt_of_mem hs;omega
end Go.Proofs.Ytfiakfiocdfpbaa.VS
namespace Go.Proofs.Ytfiakfiocdfpbaa.VS
mutual
theorem quP(w:T->Int)(e:T->Int->Int)(he:∀x m,e x (IntKind.i64.wrap m)=IntKind.i64.wrap (m+w x)):∀(t:T) (n:Int),T.fold e t (IntKind.i64.wrap n)=IntKind.i64.wrap (n+T.sum w t)
 | .node f v ks,n=>by
  simp only[T.fold,T.sum];rw[he,qqF w e he ks,Int.add_assoc]
theorem qqF(w:T->Int)(e:T->Int->Int)(he:∀x m,e x (IntKind.i64.wrap m)=IntKind.i64.wrap (m+w x)):∀(l:List T) (n:Int),T.folds e l (IntKind.i64.wrap n)=IntKind.i64.wrap (n+T.sums w l)
 | [],n=>by simp[T.folds,T.sums]
 |t::r,n=>by
  simp only[T.folds,T.sums];rw[quP w e he t,qqF w e he r,Int.add_assoc]
end
theorem qj3(t:T):qaf XV 75 [.d (t.enc .sub)] []=some (.d (.bool (t.f== -1)),[]):=by
 rw[qap XV _ _ _ v75 rfl qDx rfl];simp[v75,qL4,qL3]
def wC(n:Int)(x:T):Int:=if x.f= -1/\x.v=n then 1 else 0
def eC(n:Int)(x:T)(m:Int):Int:=if x.f= -1/\x.v=n then IntKind.i64.wrap (m+1)else m
theorem qOz(n:Int)(x:T)(m:Int):eC n x (IntKind.i64.wrap m)=IntKind.i64.wrap (m+wC n x):=by
 unfold eC wC;split
 ·exact wrap_add m 1
 ·simp
theorem qqA(t:T)(ht:t.inner<=1099511627776)(n:Int):qaf XV 73 [.d (t.enc .sub),.d (.int .i64 n)] []=some (.d (.int .i64 (IntKind.i64.wrap (T.sum (wC n) t))),[]):=by
 rw[qap XV _ _ _ v73 rfl qDz rfl];have key:∀(m:Int),qaf XV 25 [.d (t.enc .sub),.fn 74 [.ptr 1 0,.ptr 2 0]] ([some [.d (.int .i64 t.f),.d (.int .i64 t.v),.d (qaj .sub t.kids)],some [.d (.int .i64 n)],some [.d (.int .i64 m)]]++[])=some (.d (.tup []),[some [.d (.int .i64 t.f),.d (.int .i64 t.v),.d (qaj .sub t.kids)],some [.d (.int .i64 n)],some [.d (.int .i64 (T.fold (eC n) t m))]]++[]):=fun m=>
  qsV (fun m:Int=>[some [.d (.int .i64 t.f),.d (.int .i64 t.v),.d (qaj .sub t.kids)],some [.d (.int .i64 n)],some [.d (.int .i64 m)]]) (eC n) 74 [.ptr 1 0,.ptr 2 0] 3 (fun _=>rfl) (fun n hn=>by simp;omega) rfl (by simp) (fun x m r=>by
   rw[qap XV _ _ _ v74 rfl qDy rfl];obtain⟨xf,xv,xk⟩:=x;have hv:=qj3 (.node xf xv xk);simp only[T.qcj]at hv;unfold eC;simp only[T.qcj,T.qcV]
   by_cases h1:xf= -1
   ·subst h1
    simp only[BEq.rfl]at hv
    by_cases h2:xv=n
    ·subst h2
     simp[v74,qEI,qEH,qEG,hv,splice]
    ·have b2:(xv==n)=false:=by simp[h2]
     simp[v74,qEI,qEH,qEG,hv,h2,b2,splice]
   ·have b1:(xf== -1)=false:=by simp[h1]
    rw[b1]at hv;simp[v74,qEI,qEH,qEG,hv,h1,splice]) t ht m []
 have k0:=key 0;have h0:=quP (wC n) (eC n) (qOz n) t 0;rw[show IntKind.i64.wrap 0=0 from rfl,Int.zero_add]at h0;rw[h0]at k0;simp only[List.append_nil,qaj]at k0;simp[v73,qL8,qL7,qL6,qL5,splice,k0]
theorem qHH(b:Bool):qaf XV 85 [.d (.bool b)] []=some (.d (.int .i64 (if b then 1 else 0)),[]):=by
 rw[qap XV _ _ _ v85 rfl qDn rfl];cases b<;>simp[v85,qLY,qLX,qLW,qLV]
theorem qpl(n f v:Int)(ks:List T)(hl:ks.length<=1099511627776)(hrec:∀s,s∈ks->qaf XV 81 [.d (s.enc .sub),.d (.int .i64 n)] []=some (.d (.int .i64 (IntKind.i64.wrap (T.sum (wC n) s))),[])):
 qaf XV 81 [.d ((T.node f v ks).enc .sub),.d (.int .i64 n)] []=some (.d (.int .i64 (IntKind.i64.wrap (T.sum (wC n) (.node f v ks)))),[]):=by
 rw[qap XV _ _ _ v81 rfl qDr rfl];have h:=fun m=>qat (X:=XV) (T:=[]) (L:=1) (live:=[1,2,5,6]) (b:=qFQ) (n:=ks.length) (γ:=Unit) (st:=fun(m:Int) i=>⟨[(1,.d (.int .i64 n)),(2,.ptr 0 0),(5,.d (.int .i64 m)),(6,.d (.int .i64 i))],[some [.d (.int .i64 f),.d (.int .i64 v),.d (qaj .sub ks)]]⟩) (step:=qEe (fun t=>IntKind.i64.wrap (T.sum (wC n) t)) ks)
  (F:=fun m=>(.exit 0,⟨[(1,.d (.int .i64 n)),(2,.ptr 0 0),(5,.d (.int .i64 m)),(6,.d (.int .i64 ks.length)),(21,.d (.bool false))],[some [.d (.int .i64 f),.d (.int .i64 v),.d (qaj .sub ks)]]⟩)) (R:=fun r=>(.ret,⟨[],[]⟩))
  (fun _=>⟨by simp,by simp[qFQ,qn3,qn2,qn1,qn0,qnY,qnZ,qnX]⟩)
  (fun m i hi=>by
   have hw:=qao (n:=i) (by omega);have hc:=hrec _ (qaH hi);exact⟨_,by simp[qFQ,qn3,qn2,qn1,qn0,qnY,qnZ,qnX,hi,hw,cut,qaF hi,hc];rfl,by simp[qag,qad]⟩)
  ks.length (IntKind.i64.wrap m) 0 ⟨[(1,.d (.int .i64 n)),(2,.ptr 0 0),(5,.d (.int .i64 (IntKind.i64.wrap m))),(6,.d (.int .i64 0))],[some [.d (.int .i64 f),.d (.int .i64 v),.d (qaj .sub ks)]]⟩ (by omega) (by simp[qag,qad])
 have h':=fun m=>by
  have:=h m;rw[qQr _ _ _ _ _ (by omega)]at this;simpa only[List.drop_zero,qaj]using this
 have hs:T.sum (wC n) (T.node f v ks)=wC n (.node f v ks)+T.sums (wC n) ks:=by simp[T.sum]
 have bt:=qHH true;have bf:=qHH false;simp only[if_true,Bool.false_eq_true,if_false]at bt bf;rw[hs];have h1:=h' 1;have h0:=h' 0;rw[show IntKind.i64.wrap 1=1 from rfl]at h1;rw[show IntKind.i64.wrap 0=0 from rfl]at h0
 by_cases c1:f= -1
 ·by_cases c2:v=n
  ·have hw:wC n (.node f v ks)=1:=by simp[wC,c1,c2]
   rw[hw];subst c1;subst c2
   simp[v81,qn3,qn2,qn1,qn0,qnY,qnZ,qnX,bt,bf];rw[h1];simp[v81,qn3,qn2,qn1,qn0,qnY,qnZ,qnX]
  ·have hw:wC n (.node f v ks)=0:=by simp[wC,c1,c2]
   have b2:(v==n)=false:=by simp[c2]
   rw[hw];subst c1;simp[v81,qn3,qn2,qn1,qn0,qnY,qnZ,qnX,bt,bf,b2];rw[h0];simp[v81,qn3,qn2,qn1,qn0,qnY,qnZ,qnX]
 ·have hw:wC n (.node f v ks)=0:=by simp[wC,c1]
  have b1:(f== -1)=false:=by simp[c1]
  rw[hw];simp[v81,qn3,qn2,qn1,qn0,qnY,qnZ,qnX,bt,bf,b1];rw[h0];simp[v81,qn3,qn2,qn1,qn0,qnY,qnZ,qnX]
theorem qiN(t:T)(ht:t.inner<=1099511627776)(n:Int):qaf XV 81 [.d (t.enc .sub),.d (.int .i64 n)] []=some (.d (.int .i64 (IntKind.i64.wrap (T.sum (wC n) t))),[]):=by
 match t,ht with
 | .node f v ks,ht=>
  simp only[T.inner]at ht;exact qpl n f v ks (by omega) (fun s hs=>qiN s (by have:=T.qaG hs;omega) n)
termination_by t
decreasing_by
 simp_wf
 have:=List.sizeOf_lt_of_mem hs;omega
end Go.Proofs.Ytfiakfiocdfpbaa.VS
namespace Go.Proofs.Ytfiakfiocdfpbaa.VS
abbrev is(l:List Int):DV:= .sl .sub (l.map (.int .i64))
@[simp high] theorem qOL(l:List Int):(l.map (DV.int .i64)).map DV.clr=l.map (DV.int .i64):=by simp[List.map_map,Function.comp_def]
end Go.Proofs.Ytfiakfiocdfpbaa.VS
namespace Go.Proofs.Ytfiakfiocdfpbaa.VS
def qiP(c:Int):Bool:=decide (97<=c)&&decide (c<=122)
def qqZ(c:Int):Bool:=decide (48<=c)&&decide (c<=57)
theorem qmZ(c:Int):qaf XV 61 [.d (.int .u8 c)] []=some (.d (.bool (qiP c)),[]):=by
 rw[qap XV _ _ _ v61 rfl qDG rfl];cases h1:decide (97<=c)<;>simp[v61,qMg,qMf,h1,qiP]
theorem qm0(c:Int):qaf XV 62 [.d (.int .u8 c)] []=some (.d (.bool (qqZ c)),[]):=by
 rw[qap XV _ _ _ v62 rfl qDF rfl];cases h1:decide (48<=c)<;>simp[v62,qMe,qMd,h1,qqZ]
def qoT(x:Int)(i:Nat):Prop:=(97<=x/\x<=122)\/(0<i/\48<=x/\x<=57)
instance (x:Int) (i:Nat):Decidable (qoT x i):=by unfold qoT;exact inferInstance
theorem qHG(s:ByteArray)(hs:s.size<=1099511627776)(i:Nat)(hlt:i<s.size)(x:Int)(hb:qlZ s i=some x):
 qau XV [] qCK ⟨[(0,.d (.str s)),(3,.d (.int .i64 i))],[]⟩=some (if qoT x i then(.normal,⟨[(0,.d (.str s)),(3,.d (.int .i64 (i+1:Nat)))],[]⟩)else(.ret,⟨[(2,.d (.bool false))],[]⟩)):=by
 have hw:=qao (n:=i) (by omega);simp[qCK,qI7,qMq,qMp,qMr,hb,hlt,hw];cases h1:decide (97<=x)
 case true=>
  simp[hb];cases h2:decide (x<=122)
  case true=>
   simp[hb,hw];have:qoT x i:=by simp at h1 h2;exact .inl ⟨h1,h2⟩
   simp[this]
  case false=>
   simp[hb,hw];cases h3:decide (0<i)<;>simp[hb,hw]
   case true=>
    have h4:(48<=x):=by simp at h1;omega
    simp[h4,hb];have h5:¬(x<=57):=by simp at h1;omega
    have:¬qoT x i:=by simp at h1 h2;unfold qoT;omega
    simp[h5,this]
   case false=>
    have:¬qoT x i:=by simp at h1 h2 h3;unfold qoT;omega
    simp[this]
 case false=>
  simp[hb];cases h3:decide (0<i)
  case true=>
   simp[hb,hw];cases h4:decide (48<=x)
   case true=>
    simp[hb,hw];cases h5:decide (x<=57)
    case true=>
     have:qoT x i:=by simp at h1 h3 h4 h5;unfold qoT;omega
     simp[hw,this]
    case false=>
     have:¬qoT x i:=by simp at h1 h3 h4 h5;unfold qoT;omega
     simp[hw,this]
   case false=>
    have:¬qoT x i:=by simp at h1 h3 h4;unfold qoT;omega
    simp[hb,hw,this]
  case false=>
   have:¬qoT x i:=by simp at h1 h3;unfold qoT;omega
   simp[hb,hw,this]
def qE1(s:ByteArray)(i:Nat):Bool:=decide (qoT (chr s i) i)
def qjQ(s:ByteArray)(f:ByteArray->Nat->Bool)(i k:Nat):Bool:=(List.range' i k).all (f s)
theorem qnq(s:ByteArray)(f:ByteArray->Nat->Bool)(i:Nat):qjQ s f i 0=true:=rfl
theorem qnr(s:ByteArray)(f:ByteArray->Nat->Bool)(i k:Nat):qjQ s f i (k+1)=(f s i&&qjQ s f (i+1) k):=by simp[qjQ,List.range'_succ]
theorem qCT(s:ByteArray)(f:ByteArray->Nat->Bool)(i k:Nat):qjQ s f i k=true↔∀j,i<=j->j<i+k->f s j=true:=by
 simp only[qjQ,List.all_eq_true,List.mem_range'_1];exact⟨fun h j h1 h2=>h j ⟨h1,h2⟩,fun h j h1=>h j h1.1 h1.2⟩
theorem qHm(s:ByteArray)(hs:s.size<=1099511627776):∀(k i:Nat),i+k=s.size->
 qbj XV [] 0 [0,3] qCK ⟨[(0,.d (.str s)),(3,.d (.int .i64 i))],[]⟩=
  some (if qjQ s qE1 i k then(.exit 0,⟨[(0,.d (.str s)),(3,.d (.int .i64 s.size)),(7,.d (.bool false))],[]⟩)else(.ret,⟨[(2,.d (.bool false))],[]⟩))
 |0,i,hk=>by
  have:i=s.size:=by omega
  subst this;rw[qek];simp[qag,qad,qCK,qI7,qnq]
 |k+1,i,hk=>by
  have hlt:i<s.size:=by omega
  have ih:=qHm s hs k (i+1) (by omega);rw[qek,qnr]
  by_cases h:qoT (chr s i) i
  ·have h2:qE1 s i=true:=by simp[qE1,h]
   rw[h2,Bool.true_and,<-ih];simp[qag,qad,qHG s hs i hlt _ (qhR hlt),h]
  ·have h2:qE1 s i=false:=by simp[qE1,h]
   simp[qag,qad,qHG s hs i hlt _ (qhR hlt),h,h2]
def qhm(s:ByteArray):Bool:=qjQ s qE1 0 s.size&&inB s.size 1 8
theorem qnG(s:ByteArray)(hs:s.size<=1099511627776):qaf XV 59 [.d (.str s)] []=some (.d (.bool (qhm s)),[]):=by
 rw[qap XV _ _ _ v59 rfl qDI rfl];have h:=qHm s hs s.size 0 (by omega);simp[v59,qMt,qMs,qMo];simp at h;rw[h];cases h1:qjQ s qE1 0 s.size
 ·simp[qhm,h1]
 ·simp[qhm,h1,qfN]
def qol(s:ByteArray)(i:Nat):Bool:=qiP (chr s i)||qqZ (chr s i)
theorem qHF(s:ByteArray)(hs:s.size<=1099511627776)(i:Nat)(hlt:i<s.size):
 qau XV [] qCJ ⟨[(0,.d (.str s)),(5,.d (.int .i64 s.size)),(6,.d (.int .i64 i))],[]⟩=some (if qol s i then(.normal,⟨[(0,.d (.str s)),(5,.d (.int .i64 s.size)),(6,.d (.int .i64 (i+1:Nat)))],[]⟩)else(.ret,⟨[(2,.d (.bool false))],[]⟩)):=by
 have hw:=qao (n:=i) (by omega);have hb:=qhR hlt;simp[qCJ,qI6,qMl,qMk,qMj,qMi,hb,hlt,hw,qmZ,qm0];cases h1:qiP (chr s i)
 ·simp[hb,qm0]
  cases h2:qqZ (chr s i)<;>simp[hw,qol,h1,h2]
 ·simp[hw,qol,h1]
theorem qHl(s:ByteArray)(hs:s.size<=1099511627776):∀(k i:Nat),i+k=s.size->
 qbj XV [] 0 [0,5,6] qCJ ⟨[(0,.d (.str s)),(5,.d (.int .i64 s.size)),(6,.d (.int .i64 i))],[]⟩=
  some (if qjQ s qol i k then(.exit 0,⟨[(0,.d (.str s)),(5,.d (.int .i64 s.size)),(6,.d (.int .i64 s.size)),(7,.d (.bool false))],[]⟩)else(.ret,⟨[(2,.d (.bool false))],[]⟩))
 |0,i,hk=>by
  have:i=s.size:=by omega
  subst this;rw[qek];simp[qag,qad,qCJ,qI6,qnq]
 |k+1,i,hk=>by
  have hlt:i<s.size:=by omega
  have ih:=qHl s hs k (i+1) (by omega);rw[qek,qnr];cases h:qol s i
  ·simp[qag,qad,qHF s hs i hlt,h]
  ·rw[Bool.true_and,<-ih]
   simp[qag,qad,qHF s hs i hlt,h]
def qlq(s:ByteArray):Bool:=qjQ s qol 0 s.size&&(inB s.size 1 8&&qiP (chr s 0))
theorem qov(s:ByteArray)(hs:s.size<=1099511627776):qaf XV 60 [.d (.str s)] []=some (.d (.bool (qlq s)),[]):=by
 rw[qap XV _ _ _ v60 rfl qDH rfl];have h:=qHl s hs s.size 0 (by omega);simp[v60,qMn,qMm,qMh];simp at h;rw[h];cases h1:qjQ s qol 0 s.size
 ·simp[qlq,h1]
 ·simp[qlq,h1,qis]
  cases h2:inB s.size 1 8
  ·simp[h2]
  ·have h3:0<s.size:=by simp[inB]at h2;omega
   simp[h2,qhR h3,qmZ]
theorem qE0(s:ByteArray)(i:Nat):qE1 s i=true↔(97<=chr s i/\chr s i<=122)\/(0<i/\48<=chr s i/\chr s i<=57):=by
 unfold qE1;rw[decide_eq_true_eq];rfl
theorem qAS(s:ByteArray)(i:Nat):qol s i=true↔(97<=chr s i/\chr s i<=122)\/(48<=chr s i/\chr s i<=57):=by
 simp[qol,qiP,qqZ]
theorem qvG(x:Int):qiP x=true↔97<=x/\x<=122:=by simp[qiP]
theorem qsB(s:ByteArray):qlq s=qhm s:=by
 rw[Bool.eq_iff_iff];simp only[qhm,qlq,Bool.and_eq_true,qCT,qE0,qAS,qvG];constructor
 ·rintro⟨h1,h2,h3⟩
  refine⟨fun j hj hj2=> ?_,h2⟩;have h4:=h1 j hj hj2;rcases Nat.eq_zero_or_pos j with rfl|hp
  ·exact .inl h3
  ·omega
 ·rintro⟨h1,h2⟩
  have h0:0<s.size:=by simp[inB]at h2;omega
  have h5:=h1 0 (Nat.le_refl _) (by omega);refine⟨fun j hj hj2=> ?_,h2,?_⟩
  ·have h4:=h1 j hj hj2
   omega
  ·omega
end Go.Proofs.Ytfiakfiocdfpbaa.VS
namespace Go.Proofs.Ytfiakfiocdfpbaa.VS
def qaD(q:Nat->Bool):Nat->Nat->Option Nat
 |0,_=>none
 |k+1,i=>if q i then some i else qaD q k (i+1)
def qcD(q:Nat->Bool)(_:Unit)(i:Nat):Unit⊕Nat:=if q i then .inr i else .inl ()
theorem qr0(q:Nat->Bool):∀(k i:Nat),runN (qcD q) k () i=match qaD q k i with|some j=> .inr j|none=> .inl ()
 |0,i=>rfl
 |k+1,i=>by
  simp only[runN,qcD,qaD];cases h:q i
  ·simp[qr0 q k (i+1)]
  ·simp
def qew:Option Nat->Int
 |some j=>j
 |none=> -1
theorem qb2(q:Nat->Bool):∀(k i j:Nat),qaD q k i=some j->i<=j/\j<i+k/\q j=true
 |0,i,j,h=>by simp[qaD]at h
 |k+1,i,j,h=>by
  simp only[qaD]at h;split at h
  ·simp at h;subst h;exact⟨Nat.le_refl _,by omega,by assumption⟩
  ·obtain⟨h1,h2,h3⟩:=qb2 q k (i+1) j h;exact⟨by omega,by omega,h3⟩
def qd8(l:List SymL)(name:ByteArray):Int:=qew (qaD (fun i=>qfv (qaw l i).name name) l.length 0)
theorem qph(l:List SymL)(name:ByteArray)(hl:l.length<=1099511627776):qaf XV 13 [.d (sg l),.d (.str name)] []=some (.d (.int .i64 (qd8 l name)),[]):=by
 rw[qap XV _ _ _ v13 rfl qDW rfl];have h:=qat (X:=XV) (T:=[]) (L:=0) (live:=[0,1,5]) (b:=qCM) (n:=l.length) (st:=fun(_:Unit) i=>⟨[(0,.d (sg l)),(1,.d (.str name)),(5,.d (.int .i64 i))],[]⟩) (step:=qcD fun i=>qfv (qaw l i).name name)
  (F:=fun _=>(.exit 0,⟨[(0,.d (sg l)),(1,.d (.str name)),(5,.d (.int .i64 l.length)),(9,.d (.bool false))],[]⟩)) (R:=fun(j:Nat)=>(.ret,⟨[(4,.d (.int .i64 j))],[]⟩))
  (fun a=>⟨by simp,by simp[qCM,qwo,qwn,qwm,qwk,qwj,qwl,qwi]⟩)
  (fun a i hi=>by
   have hw:=qao (n:=i) (by omega);unfold qcD
   by_cases hq:qfv (qaw l i).name name=true
   ·rw[if_pos hq];exact⟨by simp,by simp[qCM,qwo,qwn,qwm,qwk,qwj,qwl,qwi,hi,hw,cut,qax hi,hq]⟩
   ·rw[if_neg hq]
    have hq':qfv (qaw l i).name name=false:=by simpa using hq
    exact⟨_,by simp[qCM,qwo,qwn,qwm,qwk,qwj,qwl,qwi,hi,hw,cut,qax hi,hq'];rfl,by simp[qag,qad]⟩)
  l.length () 0 ⟨[(0,.d (sg l)),(1,.d (.str name)),(5,.d (.int .i64 0))],[]⟩ (by omega) (by simp[qag,qad])
 rw[qr0]at h;simp[v13,qwo,qwn,qwm,qwk,qwj,qwl,qwi];rw[h];unfold qd8;cases hq:qaD (fun i=>qfv (qaw l i).name name) l.length 0<;>simp[qew,v13,qwo,qwn,qwm,qwk,qwj,qwl,qwi]
theorem qos(l:List SymL)(fk:Nat)(caps:List AV)(B:qan)(P:SymL->Bool)(hl:l.length<=1099511627776)(hs:AV.safe.safes B.length caps=true)(hcc:caps.map AV.clr=caps)(hk:¬0∈XV.lin fk)
 (hf:∀s,s∈l->qaf XV fk (.d s.enc::caps) B=some (.d (.bool (P s)),B)):
 qaf XV 19 [.d (sg l),.fn fk caps] B=some (.d (.int .i64 (qew (qaD (fun i=>P (qaw l i)) l.length 0))),B):=by
 rw[qap XV _ _ _ v19 rfl qDT rfl];have h:=qat (X:=XV) (T:=XV.lin 19) (L:=B.length) (live:=[0,1,7,8]) (b:=qCL) (n:=l.length) (st:=fun(_:Unit) i=>⟨[(0,.d (sg l)),(1,.fn fk caps),(7,.d (.int .i64 l.length)),(8,.d (.int .i64 i))],B⟩) (step:=qcD fun i=>P (qaw l i))
  (F:=fun _=>(.exit 0,⟨[(0,.d (sg l)),(1,.fn fk caps),(7,.d (.int .i64 l.length)),(8,.d (.int .i64 l.length)),(9,.d (.bool false))],B⟩)) (R:=fun(j:Nat)=>(.ret,⟨[(4,.d (.int .i64 j))],B⟩))
  (fun a=>⟨by simp,by simp[qCL,qwh,qwg,qwf,qwe,qwd,qwc,qwb,qwa,hcc]⟩)
  (fun a i hi=>by
   have hw:=qao (n:=i) (by omega);have hc:=hf _ (qpb hi);unfold qcD
   by_cases hq:P (qaw l i)=true
   ·rw[if_pos hq];rw[hq]at hc
    exact⟨by simp,by simp[qCL,qwh,qwg,qwf,qwe,qwd,qwc,qwb,qwa,hi,hw,cut,qax hi,hc,hcc,hk]⟩
   ·rw[if_neg hq]
    have hq':P (qaw l i)=false:=by simpa using hq
    rw[hq']at hc;exact⟨_,by simp[qCL,qwh,qwg,qwf,qwe,qwd,qwc,qwb,qwa,hi,hw,cut,qax hi,hc,hcc,hk];rfl,by simp[qag,qad,hs]⟩)
  l.length () 0 ⟨[(0,.d (sg l)),(1,.fn fk caps),(7,.d (.int .i64 l.length)),(8,.d (.int .i64 0))],B⟩ (by omega) (by simp[qag,qad,hs])
 rw[qr0]at h;simp only[qNU]at h;simp[v19,qwh,qwg,qwf,qwe,qwd,qwc,qwb,qwa,hcc];rw[h];cases hq:qaD (fun i=>P (qaw l i)) l.length 0<;>simp[qew,v19,qwh,qwg,qwf,qwe,qwd,qwc,qwb,qwa]
theorem qyY(s:SymL)(name:ByteArray):qaf XV 18 [.d s.enc,.ptr 0 0] [some [.d (.str name)]]=some (.d (.bool (qfv s.name name)),[some [.d (.str name)]]):=by
 rw[qap XV _ _ _ v18 rfl qDU rfl];simp[v18,qMS,qMR]
theorem qqx(l:List SymL)(name:ByteArray)(hl:l.length<=1099511627776):qaf XV 14 [.d (sg l),.d (.str name)] []=some (.d (.int .i64 (qd8 l name)),[]):=by
 rw[qap XV _ _ _ v14 rfl qDV rfl];have hc:=qos l 18 [.ptr 0 0] [some [.d (.str name)]] (fun s=>qfv s.name name) hl (by simp) (by simp) (by simp) (fun s _=>qyY s name);simp[v14,qMU,qMT,hc,qd8]
def qep(l:List SymL)(s:SymL)(i:Nat):Bool:= !qhm s.name|| !(decide (qd8 l s.name=i))|| !(inB s.arity 0 3)||(s.ac&& !decide (s.arity=2))
def ttB(s:SymL):Bool:=qfv s.name ⟨#[116,116]⟩&&decide (s.arity=0)
def qkq(l:List SymL):Bool:=(qaD (fun i=>qep l (qaw l i) i) l.length 0).isNone&&(inB l.length 1 8&&ttB (qaw l 0))
theorem qy0(w:Nat->Nat):∀(k i j:Nat),i<=j->j<i+k->w j<=qtv w i k
 |0,i,j,h,h'=>by omega
 |k+1,i,j,h,h'=>by
  simp only[qtv];rcases Nat.eq_or_lt_of_le h with rfl|h
  ·omega
  ·have:=qy0 w k (i+1) j h (by omega);omega
theorem qdx(l:List SymL)(s:SymL)(i:Nat):qep l s i=false↔qhm s.name=true/\qd8 l s.name=i/\inB s.arity 0 3=true/\(s.ac=true->s.arity=2):=by
 simp[qep,and_assoc]
theorem qOO(l:List SymL)(hl:l.length<=1099511627776)(i:Nat)(hi:i<l.length)(hn:(qaw l i).name.size<=1099511627776):
 qIg 0 [0,5,6,7] (fun(_:Unit) i=>⟨[(0,.d (sg l)),(5,.d (sg l)),(6,.d (.int .i64 l.length)),(7,.d (.int .i64 i))],[]⟩) (fun(_:Nat)=>(.ret,⟨[(2,.d (.bool false))],[some [.d (.str (qaw l i).name),.d (.int .i64 (qaw l i).arity),.d (.bool (qaw l i).ac)]]⟩)) i
  (qau XV (XV.lin 77) qmv ⟨[(0,.d (sg l)),(5,.d (sg l)),(6,.d (.int .i64 l.length)),(7,.d (.int .i64 i))],[]⟩) (qcD (fun i=>qep l (qaw l i) i) () i):=by
 have hw:=qao (n:=i) (by omega);have n1:=qov (qaw l i).name hn;rw[qsB]at n1;have n2:=qqx l (qaw l i).name hl;have n3:=qis (qaw l i).arity 0 3;unfold qcD
 by_cases hb:qep l (qaw l i) i=true
 ·rw[if_pos hb]
  refine⟨by simp,?_⟩;cases c1:qhm (qaw l i).name with
  |false=>rw[c1]at n1;simp[qmv,qih,qig,qif,qie,qid,qic,qib,qia,hi,hw,cut,qax hi,n1,splice]
  |true=>
   rw[c1]at n1
   by_cases c2:qd8 l (qaw l i).name=i
   ·have b2:(qd8 l (qaw l i).name !=i)=false:=by simp[c2]
    cases c3:inB (qaw l i).arity 0 3 with
    |false=>rw[c3]at n3;simp[qmv,qih,qig,qif,qie,qid,qic,qib,qia,hi,hw,cut,qax hi,n1,n2,b2,n3,splice]
    |true=>
     rw[c3]at n3;have c4:(qaw l i).ac=true/\¬(qaw l i).arity=2:=by
      have:¬qep l (qaw l i) i=false:=by simp[hb]
      rw[qdx]at this;simp only[c1,c2,c3,true_and]at this;exact Classical.not_imp.1 this
     have b4:((qaw l i).arity !=2)=true:=by simp[c4.2]
     simp[qmv,qih,qig,qif,qie,qid,qic,qib,qia,hi,hw,cut,qax hi,n1,n2,b2,n3,splice,c4.1,b4]
   ·have b2:(qd8 l (qaw l i).name !=i)=true:=by simp[c2]
    simp[qmv,qih,qig,qif,qie,qid,qic,qib,qia,hi,hw,cut,qax hi,n1,n2,b2,splice]
 ·have hb':qep l (qaw l i) i=false:=by simpa using hb
  rw[if_neg hb];obtain⟨c1,c2,c3,c4⟩:=(qdx l _ i).1 hb';have b2:(qd8 l (qaw l i).name !=i)=false:=by simp[c2]
  rw[c1]at n1;rw[c3]at n3
  cases c5:(qaw l i).ac with
  |false=>exact⟨_,by simp[qmv,qih,qig,qif,qie,qid,qic,qib,qia,hi,hw,cut,qax hi,n1,n2,b2,n3,splice,c5];rfl,by simp[qag,qad]⟩
  |true=>
   have b4:((qaw l i).arity !=2)=false:=by simp[c4 c5]
   exact⟨_,by simp[qmv,qih,qig,qif,qie,qid,qic,qib,qia,hi,hw,cut,qax hi,n1,n2,b2,n3,splice,c5,b4];rfl,by simp[qag,qad]⟩
theorem qqy(l:List SymL)(hl:l.length<=1099511627776)(hn:∀i,i<l.length->(qaw l i).name.size<=1099511627776):qaf XV 77 [.d (sg l)] []=some (.d (.bool (qkq l)),[]):=by
 rw[qap XV _ _ _ v77 rfl qDv rfl];have h:=qat (X:=XV) (T:=XV.lin 77) (L:=0) (live:=[0,5,6,7]) (b:=qmv) (n:=l.length) (γ:=Nat) (st:=fun(_:Unit) i=>⟨[(0,.d (sg l)),(5,.d (sg l)),(6,.d (.int .i64 l.length)),(7,.d (.int .i64 i))],[]⟩) (step:=qcD fun i=>qep l (qaw l i) i)
  (F:=fun _=>(.exit 0,⟨[(0,.d (sg l)),(5,.d (sg l)),(6,.d (.int .i64 l.length)),(7,.d (.int .i64 l.length)),(8,.d (.bool false))],[]⟩)) (R:=fun j=>(.ret,⟨[(2,.d (.bool false))],[some [.d (.str (qaw l j).name),.d (.int .i64 (qaw l j).arity),.d (.bool (qaw l j).ac)]]⟩))
  (fun a=>⟨by simp,by simp[qmv,qih,qig,qif,qie,qid,qic,qib,qia]⟩)
  (fun a i hi=>by
   have hb:=qOO l hl i hi (hn i hi);unfold qcD at hb⊢
   split at hb
   ·rename_i h1;rw[if_pos h1];exact hb
   ·rename_i h1;rw[if_neg h1];exact hb)
  l.length () 0 ⟨[(0,.d (sg l)),(5,.d (sg l)),(6,.d (.int .i64 l.length)),(7,.d (.int .i64 0))],[]⟩ (by omega) (by simp[qag,qad])
 rw[qr0]at h;simp only[qNQ]at h;simp[v77,qih,qig,qif,qie,qid,qic,qib,qia];rw[h];unfold qkq;cases hq:qaD (fun i=>qep l (qaw l i) i) l.length 0 with
 |some j=>simp
 |none=>
  have n3:=qis l.length 1 8;cases c1:inB l.length 1 8 with
  |false=>rw[c1]at n3;simp[v77,qih,qig,qif,qie,qid,qic,qib,qia,n3]
  |true=>
   rw[c1]at n3;have h0:0<l.length:=by simp[inB]at c1;omega
   unfold ttB;cases c2:qfv (qaw l 0).name ⟨#[116,116]⟩with
   |false=>simp[v77,qih,qig,qif,qie,qid,qic,qib,qia,n3,h0,qax h0,cut,c2]
   |true=>
    by_cases c3:(qaw l 0).arity=0
    ·simp[v77,qih,qig,qif,qie,qid,qic,qib,qia,n3,h0,qax h0,cut,c2,c3]
    ·have b3:((qaw l 0).arity==0)=false:=by simp[c3]
     simp[v77,qih,qig,qif,qie,qid,qic,qib,qia,n3,h0,qax h0,cut,c2,c3,b3]
theorem qpj(l:List SymL)(hl:l.length<=1099511627776)(hn:∀i,i<l.length->(qaw l i).name.size<=1099511627776):qaf XV 82 [.d (sg l)] []=some (.d (.bool (qkq l)),[]):=by
 rw[qap XV _ _ _ v82 rfl qDq rfl];have h:=qat (X:=XV) (T:=XV.lin 82) (L:=0) (live:=[0,3]) (b:=qoN) (n:=l.length) (γ:=Nat) (st:=fun(_:Unit) i=>⟨[(0,.d (sg l)),(3,.d (.int .i64 i))],[]⟩) (step:=qcD fun i=>qep l (qaw l i) i)
  (F:=fun _=>(.exit 0,⟨[(0,.d (sg l)),(3,.d (.int .i64 l.length)),(7,.d (.bool false))],[]⟩)) (R:=fun j=>(.ret,⟨[(2,.d (.bool false))],[]⟩))
  (fun a=>⟨by simp,by simp[qoN,qkF,qkE,qkD,qkB,qkA,qkC,qkz]⟩)
  (fun a i hi=>by
   have hw:=qao (n:=i) (by omega);have n1:=qnG (qaw l i).name (hn i hi);have n2:=qph l (qaw l i).name hl;have n3:=qfN (qaw l i).arity 0 3;unfold qcD
   by_cases hb:qep l (qaw l i) i=true
   ·rw[if_pos hb]
    refine⟨by simp,?_⟩;cases c1:qhm (qaw l i).name with
    |false=>rw[c1]at n1;simp[qoN,qkF,qkE,qkD,qkB,qkA,qkC,qkz,hi,hw,cut,qax hi,n1,splice]
    |true=>
     rw[c1]at n1
     by_cases c2:qd8 l (qaw l i).name=i
     ·have b2:(qd8 l (qaw l i).name !=i)=false:=by simp[c2]
      cases c3:inB (qaw l i).arity 0 3 with
      |false=>rw[c3]at n3;simp[qoN,qkF,qkE,qkD,qkB,qkA,qkC,qkz,hi,hw,cut,qax hi,n1,n2,b2,n3,splice]
      |true=>
       rw[c3]at n3;have c4:(qaw l i).ac=true/\¬(qaw l i).arity=2:=by
        have:¬qep l (qaw l i) i=false:=by simp[hb]
        rw[qdx]at this;simp only[c1,c2,c3,true_and]at this;exact Classical.not_imp.1 this
       have b4:((qaw l i).arity !=2)=true:=by simp[c4.2]
       simp[qoN,qkF,qkE,qkD,qkB,qkA,qkC,qkz,hi,hw,cut,qax hi,n1,n2,b2,n3,splice,c4.1,b4]
     ·have b2:(qd8 l (qaw l i).name !=i)=true:=by simp[c2]
      simp[qoN,qkF,qkE,qkD,qkB,qkA,qkC,qkz,hi,hw,cut,qax hi,n1,n2,b2,splice]
   ·have hb':qep l (qaw l i) i=false:=by simpa using hb
    rw[if_neg hb];obtain⟨c1,c2,c3,c4⟩:=(qdx l _ i).1 hb';have b2:(qd8 l (qaw l i).name !=i)=false:=by simp[c2]
    rw[c1]at n1;rw[c3]at n3
    cases c5:(qaw l i).ac with
    |false=>exact⟨_,by simp[qoN,qkF,qkE,qkD,qkB,qkA,qkC,qkz,hi,hw,cut,qax hi,n1,n2,b2,n3,splice,c5];rfl,by simp[qag,qad]⟩
    |true=>
     have b4:((qaw l i).arity !=2)=false:=by simp[c4 c5]
     exact⟨_,by simp[qoN,qkF,qkE,qkD,qkB,qkA,qkC,qkz,hi,hw,cut,qax hi,n1,n2,b2,n3,splice,c5,b4];rfl,by simp[qag,qad]⟩)
  l.length () 0 ⟨[(0,.d (sg l)),(3,.d (.int .i64 0))],[]⟩ (by omega) (by simp[qag,qad])
 rw[qr0]at h;simp only[qNP]at h;simp[v82,qkF,qkE,qkD,qkB,qkA,qkC,qkz];rw[h];unfold qkq;cases hq:qaD (fun i=>qep l (qaw l i) i) l.length 0 with
 |some j=>simp
 |none=>
  have n3:=qfN l.length 1 8;cases c1:inB l.length 1 8 with
  |false=>rw[c1]at n3;simp[v82,qkF,qkE,qkD,qkB,qkA,qkC,qkz,n3]
  |true=>
   rw[c1]at n3;have h0:0<l.length:=by simp[inB]at c1;omega
   have hnone:∀(q:Nat->Bool) (k i j:Nat),qaD q k i=none->i<=j->j<i+k->q j=false:=by
    intro q k
    induction k with
    |zero=>intro i j _ h1 h2;omega
    |succ k ih=>
     intro i j hf h1 h2;simp only[qaD]at hf;split at hf
     ·simp at hf
     ·rcases Nat.eq_or_lt_of_le h1 with rfl|h1
      ·simpa using ‹¬q i=true›
      ·exact ih (i+1) j hf h1 (by omega)
   have hb0:=hnone _ _ _ 0 hq (Nat.le_refl _) (by omega);obtain⟨_,_,_,c4⟩:=(qdx l (qaw l 0) 0).1 hb0;have key:qbv [2,0,1] [.str (qaw l 0).name,.int .i64 (qaw l 0).arity,.bool (qaw l 0).ac] [.str ⟨#[116,116]⟩,.int .i64 0,.bool false]=some (ttB (qaw l 0)):=by
    unfold ttB;cases c2:qfv (qaw l 0).name ⟨#[116,116]⟩<;>by_cases c3:(qaw l 0).arity=0<;>cases c5:(qaw l 0).ac<;>simp[qbv,c2,c3,c5]
    have:=c4 c5;omega
   have key2:∀s s':SymL,qBT false [2,0,1] (some (.d s.enc)) (some (.d s'.enc))=(qbv [2,0,1] [.str s.name,.int .i64 s.arity,.bool s.ac] [.str s'.name,.int .i64 s'.arity,.bool s'.ac]).map fun e=> .d (.bool e):=fun s s'=>by
    show(qbv [2,0,1] s.cells s'.cells).map _=_;simp[SymL.cells]
   simp[v82,qkF,qkE,qkD,qkB,qkA,qkC,qkz,n3,h0,qax h0,cut,key2,key,splice]
end Go.Proofs.Ytfiakfiocdfpbaa.VS
namespace Go.Proofs.Ytfiakfiocdfpbaa.VS
section
variable (X:XEnv)
end
end Go.Proofs.Ytfiakfiocdfpbaa.VS
namespace Go.Proofs.Ytfiakfiocdfpbaa.VS
end Go.Proofs.Ytfiakfiocdfpbaa.VS
namespace Go.Proofs.Ytfiakfiocdfpbaa.VS
@[simp high] theorem qK6(l:List Int):(l.map (DV.int .u8)).map DV.clr=l.map (DV.int .u8):=by simp[List.map_map,Function.comp_def]
theorem qOQ(bs:List Int):qaf XV 133 [.d (.sl .sub (bs.map (.int .u8)))] []=some (.d (.bool (decide (1048576<bs.length))),[]):=by
 rw[qap XV _ _ _ qK4 rfl qyE rfl];have h:decide ((1048576:Int)<bs.length)=decide (1048576<bs.length):=by congr 1;apply propext;omega
 simp[qK4,qHf,qHe,h]
end Go.Proofs.Ytfiakfiocdfpbaa.VS
namespace Go.Proofs.Ytfiakfiocdfpbaa.VS
def mk:Nat->Nat->List Int
 |0,_=>[]
 |n+1,k=>(k:Int)::mk n (k+1)
theorem qHs(B:qan)(n:Nat)(v:DV):AV.frzC B n (.d v)=some v:=by cases n<;>simp only[AV.frzC]
end Go.Proofs.Ytfiakfiocdfpbaa.VS
namespace Go.Proofs.Ytfiakfiocdfpbaa.VS
mutual
def T.nb:T->Nat
 | .node _ _ []=>0
 | .node _ _ (t::r)=>T.nbs (t::r)+1
def T.nbs:List T->Nat
 | []=>0
 |t::r=>t.nb+T.nbs r
end
def qTW(ks:List T):Nat:=if ks=[]then 0 else T.nbs ks+1
def qTV(b:Nat)(ks:List T):AV:=if ks=[]then .d (qaj .sub [])else .tsl true (b+T.nbs ks) 3 ks.length
def qF9(b:Nat):List T->List AV
 | []=>[]
 | .node f v ks::r=> .d (.int .i64 f):: .d (.int .i64 v)::qTV b ks::qF9 (b+qTW ks) r
mutual
def T.bx(b:Nat):T->qan
 | .node _ _ []=>[]
 | .node _ _ (t::r)=>T.bxs b (t::r)++[some (qF9 b (t::r))]
def T.bxs(b:Nat):List T->qan
 | []=>[]
 |t::r=>t.bx b++T.bxs (b+t.nb) r
end
def qd4(l:List T):Nat:=l.length+T.inners l
theorem qlV(t:T):qd4 t.kids=t.inner:=by cases t;simp[qd4,T.inner]
theorem qfb:∀(a c:List T),T.inners (a++c)=T.inners a+T.inners c
 | [],c=>by simp[T.inners]
 |t::r,c=>by simp[T.inners,qfb r c];omega
theorem qb4(t:T)(l:List T):qd4 (t::l)=(t.inner+1)+qd4 l:=by unfold qd4;simp[T.inners];omega
theorem qeE(ks:List T)(i:Nat)(hi:i<ks.length):ks.take (i+1)=ks.take i++[tAt ks i]:=by
 rw[<-qaF hi,List.take_append_getElem hi]
theorem qKh(ks:List T)(i:Nat):qd4 (ks.take i)<=qd4 ks:=by
 have h:qd4 (ks.take i++ks.drop i)=qd4 (ks.take i)+qd4 (ks.drop i):=by unfold qd4;rw[qfb];simp;omega
 rw[List.take_append_drop]at h;omega
end Go.Proofs.Ytfiakfiocdfpbaa.VS
namespace Go.Proofs.Ytfiakfiocdfpbaa.VS
end Go.Proofs.Ytfiakfiocdfpbaa.VS
namespace Go.Proofs.Ytfiakfiocdfpbaa.VS
end Go.Proofs.Ytfiakfiocdfpbaa.VS
namespace Go.Proofs.Ytfiakfiocdfpbaa.VS
def qa3(f v:Int)(ks:List T):qan:=[some [.d (.int .i64 f),.d (.int .i64 v),.d (qaj .sub ks)]]
end Go.Proofs.Ytfiakfiocdfpbaa.VS
namespace Go.Proofs.Ytfiakfiocdfpbaa.VS
theorem qow(a b:T)(ha:a.inner<=1099511627776)(hb:b.inner<=1099511627776):qaf XV 79 [.d (a.enc .sub),.d (b.enc .sub)] []=some (.d (.bool (decide (T.cmp a b<0))),[]):=by
 rw[qap XV _ _ _ v79 rfl qDt rfl];have h:=qgl a b ha hb;simp[v79,qL1,qL0,h]
theorem qnH(f v:Int)(ks:List T)(f' v':Int)(ks':List T)(hl:ks.length<=1099511627776)(hl':ks'.length<=1099511627776)
 (hsame:∀s s',s∈ks->s'∈ks'->qaf XV 3 [.d (s.enc .sub),.d (s'.enc .sub)] []=some (.d (.bool (T.cmp s s'==0)),[]))
 (hrec:∀s s',s∈ks->s'∈ks'->qaf XV 84 [.d (s.enc .sub),.d (s'.enc .sub)] []=some (.d (.bool (decide (T.cmp s s'<0))),[])):
 qaf XV 84 [.d ((T.node f v ks).enc .sub),.d ((T.node f' v' ks').enc .sub)] []=some (.d (.bool (decide (T.cmp (.node f v ks) (.node f' v' ks')<0))),[]):=by
 rw[qap XV _ _ _ v84 rfl qDo rfl];rw[qj7]
 by_cases c1:f=f'
 case neg=>
  have b1:(f !=f')=true:=by simp[c1]
  have e:decide (qq4 f f' v v' ks.length ks'.length (T.cmps ks ks')<0)=decide (f<f'):=by
   unfold qq4;by_cases h1:f<f'
   ·simp[h1]
   ·have h2:f>f':=by omega
    simp[h1,h2]
  rw[e];simp[v84,qnW,qnV,qnU,qnT,qnS,qnR,qnQ,qnP,qnO,qju,qjt,qnN,qhe,b1]
 subst c1
 by_cases c2:v=v'
 case neg=>
  have b2:(v !=v')=true:=by simp[c2]
  have e:decide (qq4 f f v v' ks.length ks'.length (T.cmps ks ks')<0)=decide (v<v'):=by
   unfold qq4;by_cases h1:v<v'
   ·simp[h1]
   ·have h2:v>v':=by omega
    simp[h1,h2]
  rw[e];simp[v84,qnW,qnV,qnU,qnT,qnS,qnR,qnQ,qnP,qnO,qju,qjt,qnN,qhe,b2]
 subst c2
 by_cases c3:ks.length=ks'.length
 case neg=>
  have b3:((ks.length:Int) !=ks'.length)=true:=by simp;omega
  have e:decide (qq4 f f v v ks.length ks'.length (T.cmps ks ks')<0)=decide (ks.length<ks'.length):=by
   unfold qq4;by_cases h1:ks.length<ks'.length
   ·simp[h1]
   ·have h2:ks'.length<ks.length:=by omega
    simp[h1,h2]
  rw[e];simp[v84,qnW,qnV,qnU,qnT,qnS,qnR,qnQ,qnP,qnO,qju,qjt,qnN,qhe,b3]
 have hcp:qq4 f f v v ks.length ks'.length (T.cmps ks ks')=T.cmps ks ks':=by simp[qq4,c3]
 rw[hcp];have h:=qat (X:=XV) (T:=[]) (L:=2) (live:=[2,3,5]) (b:=qCE) (n:=ks.length) (γ:=Int) (st:=fun(_:Unit) i=>⟨[(2,.ptr 0 0),(3,.ptr 1 0),(5,.d (.int .i64 i))],qeS f v ks f v ks'⟩) (step:=qml ks ks')
  (F:=fun _=>(.exit 0,⟨[(2,.ptr 0 0),(3,.ptr 1 0),(5,.d (.int .i64 ks.length)),(44,.d (.bool false))],qeS f v ks f v ks'⟩)) (R:=fun r=>(.ret,⟨[(4,.d (.bool (decide (r<0))))],qeS f v ks f v ks'⟩))
  (fun _=>⟨by simp,by simp[qCE,qnW,qnV,qnU,qnT,qnS,qnR,qnQ,qnP,qnO,qju,qjt,qnN,qhe,qeS]⟩)
  (fun _ i hi=>by
   have hw:=qao (n:=i) (by omega);have hi2:i<ks'.length:=by omega
   have hs:=hsame _ _ (qaH hi) (qaH hi2);have hc:=hrec _ _ (qaH hi) (qaH hi2);unfold qml qeS
   by_cases h0:T.cmp (tAt ks i) (tAt ks' i)=0
   ·rw[h0]at hs⊢
    simp only[ne_eq,not_true_eq_false,if_false];refine⟨_,by simp[qCE,qnW,qnV,qnU,qnT,qnS,qnR,qnQ,qnP,qnO,qju,qjt,qnN,qhe,hi,hi2,hw,cut,qaF hi,qaF hi2,hs];rfl,?_⟩;simp[qag,qad]
   ·simp only[ne_eq,h0,not_false_eq_true,if_true]
    have h0':(T.cmp (tAt ks i) (tAt ks' i)==0)=false:=by simp[h0]
    rw[h0']at hs;refine⟨by simp,?_⟩;simp[qCE,qnW,qnV,qnU,qnT,qnS,qnR,qnQ,qnP,qnO,qju,qjt,qnN,qhe,hi,hi2,hw,cut,qaF hi,qaF hi2,hs,hc])
  ks.length () 0 ⟨[(2,.ptr 0 0),(3,.ptr 1 0),(5,.d (.int .i64 0))],qeS f v ks f v ks'⟩ (by omega) (by simp[qag,qad,qeS])
 rw[qLU ks ks' c3 _ _ (by omega)]at h;simp only[List.drop_zero,qeS,qaj]at h;simp[v84,qnW,qnV,qnU,qnT,qnS,qnR,qnQ,qnP,qnO,qju,qjt,qnN,qhe,c3];rw[c3]at h;rw[h]
 by_cases h0:T.cmps ks ks'=0<;>simp[h0,v84,qnW,qnV,qnU,qnT,qnS,qnR,qnQ,qnP,qnO,qju,qjt,qnN,qhe]
theorem qe0(a b:T)(ha:a.inner<=1099511627776)(hb:b.inner<=1099511627776):qaf XV 84 [.d (a.enc .sub),.d (b.enc .sub)] []=some (.d (.bool (decide (T.cmp a b<0))),[]):=by
 match a,b,ha,hb with
 | .node f v ks,.node f' v' ks',ha,hb=>
  simp only[T.inner]at ha hb;exact qnH f v ks f' v' ks' (by omega) (by omega) (fun s s' hs hs'=>qgN s s' (by have:=T.qaG hs;omega) (by have:=T.qaG hs';omega)) (fun s s' hs hs'=>qe0 s s' (by have:=T.qaG hs;omega) (by have:=T.qaG hs';omega))
termination_by a
decreasing_by
 simp_wf
 have:=List.sizeOf_lt_of_mem hs;omega
end Go.Proofs.Ytfiakfiocdfpbaa.VS
namespace Go.Proofs.Ytfiakfiocdfpbaa.VS
def qdW(l:List SymL)(f v:Int)(n:Nat):Bool:=
 if qdq l f=true then
  if v=0 then(if(qaw l f.toNat).ac=true then decide ((n:Int)<2)else !decide ((n:Int)=(qaw l f.toNat).arity))
  else true
 else true
def qdU(l:List SymL)(f:Int)(ks:List T)(i:Nat):Bool:=
 if(qaw l f.toNat).ac=true then(if(tAt ks i).f=f then true else if i=0 then false else decide (T.cmp (tAt ks i) (tAt ks (i-1))<0))else false
mutual
def T.form(l:List SymL):T->Bool
 | .node f v ks=>
  if f= -1 then inB v 0 99&&decide (ks.length=0)
  else if qdW l f v ks.length=true then false
  else(qaD (fun i=> !((T.forms l ks)[i]?).getD false||qdU l f ks i) ks.length 0).isNone
def T.forms(l:List SymL):List T->List Bool
 | []=>[]
 |t::r=>T.form l t::T.forms l r
end
theorem T.qrq(l:List SymL):∀ks:List T,T.forms l ks=ks.map (T.form l)
 | []=>by simp[T.forms]
 |t::r=>by simp[T.forms,T.qrq l r]
theorem T.qoR(l:List SymL)(ks:List T)(i:Nat)(hi:i<ks.length):((T.forms l ks)[i]?).getD false=T.form l (tAt ks i):=by
 rw[T.qrq];simp[qrM hi]
theorem qN5(l:List SymL)(hs:l.length<=1099511627776)(f v:Int)(ks:List T):qau XV (XV.lin 78) (.region true 0 [0,3,62] qEF) ⟨[(0,.d (sg l)),(3,.ptr 0 0),(8,.d (.bool false))],qa3 f v ks⟩=some (.normal,⟨[(0,.d (sg l)),(3,.ptr 0 0),(62,.d (.bool (qdW l f v ks.length)))],qa3 f v ks⟩):=by
 have hsy:=qor l hs f;unfold qdW qa3;cases c1:qdq l f with
 |false=>rw[c1]at hsy;simp[qB6,hsy]
 |true=>
  rw[c1]at hsy;obtain⟨g1,g2⟩:=qcZ c1
  by_cases c2:v=0
  ·cases c3:(qaw l f.toNat).ac with
   |true=>simp[qB6,hsy,c2,g1,g2,qax g2,cut,c3]
   |false=>
    by_cases c4:(ks.length:Int)=(qaw l f.toNat).arity
    ·simp[qB6,hsy,c2,g1,g2,qax g2,cut,c3,c4]
    ·have b4:((ks.length:Int) !=(qaw l f.toNat).arity)=true:=by simp[c4]
     simp[qB6,hsy,c2,g1,g2,qax g2,cut,c3,c4,b4]
  ·have b2:(v !=0)=true:=by simp[c2]
   simp[qB6,hsy,c2,b2]
theorem qN4(l:List SymL)(hs:l.length<=1099511627776)(f v:Int)(ks:List T):qau XV (XV.lin 83) (.region true 0 [0,3,64] qEA) ⟨[(0,.d (sg l)),(3,.ptr 0 0),(8,.d (.bool false))],qa3 f v ks⟩=some (.normal,⟨[(0,.d (sg l)),(3,.ptr 0 0),(64,.d (.bool (qdW l f v ks.length)))],qa3 f v ks⟩):=by
 have hsy:=qfN f 0 (l.length-1);have hw:IntKind.i64.wrap ((l.length:Int)-1)=l.length-1:=wrap_i64 (by omega) (by omega);unfold qdW qa3;cases c1:qdq l f with
 |false=>unfold qdq at c1;rw[c1]at hsy;simp[qB4,hsy,hw]
 |true=>
  obtain⟨g1,g2⟩:=qcZ c1;unfold qdq at c1;rw[c1]at hsy
  by_cases c2:v=0
  ·cases c3:(qaw l f.toNat).ac with
   |true=>simp[qB4,hsy,hw,c2,g1,g2,qax g2,cut,c3]
   |false=>
    by_cases c4:(ks.length:Int)=(qaw l f.toNat).arity
    ·simp[qB4,hsy,hw,c2,g1,g2,qax g2,cut,c3,c4]
    ·have b4:((ks.length:Int) !=(qaw l f.toNat).arity)=true:=by simp[c4]
     simp[qB4,hsy,hw,c2,g1,g2,qax g2,cut,c3,c4,b4]
  ·have b2:(v !=0)=true:=by simp[c2]
   simp[qB4,hsy,hw,c2,b2]
theorem qRM(l:List SymL)(hs:l.length<=1099511627776)(f v:Int)(ks:List T)(hf:qdq l f=true)(i:Nat)(hi:i<ks.length)(hl:ks.length<=1099511627776)
 (hbef:∀s s',s∈ks->s'∈ks->qaf XV 79 [.d (s.enc .sub),.d (s'.enc .sub)] []=some (.d (.bool (decide (T.cmp s s'<0))),[]))
 (hrec:qaf XV 78 [.d (sg l),.d ((tAt ks i).enc .sub)] []=some (.d (.bool (T.form l (tAt ks i))),[])):
 qau XV (XV.lin 78) (.region true 0 [0,3,64,65,66,103] qED) ⟨[(0,.d (sg l)),(3,.ptr 0 0),(5,.d (.int .i64 i)),(6,.ptr 1 0),(64,.d (qaj .sub ks)),(65,.d (.int .i64 ks.length)),(66,.d (.int .i64 i))],qa3 f v ks++[some [.d (.int .i64 (tAt ks i).f),.d (.int .i64 (tAt ks i).v),.d (qaj .sub (tAt ks i).kids)]]⟩=
  some (.normal,⟨[(0,.d (sg l)),(3,.ptr 0 0),(64,.d (qaj .sub ks)),(65,.d (.int .i64 ks.length)),(66,.d (.int .i64 i)),(103,.d (.bool (!T.form l (tAt ks i)||qdU l f ks i)))],qa3 f v ks++[some [.d (.int .i64 (tAt ks i).f),.d (.int .i64 (tAt ks i).v),.d (qaj .sub (tAt ks i).kids)]]⟩):=by
 obtain⟨g1,g2⟩:=qcZ hf;unfold qa3 qdU;cases c1:T.form l (tAt ks i)with
 |false=>rw[c1]at hrec;simp[qB5,hrec]
 |true=>
  rw[c1]at hrec;cases c2:(qaw l f.toNat).ac with
  |false=>simp[qB5,hrec,g1,g2,qax g2,c2,cut]
  |true=>
   by_cases c3:(tAt ks i).f=f
   ·have b3:((tAt ks i).f==f)=true:=by simp[c3]
    simp[qB5,hrec,g1,g2,qax g2,c2,b3,cut];simp[c3]
   ·have b3:((tAt ks i).f==f)=false:=by simp[c3]
    by_cases c4:i=0
    ·subst c4;simp[qB5,hrec,g1,g2,qax g2,c2,c3,b3,cut]
    ·obtain⟨j,rfl⟩:∃j,i=j+1:=⟨i-1,by omega⟩
     have hj:j<ks.length:=by omega
     have hb:=hbef _ _ (qaH hi) (qaH hj);have hw:IntKind.i64.wrap (j:Int)=j:=qjT (by omega);have hpos:(0:Int)<((j+1:Nat):Int):=by omega
     simp only[Int.natCast_add,Int.cast_ofNat_Int]at hpos;simp[qB5,hrec,g1,g2,qax g2,c2,c3,b3,hw,hpos,hj,qaF hj,cut,hb]
theorem qBz(l:List SymL)(hs:l.length<=1099511627776)(f v:Int)(ks:List T)(hl:ks.length<=1099511627776)
 (hbef:∀s s',s∈ks->s'∈ks->qaf XV 79 [.d (s.enc .sub),.d (s'.enc .sub)] []=some (.d (.bool (decide (T.cmp s s'<0))),[]))
 (hrec:∀s,s∈ks->qaf XV 78 [.d (sg l),.d (s.enc .sub)] []=some (.d (.bool (T.form l s)),[])):
 qaf XV 78 [.d (sg l),.d ((T.node f v ks).enc .sub)] []=some (.d (.bool (T.form l (.node f v ks))),[]):=by
 rw[qap XV _ _ _ v78 rfl qDu rfl];have hv:=qj3 (.node f v ks);have hin:=qis v 0 99;simp only[T.qcj]at hv
 by_cases c1:f= -1
 ·have hform:T.form l (.node f v ks)=(inB v 0 99&&decide (ks.length=0)):=by simp[T.form,c1]
  rw[hform];subst c1;simp only[BEq.rfl]at hv;cases c2:inB v 0 99 with
  |false=>rw[c2]at hin;simp[v78,qv0,qvZ,qvY,hv,hin]
  |true=>
   rw[c2]at hin
   by_cases c3:ks.length=0
   ·simp[v78,qv0,qvZ,qvY,hv,hin,c3]
   ·have b3:((ks.length:Int)==0)=false:=by simp;exact fun h=>c3 (by simp[h])
    simp[v78,qv0,qvZ,qvY,hv,hin,b3];exact fun h=>c3 (by simp[h])
 have b1:(f== -1)=false:=by simp[c1]
 rw[b1]at hv;have hh:=qN5 l hs f v ks;simp only[qa3,qaj,qA1]at hh;cases c2:qdW l f v ks.length with
 |true=>
  have hform:T.form l (.node f v ks)=false:=by simp[T.form,c1,c2]
  rw[hform];rw[c2]at hh;simp[v78,qv0,qvZ,qvY,hv,qIV];rw[hh];simp
 |false=>
  have hsy:qdq l f=true:=by
   unfold qdW at c2
   by_cases h:qdq l f=true
   ·exact h
   ·rw[if_neg h]at c2;simp at c2
  have hform:T.form l (.node f v ks)=(qaD (fun i=> !T.form l (tAt ks i)||qdU l f ks i) ks.length 0).isNone:=by
   have e:qaD (fun i=> !((T.forms l ks)[i]?).getD false||qdU l f ks i) ks.length 0=qaD (fun i=> !T.form l (tAt ks i)||qdU l f ks i) ks.length 0:=by
    have key:∀(k i:Nat),i+k=ks.length->qaD (fun i=> !((T.forms l ks)[i]?).getD false||qdU l f ks i) k i=qaD (fun i=> !T.form l (tAt ks i)||qdU l f ks i) k i:=by
     intro k
     induction k with
     |zero=>intro i _;rfl
     |succ k ih=>
      intro i h;simp only[qaD];simp only[T.qoR l ks i (by omega),ih (i+1) (by omega)]
    exact key _ _ (by omega)
   rw[<-e];simp[T.form,c1,c2]
  rw[hform];rw[c2]at hh;have h:=qat (X:=XV) (T:=XV.lin 78) (L:=1) (live:=[0,3,64,65,66]) (b:=qCG) (n:=ks.length) (γ:=Nat) (st:=fun(_:Unit) i=>⟨[(0,.d (sg l)),(3,.ptr 0 0),(64,.d (qaj .sub ks)),(65,.d (.int .i64 ks.length)),(66,.d (.int .i64 i))],qa3 f v ks⟩) (step:=qcD fun i=> !T.form l (tAt ks i)||qdU l f ks i)
   (F:=fun _=>(.exit 0,⟨[(0,.d (sg l)),(3,.ptr 0 0),(64,.d (qaj .sub ks)),(65,.d (.int .i64 ks.length)),(66,.d (.int .i64 ks.length)),(67,.d (.bool false))],qa3 f v ks⟩)) (R:=fun j=>(.ret,⟨[(4,.d (.bool false))],qa3 f v ks++[some [.d (.int .i64 (tAt ks j).f),.d (.int .i64 (tAt ks j).v),.d (qaj .sub (tAt ks j).kids)]]⟩))
   (fun a=>⟨by simp,by simp[qCG,qEE]⟩)
   (fun a i hi=>by
    have hw:=qao (n:=i) (by omega);have hk:=qRM l hs f v ks hsy i hi hl hbef (hrec _ (qaH hi));unfold qcD;simp only[qa3,qaj,List.cons_append,List.nil_append,qA1]at hk
    by_cases hq:(!T.form l (tAt ks i)||qdU l f ks i)=true
    ·rw[if_pos hq]
     rw[hq]at hk;refine⟨by simp,?_⟩;simp[qCG,qEE,qIU,qIT,qzA,hi,hw,cut,qaF hi,qa3,splice];rw[hk];simp
    ·rw[if_neg hq]
     have hq':(!T.form l (tAt ks i)||qdU l f ks i)=false:=by simpa using hq
     rw[hq']at hk;refine⟨⟨[(0,.d (sg l)),(3,.ptr 0 0),(64,.d (qaj .sub ks)),(65,.d (.int .i64 ks.length)),(66,.d (.int .i64 (i+1:Nat)))],qa3 f v ks++[some [.d (.int .i64 (tAt ks i).f),.d (.int .i64 (tAt ks i).v),.d (qaj .sub (tAt ks i).kids)]]⟩,?_,by simp[qag,qad,qa3]⟩;simp[qCG,qEE,qIU,qIT,qzA,hi,hw,cut,qaF hi,qa3,splice];rw[hk];simp[hw])
   ks.length () 0 ⟨[(0,.d (sg l)),(3,.ptr 0 0),(64,.d (qaj .sub ks)),(65,.d (.int .i64 ks.length)),(66,.d (.int .i64 0))],qa3 f v ks⟩ (by omega) (by simp[qag,qad,qa3])
  rw[qr0]at h;simp only[qa3,qaj,List.cons_append,List.nil_append,qA1]at h;simp[v78,qv0,qvZ,qvY,hv,qIV,qL2];rw[hh];simp;rw[h];cases hq:qaD (fun i=> !T.form l (tAt ks i)||qdU l f ks i) ks.length 0<;>simp[qGf]
theorem qBy(l:List SymL)(f v:Int)(ks:List T)(c1:f≠-1)(c2:qdW l f v ks.length=false):T.form l (.node f v ks)=(qaD (fun i=> !T.form l (tAt ks i)||qdU l f ks i) ks.length 0).isNone:=by
 have e:qaD (fun i=> !((T.forms l ks)[i]?).getD false||qdU l f ks i) ks.length 0=qaD (fun i=> !T.form l (tAt ks i)||qdU l f ks i) ks.length 0:=by
  have key:∀(k i:Nat),i+k=ks.length->qaD (fun i=> !((T.forms l ks)[i]?).getD false||qdU l f ks i) k i=qaD (fun i=> !T.form l (tAt ks i)||qdU l f ks i) k i:=by
   intro k
   induction k with
   |zero=>intro i _;rfl
   |succ k ih=>
    intro i h;simp only[qaD];simp only[T.qoR l ks i (by omega),ih (i+1) (by omega)]
  exact key _ _ (by omega)
 rw[<-e];simp[T.form,c1,c2]
theorem qqD(l:List SymL)(hs:l.length<=1099511627776)(t:T)(ht:t.inner<=1099511627776):qaf XV 78 [.d (sg l),.d (t.enc .sub)] []=some (.d (.bool (T.form l t)),[]):=by
 match t,ht with
 | .node f v ks,ht=>
  simp only[T.inner]at ht;exact qBz l hs f v ks (by omega) (fun s s' h h'=>qow s s' (by have:=T.qaG h;omega) (by have:=T.qaG h';omega)) (fun s h=>qqD l hs s (by have:=T.qaG h;omega))
termination_by t
decreasing_by
 simp_wf
 have:=List.sizeOf_lt_of_mem h;omega
theorem qRL(l:List SymL)(hs:l.length<=1099511627776)(f v:Int)(ks:List T)(hf:qdq l f=true)(i:Nat)(hi:i<ks.length)(hl:ks.length<=1099511627776)
 (hbef:∀s s',s∈ks->s'∈ks->qaf XV 84 [.d (s.enc .sub),.d (s'.enc .sub)] []=some (.d (.bool (decide (T.cmp s s'<0))),[]))
 (hrec:qaf XV 83 [.d (sg l),.d ((tAt ks i).enc .sub)] []=some (.d (.bool (T.form l (tAt ks i))),[])):
 qau XV (XV.lin 83) (.region true 0 [0,3,5,116] qEy) ⟨[(0,.d (sg l)),(3,.ptr 0 0),(5,.d (.int .i64 i)),(69,.d (.bool true))],qa3 f v ks⟩=
  some (.normal,⟨[(0,.d (sg l)),(3,.ptr 0 0),(5,.d (.int .i64 i)),(116,.d (.bool (!T.form l (tAt ks i)||qdU l f ks i)))],qa3 f v ks⟩):=by
 obtain⟨g1,g2⟩:=qcZ hf;unfold qa3 qdU;cases c2:(qaw l f.toNat).ac with
 |false=>
  cases c1:T.form l (tAt ks i)with
  |false=>rw[c1]at hrec;simp[qq1,hrec,g1,g2,qax g2,c2,cut,hi,qaF hi]
  |true=>rw[c1]at hrec;simp[qq1,hrec,g1,g2,qax g2,c2,cut,hi,qaF hi]
 |true=>
  by_cases c3:(tAt ks i).f=f
  ·have b3:((tAt ks i).f==f)=true:=by simp[c3]
   simp[qq1,g1,g2,qax g2,c2,b3,cut,hi,qaF hi];simp[c3]
  ·have b3:((tAt ks i).f==f)=false:=by simp[c3]
   by_cases c4:i=0
   ·subst c4
    cases c1:T.form l (tAt ks 0)with
    |false=>rw[c1]at hrec;simp[qq1,hrec,g1,g2,qax g2,c2,c3,b3,cut,hi,qaF hi]
    |true=>rw[c1]at hrec;simp[qq1,hrec,g1,g2,qax g2,c2,c3,b3,cut,hi,qaF hi]
   ·obtain⟨j,rfl⟩:∃j,i=j+1:=⟨i-1,by omega⟩
    have hj:j<ks.length:=by omega
    have hb:=hbef _ _ (qaH hi) (qaH hj);have hw:IntKind.i64.wrap (j:Int)=j:=qjT (by omega);have hpos:(0:Int)<((j+1:Nat):Int):=by omega
    have hnat:(((j+1:Nat):Int)).toNat=j+1:=by omega
    simp only[Int.natCast_add,Int.cast_ofNat_Int]at hpos hnat;have hnn:(0:Int)<=(j:Int)+1:=by omega
    by_cases c5:T.cmp (tAt ks (j+1)) (tAt ks j)<0
    ·simp only[c5,decide_true]at hb
     simp[qq1,g1,g2,qax g2,c2,c3,b3,hw,hpos,hnat,hnn,hj,hi,qaF hj,qaF hi,cut,hb,c5]
    ·simp only[c5,decide_false]at hb
     cases c1:T.form l (tAt ks (j+1))with
     |false=>rw[c1]at hrec;simp[qq1,hrec,g1,g2,qax g2,c2,c3,b3,hw,hpos,hnat,hnn,hj,hi,qaF hj,qaF hi,cut,hb,c5]
     |true=>rw[c1]at hrec;simp[qq1,hrec,g1,g2,qax g2,c2,c3,b3,hw,hpos,hnat,hnn,hj,hi,qaF hj,qaF hi,cut,hb,c5]
theorem qwD(l:List SymL)(hs:l.length<=1099511627776)(f v:Int)(ks:List T)(hl:ks.length<=1099511627776)
 (hbef:∀s s',s∈ks->s'∈ks->qaf XV 84 [.d (s.enc .sub),.d (s'.enc .sub)] []=some (.d (.bool (decide (T.cmp s s'<0))),[]))
 (hrec:∀s,s∈ks->qaf XV 83 [.d (sg l),.d (s.enc .sub)] []=some (.d (.bool (T.form l s)),[])):
 qaf XV 83 [.d (sg l),.d ((T.node f v ks).enc .sub)] []=some (.d (.bool (T.form l (.node f v ks))),[]):=by
 rw[qap XV _ _ _ v83 rfl qDp rfl];have hin:=qfN v 0 99
 by_cases c1:f= -1
 ·have hform:T.form l (.node f v ks)=(inB v 0 99&&decide (ks.length=0)):=by simp[T.form,c1]
  rw[hform];subst c1;cases c2:inB v 0 99 with
  |false=>rw[c2]at hin;simp[v83,qvX,qvW,qvV,hin]
  |true=>
   rw[c2]at hin
   by_cases c3:ks.length=0
   ·simp[v83,qvX,qvW,qvV,hin,c3]
   ·have b3:((ks.length:Int)==0)=false:=by simp;exact fun h=>c3 (by simp[h])
    simp[v83,qvX,qvW,qvV,hin,b3];exact fun h=>c3 (by simp[h])
 have b1:(f== -1)=false:=by simp[c1]
 have hh:=qN4 l hs f v ks;simp only[qa3,qaj,qA0]at hh;cases c2:qdW l f v ks.length with
 |true=>
  have hform:T.form l (.node f v ks)=false:=by simp[T.form,c1,c2]
  rw[hform];rw[c2]at hh;simp[v83,qvX,qvW,qvV,b1,qIS];rw[hh];simp
 |false=>
  have hsy:qdq l f=true:=by
   unfold qdW at c2
   by_cases h:qdq l f=true
   ·exact h
   ·rw[if_neg h]at c2;simp at c2
  rw[qBy l f v ks c1 c2];rw[c2]at hh;have h:=qat (X:=XV) (T:=XV.lin 83) (L:=1) (live:=[0,3,5]) (b:=qCF) (n:=ks.length) (γ:=Nat) (st:=fun(_:Unit) i=>⟨[(0,.d (sg l)),(3,.ptr 0 0),(5,.d (.int .i64 i))],qa3 f v ks⟩) (step:=qcD fun i=> !T.form l (tAt ks i)||qdU l f ks i)
   (F:=fun _=>(.exit 0,⟨[(0,.d (sg l)),(3,.ptr 0 0),(5,.d (.int .i64 ks.length)),(69,.d (.bool false))],qa3 f v ks⟩)) (R:=fun j=>(.ret,⟨[(4,.d (.bool false))],qa3 f v ks⟩))
   (fun a=>⟨by simp,by simp[qCF,qEz,qa3]⟩)
   (fun a i hi=>by
    have hw:=qao (n:=i) (by omega);have hk:=qRL l hs f v ks hsy i hi hl hbef (hrec _ (qaH hi));unfold qcD;simp only[qa3,qaj,List.cons_append,List.nil_append,qA0]at hk
    by_cases hq:(!T.form l (tAt ks i)||qdU l f ks i)=true
    ·rw[if_pos hq]
     rw[hq]at hk;refine⟨by simp,?_⟩;simp[qCF,qEz,qIR,qIQ,hi,hw,cut,qaF hi,qa3,splice];rw[hk];simp
    ·rw[if_neg hq]
     have hq':(!T.form l (tAt ks i)||qdU l f ks i)=false:=by simpa using hq
     rw[hq']at hk;refine⟨⟨[(0,.d (sg l)),(3,.ptr 0 0),(5,.d (.int .i64 (i+1:Nat)))],qa3 f v ks⟩,?_,by simp[qag,qad,qa3]⟩;simp[qCF,qEz,qIR,qIQ,hi,hw,cut,qaF hi,qa3,splice];rw[hk];simp[hw])
   ks.length () 0 ⟨[(0,.d (sg l)),(3,.ptr 0 0),(5,.d (.int .i64 0))],qa3 f v ks⟩ (by omega) (by simp[qag,qad,qa3])
  rw[qr0]at h;simp only[qa3,qaj,List.cons_append,List.nil_append,qA0]at h;simp[v83,qvX,qvW,qvV,b1,qIS,qLZ];rw[hh];simp;rw[h];cases hq:qaD (fun i=> !T.form l (tAt ks i)||qdU l f ks i) ks.length 0<;>simp[qGe]
theorem qmY(l:List SymL)(hs:l.length<=1099511627776)(t:T)(ht:t.inner<=1099511627776):qaf XV 83 [.d (sg l),.d (t.enc .sub)] []=some (.d (.bool (T.form l t)),[]):=by
 match t,ht with
 | .node f v ks,ht=>
  simp only[T.inner]at ht;exact qwD l hs f v ks (by omega) (fun s s' h h'=>qe0 s s' (by have:=T.qaG h;omega) (by have:=T.qaG h';omega)) (fun s h=>qmY l hs s (by have:=T.qaG h;omega))
termination_by t
decreasing_by
 simp_wf
 have:=List.sizeOf_lt_of_mem h;omega
mutual
theorem qrN:∀t:T,T.sum (fun _=>1) t=t.inner+1
 | .node f v ks=>by simp only[T.sum,T.inner];rw[qtu ks];push_cast;omega
theorem qtu:∀l:List T,T.sums (fun _=>1) l=T.inners l+l.length
 | []=>by simp[T.sums,T.inners]
 |t::r=>by simp only[T.sums,T.inners,List.length_cons];rw[qrN t,qtu r];push_cast;omega
end
theorem qqg(t:T)(ht:t.inner<=1099511627776):IntKind.i64.wrap (T.sum (fun _=>1) t)=(t.inner+1:Nat):=by
 rw[qrN];exact qjT (n:=t.inner+1) (by omega)
def qdA(l:List SymL)(t:T):Bool:=qkq l&&(decide (t.inner+1<=60)&&T.form l t)
theorem qot(l:List SymL)(hs:l.length<=1099511627776)(hn:∀i,i<l.length->(qaw l i).name.size<=1099511627776)(t:T)(ht:t.inner<=1099511627776):qaf XV 70 [.d (sg l),.d (t.enc .sub)] []=some (.d (.bool (qdA l t)),[]):=by
 rw[qap XV _ _ _ v70 rfl qDC rfl];have h1:=qqy l hs hn;have h2:=qqz t ht;rw[qqg t ht]at h2;have h3:=qqD l hs t ht;unfold qdA;cases c1:qkq l with
 |false=>rw[c1]at h1;simp[v70,qEK,qEJ,h1]
 |true=>
  rw[c1]at h1
  by_cases c2:t.inner+1<=60
  ·have c2':(((t.inner+1:Nat):Int))<=60:=by omega
   simp only[Int.natCast_add,Int.cast_ofNat_Int]at c2';simp[v70,qEK,qEJ,h1,h2,h3,c2,c2']
  ·have c2':¬(((t.inner+1:Nat):Int))<=60:=by omega
   simp only[Int.natCast_add,Int.cast_ofNat_Int]at c2';simp[v70,qEK,qEJ,h1,h2,c2,c2']
theorem qnE(l:List SymL)(hs:l.length<=1099511627776)(hn:∀i,i<l.length->(qaw l i).name.size<=1099511627776)(t:T)(ht:t.inner<=1099511627776):qaf XV 80 [.d (sg l),.d (t.enc .sub)] []=some (.d (.bool (qdA l t)),[]):=by
 rw[qap XV _ _ _ v80 rfl qDs rfl];have h1:=qpj l hs hn;have h2:=qiM t ht;rw[qqg t ht]at h2;have h3:=qmY l hs t ht;unfold qdA;cases c1:qkq l with
 |false=>rw[c1]at h1;simp[v80,qEC,qEB,h1]
 |true=>
  rw[c1]at h1
  by_cases c2:t.inner+1<=60
  ·have c2':(((t.inner+1:Nat):Int))<=60:=by omega
   simp only[Int.natCast_add,Int.cast_ofNat_Int]at c2';simp[v80,qEC,qEB,h1,h2,h3,c2,c2']
  ·have c2':¬(((t.inner+1:Nat):Int))<=60:=by omega
   simp only[Int.natCast_add,Int.cast_ofNat_Int]at c2';simp[v80,qEC,qEB,h1,h2,c2,c2']
end Go.Proofs.Ytfiakfiocdfpbaa.VS
