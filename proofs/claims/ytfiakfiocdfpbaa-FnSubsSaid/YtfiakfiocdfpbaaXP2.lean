/- Contracts of the program's functions on the evaluator without names, and plain lemmas: part 2. -/
import Derived.Test.YtfiakfiocdfpbaaXP1
set_option linter.unusedSimpArgs false
set_option linter.unusedVariables false
namespace Go.Proofs.Ytfiakfiocdfpbaa.VS
structure Bd where
 v:Int
 t:T
def Bd.enc(g:Tag)(b:Bd):DV:= .agg [.int .i64 b.v,.int .i64 b.t.f,.int .i64 b.t.v,qaj g b.t.kids]
def Bd.ok(b:Bd):Prop:=(-9223372036854775808<=b.v/\b.v<=9223372036854775807)/\b.t.ok
abbrev binds(g:Tag)(l:List Bd):DV:= .sl g (l.map (Bd.enc g))
@[simp] theorem Bd.qrs(g:Tag)(x:Bd):(x.enc g).cells=[.int .i64 x.v,.int .i64 x.t.f,.int .i64 x.t.v,qaj g x.t.kids]:=rfl
@[simp] theorem Bd.qnu(g:Tag)(x:Bd):(AV.d (x.enc g)).cells=[.d (.int .i64 x.v),.d (.int .i64 x.t.f),.d (.int .i64 x.t.v),.d (qaj g x.t.kids)]:=rfl
@[simp] theorem Bd.qnt(g:Tag)(x:Bd):(x.enc g).isCell=false:=rfl
@[simp] theorem Bd.qOY(g:Tag)(x:Bd):isAgg (x.enc g)=true:=rfl
@[simp] theorem Bd.qf7(g:Tag)(x:Bd):(x.enc g).clr=x.enc .sub:=by
 simp only[Bd.enc,DV.clr,DV.clrs,qaj,DV.qam,qbz]
@[simp high] theorem Bd.qfp(g:Tag)(l:List Bd):(l.map (Bd.enc g)).map DV.clr=l.map (Bd.enc .sub):=by simp[List.map_map,Function.comp_def]
@[simp] theorem Bd.agg_enc(g:Tag)(x:Bd):DV.agg [.int .i64 x.v,.int .i64 x.t.f,.int .i64 x.t.v,qaj g x.t.kids]=x.enc g:=rfl
def bAt(l:List Bd)(i:Nat):Bd:=(l[i]?).getD ⟨0,.node 0 0 []⟩
theorem qaP{l:List Bd}{i:Nat}(h:i<l.length):l[i]=bAt l i:=by simp[bAt,h]
theorem qcF{l:List Bd}{i:Nat}(h:i<l.length):bAt l i∈l:=by rw[<-qaP h];exact List.getElem_mem h
def qcJ(l:List Bd):Nat:=l.length+qtv (fun i=>(bAt l i).t.inner) 0 l.length
theorem qCw(l:List Bd)(i:Nat)(hi:i<l.length):(bAt l i).t.inner<=qcJ l:=by
 have:=qy0 (fun i=>(bAt l i).t.inner) l.length 0 i (Nat.zero_le _) (by omega);unfold qcJ;omega
end Go.Proofs.Ytfiakfiocdfpbaa.VS
namespace Go.Proofs.Ytfiakfiocdfpbaa.VS
end Go.Proofs.Ytfiakfiocdfpbaa.VS
namespace Go.Proofs.Ytfiakfiocdfpbaa.VS
theorem qeQ(a c:List T)(g:Tag)(h:(a.length+c.length)*40<=140737488355328):qaS 3 40 (.sl U (a.map (T.enc U))) (.sl g (c.map (T.enc U)))=some (.sl U ((a++c).map (T.enc U))):=by
 have h1:(c.map (T.enc U)).all (fun e=>decide (e.cells.length=3/\e.cells.all DV.isCell=true))=true:=by
  simp[qaa,qab]
 have h2:(a.map (T.enc U)).all (fun e=>decide (e.cells.length=3))=true:=by simp
 unfold qaS;simp only;rw[if_pos h1];cases c with
 |nil=>simp
 |cons x r=>
  simp only[List.map_cons,List.isEmpty_cons,Bool.false_eq_true,if_false];rw[if_pos ⟨by simpa using h,trivial,h2⟩];simp
theorem qvd(l:List T)(i:Nat)(h:i<l.length)(hl:l.length<=1099511627776):qaS 3 40 (.sl U ((l.take i).map (T.enc U))) (.sl U [(tAt l i).enc U])=some (.sl U ((l.take (i+1)).map (T.enc U))):=by
 have:=qeQ (l.take i) [tAt l i] U (by simp;omega);rw[qeE l i h];exact this
theorem qA7(f v:Int)(ks:List T)(hl:ks.length<=1099511627776)(hc:∀t,t∈ks->qaf XV 146 [.d (t.enc .sub)] []=some (.d (t.enc U),[])):
 qaf XV 146 [.d ((T.node f v ks).enc .sub)] []=some (.d ((T.node f v ks).enc U),[]):=by
 rw[qap XV _ _ _ qIr rfl qyr rfl];have hloop:=qat (X:=XV) (T:=XV.lin 146) (L:=3) (live:=[1,2,3,4]) (b:=qvc) (n:=ks.length) (γ:=Unit) (st:=fun(_:Unit) i=>⟨[(1,.ptr 0 0),(2,.ptr 1 0),(3,.ptr 2 0),(4,.d (.int .i64 i))],[some [.d (.int .i64 f),.d (.int .i64 v),.d (qaj .sub ks)],some [.d (.int .i64 0),.d (.int .i64 0),.d (.sl U [])],some [.d (.int .i64 f),.d (.int .i64 v),.d (.sl U ((ks.take i).map (T.enc U)))]]⟩) (step:=fun _ _=> .inl ())
  (F:=fun _=>(.exit 0,⟨[(1,.ptr 0 0),(2,.ptr 1 0),(3,.ptr 2 0),(4,.d (.int .i64 ks.length)),(14,.d (.bool false))],[some [.d (.int .i64 f),.d (.int .i64 v),.d (qaj .sub ks)],some [.d (.int .i64 0),.d (.int .i64 0),.d (.sl U [])],some [.d (.int .i64 f),.d (.int .i64 v),.d (.sl U ((ks.take ks.length).map (T.enc U)))]]⟩)) (R:=fun _=>(.ret,⟨[],[]⟩))
  (fun _=>⟨by simp,by simp[qvc,qqc,qqb,qqa,qp9,quY,qp8,qp7]⟩)
  (fun _ i hi=>by
   have hw:=qao (n:=i) (by omega);have hc':=hc _ (qaH hi);have ha:=qvd ks i hi hl;generalize hl2:(ks.take (i+1)).map (T.enc U)=l2 at ha;generalize (ks.take i).map (T.enc U)=l1 at ha⊢
   exact⟨⟨[(1,.ptr 0 0),(2,.ptr 1 0),(3,.ptr 2 0),(4,.d (.int .i64 (i+1:Nat)))],[some [.d (.int .i64 f),.d (.int .i64 v),.d (qaj .sub ks)],some [.d (.int .i64 0),.d (.int .i64 0),.d (.sl U [])],some [.d (.int .i64 f),.d (.int .i64 v),.d (.sl U l2)]]⟩,by simp[qvc,qqc,qqb,qqa,qp9,quY,qp8,qp7,hi,hw,cut,qaF hi,hc',ha,splice,AV.qam,qaa,qab,qac,qai],by simp[qag,qad,<-hl2]⟩)
  ks.length () 0 ⟨[(1,.ptr 0 0),(2,.ptr 1 0),(3,.ptr 2 0),(4,.d (.int .i64 0))],[some [.d (.int .i64 f),.d (.int .i64 v),.d (qaj .sub ks)],some [.d (.int .i64 0),.d (.int .i64 0),.d (.sl U [])],some [.d (.int .i64 f),.d (.int .i64 v),.d (.sl U [])]]⟩ (by omega) (by simp[qag,qad])
 rw[qg7,List.take_length]at hloop;simp only[qJH,qaj]at hloop;simp[qIr,qqc,qqb,qqa,qp9,quY,qp8,qp7,splice,qaa,qab,qac,qai,qae];rw[hloop];simp[qIr,qqc,qqb,qqa,qp9,quY,qp8,qp7,splice,qaa,qab,qac,qai,qae]
theorem qlz(t:T)(ht:t.inner<=1099511627776):qaf XV 146 [.d (t.enc .sub)] []=some (.d (t.enc U),[]):=by
 match t,ht with
 | .node f v ks,ht=>
  simp only[T.inner]at ht;exact qA7 f v ks (by omega) fun s hs=>qlz s (by have:=T.qaG hs;omega)
termination_by t
decreasing_by
 simp_wf
 have:=List.sizeOf_lt_of_mem hs;omega
theorem qq3(ks:List T)(hl:ks.length<=1099511627776)(hc:∀t,t∈ks->qaf XV 150 [.d (t.enc .sub)] []=some (.d (t.enc U),[])):
 qaf XV 151 [.d (qaj .sub ks)] []=some (.d (qaj U ks),[]):=by
 rw[qap XV _ _ _ qKR rfl qym rfl];have hloop:=qat (X:=XV) (T:=XV.lin 151) (L:=0) (live:=[3,7,8,9]) (b:=qvb) (n:=ks.length) (γ:=Unit) (st:=fun(_:Unit) i=>⟨[(3,.d (.sl U ((ks.take i).map (T.enc U)))),(7,.d (qaj .sub ks)),(8,.d (.int .i64 ks.length)),(9,.d (.int .i64 i))],[]⟩) (step:=fun _ _=> .inl ())
  (F:=fun _=>(.exit 0,⟨[(3,.d (.sl U ((ks.take ks.length).map (T.enc U)))),(7,.d (qaj .sub ks)),(8,.d (.int .i64 ks.length)),(9,.d (.int .i64 ks.length)),(10,.d (.bool false))],[]⟩)) (R:=fun _=>(.ret,⟨[],[]⟩))
  (fun _=>⟨by simp,by simp[qvb,qt6,qt5,qt4,qAE,qAD,qAC,qAB,qp4]⟩)
  (fun _ i hi=>by
   have hw:=qao (n:=i) (by omega);have hc':=hc _ (qaH hi);have ha:=qvd ks i hi hl;generalize hl2:(ks.take (i+1)).map (T.enc U)=l2 at ha;generalize (ks.take i).map (T.enc U)=l1 at ha⊢
   exact⟨⟨[(3,.d (.sl U l2)),(7,.d (qaj .sub ks)),(8,.d (.int .i64 ks.length)),(9,.d (.int .i64 (i+1:Nat)))],[some [.d (.int .i64 (tAt ks i).f),.d (.int .i64 (tAt ks i).v),.d (qaj .sub (tAt ks i).kids)]]⟩,by simp[qvb,qt6,qt5,qt4,qAE,qAD,qAC,qAB,qp4,hi,hw,cut,qaF hi,hc',ha,splice,qaa,qab,qac,qai,qae],qbX (e:=[some [.d (.int .i64 (tAt ks i).f),.d (.int .i64 (tAt ks i).v),.d (qaj .sub (tAt ks i).kids)]]) (by simp[<-hl2]) (by simp[qad]) (by simp) (by simp)⟩)
  ks.length () 0 ⟨[(3,.d (.sl U [])),(7,.d (qaj .sub ks)),(8,.d (.int .i64 ks.length)),(9,.d (.int .i64 0))],[]⟩ (by omega) (by simp[qag,qad])
 rw[qg7,List.take_length]at hloop;simp only[qJF]at hloop;simp[qKR,qt6,qt5,qt4,qp4];rw[hloop];simp[qp4]
theorem qs3(f v:Int)(ks:List T)(h:qaf XV 151 [.d (qaj .sub ks)] []=some (.d (qaj U ks),[])):qaf XV 150 [.d ((T.node f v ks).enc .sub)] []=some (.d ((T.node f v ks).enc U),[]):=by
 rw[qap XV _ _ _ qKS rfl qyn rfl];simp only[qaj]at h;simp[qKS,qGO,qGN,qGM,h,splice,qaa,qab,qac,qai,qae]
theorem qgW(t:T)(ht:t.inner<=1099511627776):qaf XV 150 [.d (t.enc .sub)] []=some (.d (t.enc U),[]):=by
 match t,ht with
 | .node f v ks,ht=>
  simp only[T.inner]at ht;exact qs3 f v ks (qq3 ks (by omega) fun s hs=>qgW s (by have:=T.qaG hs;omega))
termination_by t
decreasing_by
 simp_wf
 have:=List.sizeOf_lt_of_mem hs;omega
theorem qop(n:Int):qaf XV 147 [.d (.int .i64 n)] []=some (.d ((T.node (-1) n []).enc U),[]):=by
 rw[qap XV _ _ _ qKV rfl qyq rfl];simp[qKV,qGS,qGR,splice,qaa,qab,qac,qai,qae];rw[T.qbF];rfl
theorem qrI(n:Int):qaf XV 149 [.d (.int .i64 n)] []=some (.d ((T.node (-1) n []).enc U),[]):=by
 rw[qap XV _ _ _ qKT rfl qyo rfl];simp[qKT,qGQ,qGP,splice,qaa,qab,qac,qai,qae];rw[T.qbF];rfl
def qdX(l:List Bd)(n:Int):Option Nat:=qaD (fun i=>(bAt l i).v==n) l.length 0
def qeN(l:List Bd)(n:Int):T:=match qdX l n with
 |some i=>(bAt l i).t
 |none=> .node (-1) n []
theorem qkp(l:List Bd)(n:Int)(hl:l.length<=1099511627776)(hb:∀i,i<l.length->(bAt l i).t.inner<=1099511627776):qaf XV 145 [.d (binds .sub l),.d (.int .i64 n)] []=some (.d ((qeN l n).enc U),[]):=by
 rw[qap XV _ _ _ qKW rfl qys rfl];have h:=qat (X:=XV) (T:=XV.lin 145) (L:=1) (live:=[0,1,4,5]) (b:=qri) (n:=l.length) (st:=fun(_:Unit) i=>⟨[(0,.d (binds .sub l)),(1,.d (.int .i64 n)),(4,.ptr 0 0),(5,.d (.int .i64 i))],[some [.d (.int .i64 0),.d (.int .i64 0),.d (.sl U [])]]⟩) (step:=qcD fun i=>(bAt l i).v==n)
  (F:=fun _=>(.exit 0,⟨[(0,.d (binds .sub l)),(1,.d (.int .i64 n)),(4,.ptr 0 0),(5,.d (.int .i64 l.length)),(9,.d (.bool false))],[some [.d (.int .i64 0),.d (.int .i64 0),.d (.sl U [])]]⟩)) (R:=fun(j:Nat)=>(.ret,⟨[(4,.ptr 0 0)],[some [.d (.int .i64 (bAt l j).t.f),.d (.int .i64 (bAt l j).t.v),.d (qaj U (bAt l j).t.kids)]]⟩))
  (fun a=>⟨by simp,by simp[qri,qqe,qqd,quf,qud,quc,que,qlb]⟩)
  (fun a i hi=>by
   have hw:=qao (n:=i) (by omega);have hc:=qlz (bAt l i).t (hb i hi);unfold qcD
   by_cases hq:((bAt l i).v==n)=true
   ·rw[if_pos hq]
    exact⟨by simp,by simp[qri,qqe,qqd,quf,qud,quc,que,qlb,hi,hw,cut,qaP hi,hq,hc,splice,qaa,qab,qac,qai,qae]⟩
   ·rw[if_neg hq]
    have hq':((bAt l i).v==n)=false:=by simpa using hq
    exact⟨_,by simp[qri,qqe,qqd,quf,qud,quc,que,qlb,hi,hw,cut,qaP hi,hq',qaa,qab,qac,qai];rfl,by simp[qag,qad]⟩)
  l.length () 0 ⟨[(0,.d (binds .sub l)),(1,.d (.int .i64 n)),(4,.ptr 0 0),(5,.d (.int .i64 0))],[some [.d (.int .i64 0),.d (.int .i64 0),.d (.sl U [])]]⟩ (by omega) (by simp[qag,qad])
 rw[qr0]at h;simp only[qJI,binds]at h;unfold qeN qdX;simp[qKW,qqe,qqd,qlb];rw[h];have hv:=qop n;cases hq:qaD (fun i=>(bAt l i).v==n) l.length 0 with
 |none=>
  simp[qlb,hv,splice,qaa,qab,qac,qai,qae]
 |some j=>
  simp[qlb,splice,qaa,qab,qac,qai,qae]
theorem qFL(l:List Bd)(n:Int)(hl:l.length<=1099511627776):qaf XV 148 [.d (binds .sub l),.d (.int .i64 n)] []=some (.d (match qdX l n with|some j=> .tup [(bAt l j).t.enc .sub,.bool true]|none=> .tup [(T.node 0 0 []).enc .sub,.bool false]),[]):=by
 rw[qap XV _ _ _ qKU rfl qyp rfl];have h:=qat (X:=XV) (T:=XV.lin 148) (L:=1) (live:=[1,4,8,9,10]) (b:=qrh) (n:=l.length) (st:=fun(_:Unit) i=>⟨[(1,.d (.int .i64 n)),(4,.ptr 0 0),(8,.d (binds .sub l)),(9,.d (.int .i64 l.length)),(10,.d (.int .i64 i))],[some [.d (.int .i64 0),.d (.int .i64 0),.d (.sl U [])]]⟩) (step:=qcD fun i=>(bAt l i).v==n)
  (F:=fun _=>(.exit 0,⟨[(1,.d (.int .i64 n)),(4,.ptr 0 0),(8,.d (binds .sub l)),(9,.d (.int .i64 l.length)),(10,.d (.int .i64 l.length)),(11,.d (.bool false))],[some [.d (.int .i64 0),.d (.int .i64 0),.d (.sl U [])]]⟩)) (R:=fun(j:Nat)=>(.ret,⟨[(4,.ptr 0 0),(5,.d (.bool true))],[some [.d (.int .i64 (bAt l j).t.f),.d (.int .i64 (bAt l j).t.v),.d (qaj .sub (bAt l j).t.kids)],some [.d (.int .i64 (bAt l j).v),.d (.int .i64 (bAt l j).t.f),.d (.int .i64 (bAt l j).t.v),.d (qaj .sub (bAt l j).t.kids)]]⟩))
  (fun a=>⟨by simp,by simp[qrh,qp6,qp5,qub,qua,qt9,qt8,qt7,qla]⟩)
  (fun a i hi=>by
   have hw:=qao (n:=i) (by omega);unfold qcD
   by_cases hq:((bAt l i).v==n)=true
   ·rw[if_pos hq]
    exact⟨by simp,by simp[qrh,qp6,qp5,qub,qua,qt9,qt8,qt7,qla,hi,hw,cut,qaP hi,hq,splice,AV.qam,qaa,qab,qac,qai,qae]⟩
   ·rw[if_neg hq]
    have hq':((bAt l i).v==n)=false:=by simpa using hq
    exact⟨⟨[(1,.d (.int .i64 n)),(4,.ptr 0 0),(8,.d (binds .sub l)),(9,.d (.int .i64 l.length)),(10,.d (.int .i64 (i+1:Nat)))],[some [.d (.int .i64 0),.d (.int .i64 0),.d (.sl U [])],some [.d (.int .i64 (bAt l i).v),.d (.int .i64 (bAt l i).t.f),.d (.int .i64 (bAt l i).t.v),.d (qaj .sub (bAt l i).t.kids)]]⟩,by simp[qrh,qp6,qp5,qub,qua,qt9,qt8,qt7,qla,hi,hw,cut,qaP hi,hq',splice,AV.qam,qaa,qab,qac,qai,qae],qbX (e:=[some [.d (.int .i64 (bAt l i).v),.d (.int .i64 (bAt l i).t.f),.d (.int .i64 (bAt l i).t.v),.d (qaj .sub (bAt l i).t.kids)]]) (by simp) (by simp[qad]) (by simp) (by simp)⟩)
  l.length () 0 ⟨[(1,.d (.int .i64 n)),(4,.ptr 0 0),(8,.d (binds .sub l)),(9,.d (.int .i64 l.length)),(10,.d (.int .i64 0))],[some [.d (.int .i64 0),.d (.int .i64 0),.d (.sl U [])]]⟩ (by omega) (by simp[qag,qad])
 rw[qr0]at h;simp only[qJG,binds]at h;unfold qdX;simp[qKU,qp6,qp5,qla];rw[h];cases hq:qaD (fun i=>(bAt l i).v==n) l.length 0 with
 |none=>
  simp[qla,splice,qaa,qab,qac,qai,qae];rw[T.qbF];rfl
 |some j=>
  simp[qla,splice,qaa,qab,qac,qai,qae]
theorem qgS(l:List Bd)(n:Int)(hl:l.length<=1099511627776)(hb:∀i,i<l.length->(bAt l i).t.inner<=1099511627776):qaf XV 144 [.d (binds .sub l),.d (.int .i64 n)] []=some (.d ((qeN l n).enc U),[]):=by
 rw[qap XV _ _ _ qIs rfl qyt rfl];have h:=qFL l n hl;have hv:=qrI n;unfold qeN;cases hq:qdX l n with
 |none=>
  rw[hq]at h;simp[qIs,qAK,qAJ,qAI,qAH,qAG,h,hv,splice,qaa,qab,qac,qai,qae]
 |some j=>
  rw[hq]at h;have hj:j<l.length:=by have:=(qb2 _ _ _ _ hq).2.1;omega
  have hc:=qgW (bAt l j).t (hb j hj);simp[qIs,qAK,qAJ,qAI,qAH,qAG,h,hc,splice,qaa,qab,qac,qai,qae]
end Go.Proofs.Ytfiakfiocdfpbaa.VS
namespace Go.Proofs.Ytfiakfiocdfpbaa.VS
mutual
theorem qiy:∀a b:T,T.cmp a b= -(T.cmp b a)
 | .node f v ks,.node f' v' ks'=>by
  have h:=qu0 ks ks';simp only[T.cmp]
  repeat' split
  all_goals first|omega|exact h
theorem qu0:∀a b:List T,T.cmps a b= -(T.cmps b a)
 | [],[]=>rfl
 | [],_::_=>rfl
 |_::_,[]=>rfl
 |x::xs,y::ys=>by
  have h1:=qiy x y;have h2:=qu0 xs ys;simp only[T.cmps]
  repeat' split
  all_goals omega
end
mutual
theorem qnd:∀a b:T,T.cmp a b=0->a=b
 | .node f v ks,.node f' v' ks',h=>by
  simp only[T.cmp]at h
  repeat' split at h
  all_goals first|omega|skip
  have h1:=qCh ks ks' (by omega) h;have h2:f=f':=by omega
  have h3:v=v':=by omega
  rw[h1,h2,h3]
theorem qCh:∀a b:List T,a.length=b.length->T.cmps a b=0->a=b
 | [],[],_,_=>rfl
 | [],_::_,h,_=>by simp at h
 |_::_,[],h,_=>by simp at h
 |x::xs,y::ys,hl,h=>by
  simp only[T.cmps]at h;split at h
  ·omega
  ·rename_i h0
   rw[qnd x y (by omega),qCh xs ys (by simpa using hl) h]
end
mutual
theorem qHD:∀a b c:T,T.cmp a b<0->T.cmp b c<0->T.cmp a c<0
 | .node f v ks,.node f' v' ks',.node f2 vw2 ks2,h1,h2=>by
  simp only[T.cmp]at h1 h2⊢
  by_cases e1:f<f'
  ·have:f'<=f2:=by
    apply Classical.byContradiction;intro h
    rw[if_neg (by omega),if_pos (by omega)]at h2;omega
   rw[if_pos (by omega)];omega
  ·have e1':f=f':=by
    apply Classical.byContradiction;intro h
    rw[if_neg e1,if_pos (by omega)]at h1;omega
   subst e1'
   by_cases e2:f<f2
   ·rw[if_pos e2];omega
   ·have e2':f=f2:=by
     apply Classical.byContradiction;intro h
     rw[if_neg e2,if_pos (by omega)]at h2;omega
    subst e2';simp only[Int.lt_irrefl,gt_iff_lt,if_false]at h1 h2⊢
    by_cases e3:v<v'
    ·have:v'<=vw2:=by
      apply Classical.byContradiction;intro h
      rw[if_neg (by omega),if_pos (by omega)]at h2;omega
     rw[if_pos (by omega)];omega
    ·have e3':v=v':=by
      apply Classical.byContradiction;intro h
      rw[if_neg e3,if_pos (by omega)]at h1;omega
     subst e3'
     by_cases e4:v<vw2
     ·rw[if_pos e4];omega
     ·have e4':v=vw2:=by
       apply Classical.byContradiction;intro h
       rw[if_neg e4,if_pos (by omega)]at h2;omega
      subst e4';simp only[Int.lt_irrefl,gt_iff_lt,if_false]at h1 h2⊢
      by_cases e5:ks.length<ks'.length
      ·have:ks'.length<=ks2.length:=by
        apply Classical.byContradiction;intro h
        rw[if_neg (by omega),if_pos (by omega)]at h2;omega
       rw[if_pos (by omega)];omega
      ·have e5':ks.length=ks'.length:=by
        apply Classical.byContradiction;intro h
        rw[if_neg e5,if_pos (by omega)]at h1;omega
       by_cases e6:ks.length<ks2.length
       ·rw[if_pos e6];omega
       ·have e6':ks.length=ks2.length:=by
         apply Classical.byContradiction;intro h
         rw[if_neg (by omega),if_pos (by omega)]at h2;omega
        rw[if_neg (by omega),if_neg (by omega)]at h1 h2⊢
        exact qCi ks ks' ks2 e5' (by omega) h1 h2
theorem qCi:∀a b c:List T,a.length=b.length->b.length=c.length->T.cmps a b<0->T.cmps b c<0->T.cmps a c<0
 | [],[],_,_,_,h,_=>by simp[T.cmps]at h
 | [],_::_,_,h,_,_,_=>by simp at h
 |_::_,[],_,h,_,_,_=>by simp at h
 |x::xs,y::ys,[],_,h,_,_=>by simp at h
 |x::xs,y::ys,z::zs,l1,l2,h1,h2=>by
  simp only[T.cmps]at h1 h2⊢
  have t1:=qHD x y z
  by_cases c1:T.cmp x y=0
  ·have:=qnd x y c1
   subst this
   by_cases c2:T.cmp x z=0
   ·simp only[c1,c2,ne_eq,not_true_eq_false,if_false]at h1 h2⊢
    exact qCi xs ys zs (by simpa using l1) (by simpa using l2) h1 h2
   ·simp only[c2,ne_eq,not_false_eq_true,if_true]at h2⊢
    exact h2
  ·simp only[c1,ne_eq,not_false_eq_true,if_true]at h1
   by_cases c2:T.cmp y z=0
   ·have:=qnd y z c2
    subst this;simp only[c1,ne_eq,not_false_eq_true,if_true];exact h1
   ·simp only[c2,ne_eq,not_false_eq_true,if_true]at h2
    have h3:=t1 h1 h2;have c3:T.cmp x z≠0:=by omega
    simp only[c3,ne_eq,not_false_eq_true,if_true];exact h3
end
def tle(a b:T):Prop:=T.cmp a b<=0
theorem qtr(a:T):tle a a:=by
 have:=qiy a a;unfold tle;omega
theorem qg2{a b c:T}(h1:tle a b)(h2:tle b c):tle a c:=by
 unfold tle at*
 by_cases c1:T.cmp a b=0
 ·rw[qnd a b c1];exact h2
 by_cases c2:T.cmp b c=0
 ·rw[<-qnd b c c2];exact h1
 have:=qHD a b c (by omega) (by omega);omega
theorem qo8{a b:T}(h1:tle a b)(h2:tle b a):a=b:=by
 have:=qiy a b;unfold tle at*
 exact qnd a b (by omega)
theorem qcY{a b:T}(h:¬T.cmp a b<0):tle b a:=by
 have:=qiy a b;unfold tle;omega
theorem qeC{a b:T}(h:T.cmp a b<0):tle a b:=by unfold tle;omega
def Srt(l:List T):Prop:=l.Pairwise tle
theorem qEf{a b:List T}(h1:Srt a)(h2:Srt b)(h:a.Perm b):a=b:=List.Perm.eq_of_pairwise (fun _ _ _ _=>qo8) h1 h2 h
end Go.Proofs.Ytfiakfiocdfpbaa.VS
namespace Go.Proofs.Ytfiakfiocdfpbaa.VS
def ins(t:T):List T->List T
 | []=>[t]
 |x::r=>if T.cmp t x<0 then t::x::r else x::ins t r
def qcR:List T->List T->List T
 |acc,[]=>acc
 |acc,t::r=>qcR (ins t acc) r
def qd6(l:List T):List T:=qcR [] l
theorem qj4(t:T):∀l:List T,(ins t l).Perm (t::l)
 | []=> .refl _
 |x::r=>by
  simp only[ins];split
  ·exact .refl _
  ·exact((qj4 t r).cons x).trans (.swap t x r)
theorem qBe(t:T):∀l:List T,Srt l->Srt (ins t l)
 | [],_=>List.pairwise_singleton _ _
 |x::r,h=>by
  have h':=List.pairwise_cons.1 h;simp only[ins];split
  ·rename_i hlt
   refine List.pairwise_cons.2 ⟨fun y hy=> ?_,h⟩;rcases List.mem_cons.1 hy with rfl|hy
   ·exact qeC hlt
   ·exact qg2 (qeC hlt) (h'.1 y hy)
  ·rename_i hlt
   refine List.pairwise_cons.2 ⟨fun y hy=> ?_,qBe t r h'.2⟩;have:=(qj4 t r).mem_iff.1 hy;rcases List.mem_cons.1 this with rfl|hy
   ·exact qcY hlt
   ·exact h'.1 y hy
theorem qjj:∀(l acc:List T),(qcR acc l).Perm (acc++l)
 | [],acc=>by simp[qcR]
 |t::r,acc=>by
  simp only[qcR];refine(qjj r _).trans ?_;refine((qj4 t acc).append_right r).trans ?_;exact List.perm_middle.symm
theorem qlD:∀(l acc:List T),Srt acc->Srt (qcR acc l)
 | [],acc,h=>h
 |t::r,acc,h=>by
  simp only[qcR];exact qlD r _ (qBe t acc h)
theorem qcT(l:List T):(qd6 l).Perm l:=qjj l []
theorem qqu(l:List T):Srt (qd6 l):=qlD l [] List.Pairwise.nil
theorem quI{l l':List T}(h:l'.Perm l)(hs:Srt l'):l'=qd6 l:=qEf hs (qqu l) (h.trans (qcT l).symm)
theorem qex:∀(a acc b:List T),qcR acc (a++b)=qcR (qcR acc a) b
 | [],acc,b=>rfl
 |t::r,acc,b=>by simp only[List.cons_append,qcR];exact qex r _ b
def qno(s:List SymL)(f:Int)(k:T):List T:=if(qbE s f&&k.f==f)=true then k.kids else [k]
def flatK(s:List SymL)(f:Int)(l:List T):List T:=l.flatMap (qno s f)
mutual
def T.norm(s:List SymL):T->T
 | .node f v ks=> .node f v (if qbE s f=true then qd6 (flatK s f (T.norms s ks))else flatK s f (T.norms s ks))
def T.norms(s:List SymL):List T->List T
 | []=>[]
 |t::r=>t.norm s::T.norms s r
end
theorem T.norms_map(s:List SymL):∀l:List T,T.norms s l=l.map (T.norm s)
 | []=>by simp[T.norms]
 |t::r=>by simp[T.norms,T.norms_map s r]
theorem qAU(s:List SymL)(t:T):(t.norm s).f=t.f:=by cases t;simp[T.norm]
theorem qAT(s:List SymL)(t:T):(t.norm s).v=t.v:=by cases t;simp[T.norm]
theorem qlW(a b:List T):qd4 (a++b)=qd4 a+qd4 b:=by unfold qd4;rw[qfb,List.length_append];omega
theorem qhN{a b:List T}(h:a.Perm b):qd4 a=qd4 b:=by
 induction h with
 |nil=>rfl
 |cons x _ ih=>rw[qb4,qb4,ih]
 |swap x y l=>rw[qb4,qb4,qb4,qb4];omega
 |trans _ _ h1 h2=>rw[h1,h2]
theorem qCg(s:List SymL)(f:Int)(k:T):qd4 (qno s f k)<=k.inner+1:=by
 unfold qno;split
 ·rw[qlV];omega
 ·rw[qb4];simp[qd4,T.inners]
theorem qbM(s:List SymL)(f:Int)(k:T)(l:List T):flatK s f (k::l)=qno s f k++flatK s f l:=rfl
theorem qjn(s:List SymL)(f:Int)(a b:List T):flatK s f (a++b)=flatK s f a++flatK s f b:=by unfold flatK;simp
theorem qgn(s:List SymL)(f:Int):∀l:List T,qd4 (flatK s f l)<=qd4 l
 | []=>by simp[flatK,qd4,T.inners]
 |k::l=>by
  rw[qbM,qlW,qb4];have:=qCg s f k;have:=qgn s f l;omega
theorem T.qcW(f v:Int)(ks:List T):(T.node f v ks).inner=qd4 ks:=by simp[T.inner,qd4]
mutual
theorem qdL(s:List SymL):∀t:T,(t.norm s).inner<=t.inner
 | .node f v ks=>by
  have h:=qgm s ks;have h2:=qgn s f (T.norms s ks);simp only[T.norm,T.qcW];split
  ·rw[qhN (qcT _)];omega
  ·omega
theorem qgm(s:List SymL):∀l:List T,qd4 (T.norms s l)<=qd4 l
 | []=>by simp[T.norms]
 |t::r=>by
  have h1:=qdL s t;have h2:=qgm s r;simp only[T.norms,qb4];omega
end
theorem qc7{l:List T}{t:T}(h:t∈l):t.inner<=qd4 l:=by have:=T.qaG h;unfold qd4;omega
theorem qdm(l:List T):l.length<=qd4 l:=by unfold qd4;omega
def qvh(s:List SymL)(f:Int)(ks:List T)(i:Nat):List T:=flatK s f ((ks.take i).map (T.norm s))
theorem qrl(s:List SymL)(f:Int)(ks:List T):qvh s f ks 0=[]:=by simp[qvh,flatK]
theorem qrm(s:List SymL)(f:Int)(ks:List T)(i:Nat)(h:i<ks.length):qvh s f ks (i+1)=qvh s f ks i++qno s f ((tAt ks i).norm s):=by
 unfold qvh;rw[qeE ks i h,List.map_append,qjn];simp[flatK]
theorem qvg(s:List SymL)(f:Int)(ks:List T):qvh s f ks ks.length=flatK s f (T.norms s ks):=by
 unfold qvh;rw[List.take_length,T.norms_map]
theorem qrn(s:List SymL)(f:Int)(ks:List T)(i:Nat):qd4 (qvh s f ks i)<=qd4 ks:=by
 unfold qvh;have h1:=qgn s f ((ks.take i).map (T.norm s));rw[<-T.norms_map]at h1⊢
 have h2:=qgm s (ks.take i);have h3:=qKh ks i;omega
theorem qHp(t:T):∀(l:List T) (j:Nat),j<=l.length->(∀i,i<j->¬T.cmp t (tAt l i)<0)->(j<l.length->T.cmp t (tAt l j)<0)->ins t l=l.take j++t::l.drop j
 | [],j,hj,_,_=>by simp at hj;subst hj;rfl
 |x::r,0,hj,h1,h2=>by
  have:=h2 (by simp);simp only[tAt,List.getElem?_cons_zero,Option.getD_some]at this;simp[ins,this]
 |x::r,j+1,hj,h1,h2=>by
  have h0:=h1 0 (by omega);simp only[tAt,List.getElem?_cons_zero,Option.getD_some]at h0;have:=qHp t r j (by simpa using hj) (fun i hi=>by simpa[tAt]using h1 (i+1) (by omega)) (fun h=>by simpa[tAt]using h2 (by simpa using h));simp[ins,h0,this]
end Go.Proofs.Ytfiakfiocdfpbaa.VS
namespace Go.Proofs.Ytfiakfiocdfpbaa.VS
theorem qCR(a c:List T)(g:Tag)(h:(a.length+c.length)*40<=140737488355328):qaS 3 40 (.sl U (a.map (T.enc U))) (.sl g (c.map (T.enc U)))=some (.sl U ((a++c).map (T.enc U))):=by
 have h1:(c.map (T.enc U)).all (fun e=>decide (e.cells.length=3/\e.cells.all DV.isCell=true))=true:=by
  simp[qaa,qab]
 have h2:(a.map (T.enc U)).all (fun e=>decide (e.cells.length=3))=true:=by simp
 unfold qaS;simp only;rw[if_pos h1];cases c with
 |nil=>simp
 |cons x r=>
  simp only[List.map_cons,List.isEmpty_cons,Bool.false_eq_true,if_false];rw[if_pos ⟨by simpa using h,trivial,h2⟩];simp
theorem qzk(xs:List DV)(m:Nat):qcE xs 0 m=(xs.take m).map DV.clr++xs.drop m:=by
 unfold qcE;simp[DV.qam]
def putAt(t:T)(l:List T):Nat:=match qaD (fun i=>decide (T.cmp t (tAt l i)<0)) l.length 0 with
 |some j=>j
 |none=>l.length
theorem qfe(q:Nat->Bool):∀(k i:Nat),(∀j,qaD q k i=some j->∀m,i<=m->m<j->q m=false)/\(qaD q k i=none->∀m,i<=m->m<i+k->q m=false)
 |0,i=>⟨fun j h=>by simp[qaD]at h,fun _ m h1 h2=>by omega⟩
 |k+1,i=>by
  have ih:=qfe q k (i+1);simp only[qaD]
  by_cases h:q i=true
  ·simp only[h,if_true]
   exact⟨fun j hj m h1 h2=>by simp at hj;omega,fun h=>by simp at h⟩
  ·simp only[h,Bool.false_eq_true,if_false]
   refine⟨fun j hj m h1 h2=> ?_,fun hn m h1 h2=> ?_⟩
   ·by_cases e:m=i
    ·subst e;simpa using h
    ·exact ih.1 j hj m (by omega) h2
   ·by_cases e:m=i
    ·subst e;simpa using h
    ·exact ih.2 hn m (by omega) (by omega)
theorem qus(t:T)(l:List T):putAt t l<=l.length:=by
 unfold putAt;split
 ·rename_i j h;have:=(qb2 _ _ _ _ h).2.1;omega
 ·omega
theorem qAN(t:T)(l:List T):ins t l=l.take (putAt t l)++t::l.drop (putAt t l):=by
 have h:=qfe (fun i=>decide (T.cmp t (tAt l i)<0)) l.length 0;refine qHp t l _ (qus t l) (fun i hi=> ?_) (fun hlt=> ?_)
 ·unfold putAt at hi
  split at hi
  ·rename_i j hj
   simpa using h.1 j hj i (by omega) hi
  ·rename_i hn
   simpa using h.2 hn i (by omega) (by omega)
 ·unfold putAt at hlt⊢
  split
  ·rename_i j hj
   simpa using (qb2 _ _ _ _ hj).2.2
  ·rename_i hn;rw[hn]at hlt;simp at hlt
theorem quG(l:List T)(t:T)(hl:qd4 l<=1099511627776)(ht:t.inner<=1099511627776)(x0 x1 x2 x3:Option (List AV)):qaf XV 154 [.d (qaj U l),.d (t.enc U)] [x0,x1,x2,x3]=some (.d (.sl U ((ins t l).map (T.enc U))),[x0,x1,x2,x3]):=by
 have hlen:=qdm l;have hlt:=qus t l;have hb:∀i,i<l.length->qaf XV 84 [.d (t.enc .sub),.d ((tAt l i).enc .sub)] []=some (.d (.bool (decide (T.cmp t (tAt l i)<0))),[]):=fun i hi=>qe0 t (tAt l i) ht (by have:=qc7 (qaH hi);omega)
 rw[qap XV _ _ _ qKP rfl qyj rfl];have h:=qat (X:=XV) (T:=XV.lin 154) (L:=5) (live:=[0,3,5]) (b:=qnj) (n:=l.length) (st:=fun(_:Unit) i=>⟨[(0,.d (qaj U l)),(3,.ptr 4 0),(5,.d (.int .i64 i))],[x0,x1,x2,x3,some [.d (.int .i64 t.f),.d (.int .i64 t.v),.d (qaj U t.kids)]]⟩) (step:=qcD fun i=>decide (T.cmp t (tAt l i)<0))
  (F:=fun _=>(.exit 0,⟨[(0,.d (qaj U l)),(3,.ptr 4 0),(5,.d (.int .i64 l.length)),(19,.d (.bool false))],[x0,x1,x2,x3,some [.d (.int .i64 t.f),.d (.int .i64 t.v),.d (qaj U t.kids)]]⟩)) (R:=fun(j:Nat)=>(.exit 0,⟨[(0,.d (qaj U l)),(3,.ptr 4 0),(5,.d (.int .i64 j)),(19,.d (.bool false))],[x0,x1,x2,x3,some [.d (.int .i64 t.f),.d (.int .i64 t.v),.d (qaj U t.kids)]]⟩))
  (fun a=>⟨by simp,by simp[qnj,qp3,qp2,qCa,qt3,qp1,qp0,qpZ]⟩)
  (fun a i hi=>by
   have hw:=qao (n:=i) (by omega);have hc:=hb i hi;unfold qcD
   by_cases hq:decide (T.cmp t (tAt l i)<0)=true
   ·rw[if_pos hq]
    rw[hq]at hc;exact⟨by simp,by simp[qnj,qp3,qp2,qCa,qt3,qp1,qp0,qpZ,hi,hw,cut,qaF hi,hc,qae]⟩
   ·rw[if_neg hq]
    have hq':decide (T.cmp t (tAt l i)<0)=false:=by simpa using hq
    rw[hq']at hc;exact⟨⟨[(0,.d (qaj U l)),(3,.ptr 4 0),(5,.d (.int .i64 (i+1:Nat)))],[x0,x1,x2,x3,some [.d (.int .i64 t.f),.d (.int .i64 t.v),.d (qaj U t.kids)]]⟩,by simp[qnj,qp3,qp2,qCa,qt3,qp1,qp0,qpZ,hi,hw,cut,qaF hi,hc,qae],by simp[qag,qad]⟩)
  l.length () 0 ⟨[(0,.d (qaj U l)),(3,.ptr 4 0),(5,.d (.int .i64 0))],[x0,x1,x2,x3,some [.d (.int .i64 t.f),.d (.int .i64 t.v),.d (qaj U t.kids)]]⟩ (by omega) (by simp[qag,qad])
 have h':qbj XV (XV.lin 154) 5 [0,3,5] qnj ⟨[(0,.d (qaj U l)),(3,.ptr 4 0),(5,.d (.int .i64 0))],[x0,x1,x2,x3,some [.d (.int .i64 t.f),.d (.int .i64 t.v),.d (qaj U t.kids)]]⟩=
  some (.exit 0,⟨[(0,.d (qaj U l)),(3,.ptr 4 0),(5,.d (.int .i64 (putAt t l))),(19,.d (.bool false))],[x0,x1,x2,x3,some [.d (.int .i64 t.f),.d (.int .i64 t.v),.d (qaj U t.kids)]]⟩):=by
  rw[h,qr0];unfold putAt;cases hq:qaD (fun i=>decide (T.cmp t (tAt l i)<0)) l.length 0<;>simp
 clear h;rw[qAN];generalize putAt t l=m at*
 have hm:¬((m:Int)<0):=by omega
 have a1:=qCR [] (l.take m) .sub (by simp;omega);have a2:=qCR (l.take m) [t] U (by simp;omega);have a3:=qCR (l.take m++[t]) (l.drop m) .sub (by simp;omega);have hall:(l.map (T.enc U)).all (fun e=>decide (e.cells.length=3))=true:=by simp
 have hrest:qcE (l.map (T.enc U)) 0 m=(l.take m).map (T.enc .sub)++(l.drop m).map (T.enc U):=by rw[qzk,<-List.map_take,qbz,<-List.map_drop]
 have hall2:((l.take m).map (T.enc .sub)++(l.drop m).map (T.enc U)).all (fun e=>decide (e.cells.length=3))=true:=by
  have q:∀(l:List T) (g:Tag),(l.map (T.enc g)).all (fun e=>decide (e.cells.length=3))=true:=fun l g=>by simp
  rw[List.all_append,q,q];rfl
 have hlen2:((l.take m).map (T.enc .sub)++(l.drop m).map (T.enc U)).length=l.length:=by simp;omega
 have hd2:(((l.take m).map (T.enc .sub)++(l.drop m).map (T.enc U)).take l.length).drop m=(l.drop m).map (T.enc U):=by
  rw[List.take_of_length_le (by rw[hlen2];exact Nat.le_refl _),List.drop_append_of_le_length (by simp;omega),List.drop_of_length_le (by simp;omega)];rfl
 have ht2:(l.map (T.enc U)).take m=(l.take m).map (T.enc U):=List.map_take.symm;simp only[List.map_nil,List.nil_append,List.map_cons,List.map_append,List.append_assoc,List.cons_append]at a1 a2 a3⊢
 generalize hR:(l.take m).map (T.enc .sub)++(l.drop m).map (T.enc U)=R at*
 generalize hL1:(l.take m).map (T.enc U)=L1 at*
 generalize hL2:(l.drop m).map (T.enc U)=L2 at*
 generalize hL3:L1++[T.enc U t]=L3 at*
 generalize hL4:L1++T.enc U t::L2=L4 at*
 simp only[qJD]at h';simp[qKP,qp3,qp2,splice,qaa,qab,qac,qai,qae];rw[h'];simp[qp1,qp0,qpZ,hlt,hm,hall,hall2,hlen2,hrest,hd2,ht2,a1,a2,a3,qae,splice,AV.qam]
end Go.Proofs.Ytfiakfiocdfpbaa.VS
namespace Go.Proofs.Ytfiakfiocdfpbaa.VS
def nM(s:List SymL)(t:T):DV:=(t.norm s).enc U
theorem qfS(s:List SymL)(f:Int)(h:¬qbE s f=true):∀l:List T,flatK s f l=l
 | []=>rfl
 |k::l=>by
  rw[qbM,qfS s f h l];have h':qbE s f=false:=by simpa using h
  simp[qno,h']
def qxB(s:List SymL)(t:T):List DV:=(t.norm s).kids.map (T.enc U)
theorem qqn(s:List SymL)(t:T):nM s t= .agg [.int .i64 t.f,.int .i64 t.v,.sl U (qxB s t)]:=by
 unfold nM qxB;rw[T.qbF,qAU,qAT]
theorem qu2(s:List SymL)(t:T):(qxB s t).map DV.clr=(t.norm s).kids.map (T.enc .sub):=by unfold qxB;exact qbz _ _
theorem qu4(s:List SymL)(t:T):(nM s t).cells=[.int .i64 t.f,.int .i64 t.v,.sl U (qxB s t)]:=by rw[qqn];rfl
theorem qOT(s:List SymL)(a:List T)(t:T)(h:a.length<=1099511627776):qaS 3 40 (.sl U (a.map (nM s))) (.sl U [nM s t])=some (.sl U (a.map (nM s)++[nM s t])):=by
 unfold qaS;simp only;rw[if_pos (by simp[qu4,qaa,qab])];simp only[List.isEmpty_cons,Bool.false_eq_true,if_false];rw[if_pos ⟨by simp;omega,trivial,by simp[qu4]⟩]
def rowAt(s:List SymL)(f:Int)(ks:List T)(i:Nat):List DV:=if qbE s f=true then(qd6 (qvh s f ks i)).map (T.enc U)else(ks.take i).map (nM s)
theorem rowAt_zero(s:List SymL)(f:Int)(ks:List T):rowAt s f ks 0=[]:=by unfold rowAt;rw[qrl];split<;>rfl
theorem norms_map(s:List SymL):∀l:List T,T.norms s l=l.map (T.norm s)
 | []=>by simp[T.norms]
 |t::r=>by simp[T.norms,norms_map s r]
theorem rowAt_all(s:List SymL)(f v:Int)(ks:List T):DV.agg [.int .i64 f,.int .i64 v,.sl U (rowAt s f ks ks.length)]=nM s (.node f v ks):=by
 rw[qqn];unfold rowAt qxB;rw[qvg,List.take_length];simp only[T.qcj,T.qcV,T.norm]
 by_cases hb:qbE s f=true
 ·simp only[hb,if_true,T.qaQ]
 ·simp only[hb,Bool.false_eq_true,if_false,T.qaQ]
  rw[qfS s f hb,norms_map,List.map_map];rfl
def nB3(f v:Int)(ks:List T)(R:List DV):qan:=[some [.d (.int .i64 f),.d (.int .i64 v),.d (qaj .sub ks)],some [.d (.int .i64 0),.d (.int .i64 0),.d (.sl U [])],some [.d (.int .i64 f),.d (.int .i64 v),.d (.sl U R)]]
def qoS(l:List T)(j:Nat):List DV:=(l.take j).map (T.enc .sub)++(l.drop j).map (T.enc U)
theorem qEr(l:List T)(j:Nat)(h:j<=l.length):(qoS l j).length=l.length:=by unfold qoS;simp;omega
theorem qEs(l:List T)(j:Nat):(qoS l j).map DV.clr=l.map (T.enc .sub):=by
 unfold qoS;rw[List.map_append,qbz,qbz,<-List.map_append,List.take_append_drop]
theorem qIH(l:List T)(j:Nat)(h:j<l.length):(qoS l j)[j]?=some ((tAt l j).enc U):=by
 unfold qoS;rw[List.getElem?_append_right (by simp;omega),List.drop_eq_getElem_cons h,qaF h];simp[Nat.min_eq_left (Nat.le_of_lt h)]
theorem qEq(l:List T)(j:Nat)(h:j<l.length):(qoS l j).set j ((tAt l j).enc .sub)=qoS l (j+1):=by
 unfold qoS;have hm:((l.take j).map (T.enc .sub)).length=j:=by simp;omega
 rw[List.set_append_right _ _ (by rw[hm];exact Nat.le_refl _),hm,Nat.sub_self,List.drop_eq_getElem_cons h,qaF h,List.map_cons,List.set_cons_zero,qeE l j h,List.map_append,List.append_assoc,List.map_cons,List.map_nil];rfl
theorem qEt(l:List T):qoS l l.length=l.map (T.enc .sub):=by unfold qoS;simp
theorem qzg(l:List T):qoS l 0=l.map (T.enc U):=by unfold qoS;simp
theorem qD7(TT:List Nat)(d4:Nat)(s:XS)(b off:Nat)(cs:List AV)(g gt:Tag)(xs:List DV)(k:Nat)(t:T):qyL TT d4 3 s b off cs g xs k (some (t.enc gt))=some (qbs TT ⟨s.r,s.B.set b (some (cs.set off (.d (.sl g (xs.set k (t.enc .sub))))))⟩ (some d4) (.d (t.enc gt))):=by
 rw[<-T.qf7 gt t,T.qbF];rfl
theorem qFd(s:List SymL)(hs:s.length<=1099511627776)(f v kf kv:Int)(ks l:List T)(i:Nat)(hl:l.length<=1099511627776):∀(k j:Nat),j+k=l.length->∀acc:List T,qd4 acc+qd4 (l.drop j)<=1099511627776->∀e:qan,
 qbj XV (XV.lin 153) 4 [0,3,4,5,6,7,8] qu9 ⟨[(0,.d (sg s)),(3,.ptr 0 0),(4,.ptr 1 0),(5,.ptr 2 0),(6,.d (.int .i64 i)),(7,.ptr 3 0),(8,.d (.int .i64 j))],nB3 f v ks (acc.map (T.enc U))++[some [.d (.int .i64 kf),.d (.int .i64 kv),.d (.sl U (qoS l j))]]++e⟩=
  some (.exit 3,⟨[(0,.d (sg s)),(3,.ptr 0 0),(4,.ptr 1 0),(5,.ptr 2 0),(6,.d (.int .i64 i)),(7,.ptr 3 0),(8,.d (.int .i64 l.length)),(32,.d (.bool false))],nB3 f v ks ((qcR acc (l.drop j)).map (T.enc U))++[some [.d (.int .i64 kf),.d (.int .i64 kv),.d (.sl U (l.map (T.enc .sub)))]]⟩):=by
 have head:∀(x:Int) (A e:qan),A.length=4->qag 4 [0,3,4,5,6,7,8] ⟨[(0,.d (sg s)),(3,.ptr 0 0),(4,.ptr 1 0),(5,.ptr 2 0),(6,.d (.int .i64 i)),(7,.ptr 3 0),(8,.d (.int .i64 x))],A++e⟩=some ⟨[(0,.d (sg s)),(3,.ptr 0 0),(4,.ptr 1 0),(5,.ptr 2 0),(6,.d (.int .i64 i)),(7,.ptr 3 0),(8,.d (.int .i64 x))],A⟩:=fun x A e hA=>
  qbX (by simp) (by simp[qad]) hA rfl
 intro k
 induction k with
 |zero=>
  intro j hj acc ha e;have:j=l.length:=by omega
  subst this;refine qaL (head _ _ e (by simp[nB3])) ?_ (by simp);rw[List.drop_length,qEt];simp only[qcR];simp[qu9,qhi,qhh,qhg,qi9,qi7,qfI,qfH,qfG,qfF,qi6,qi5,qlS,qi4,qi8,qe6,nB3,qae]
 |succ k ih=>
  intro j hj acc ha e;have hlt:j<l.length:=by omega
  have hm:=qaH hlt;have h1:=qc7 hm;have hd:l.drop j=tAt l j::l.drop (j+1):=by rw[List.drop_eq_getElem_cons hlt,qaF hlt]
  have hw:=qao (n:=j) (by omega);have r1:=qEr l j (by omega);have r2:=qEs l j;have r3:∀h:j<(qoS l j).length,(qoS l j)[j]'h=(tAt l j).enc U:=fun h=>(List.getElem?_eq_some_iff.1 (qIH l j hlt)).2
  have r4:=qEq l j hlt;rw[hd,qb4]at ha;have hp:=quG acc (tAt l j) (by omega) (by omega);rw[hd];simp only[qcR];rw[<-ih (j+1) (by omega) (ins (tAt l j) acc) (by rw[qhN (qj4 _ _),qb4];omega) []];refine qa7 (head _ _ e (by simp[nB3])) ?_;generalize qoS l (j+1)=R1 at*
  generalize qoS l j=R0 at*
  simp[qu9,qhi,qhh,qhg,qi9,qi7,qfI,qfH,qfG,qfF,qi6,qi5,qlS,qi4,qi8,qe6,nB3,hlt,hw,cut,qaF hlt,hp,r1,r2,r3,r4,qD7,qas,VX.linT,splice,qaa,qab,qac,qai,qae]
theorem qNW(s:List SymL)(hs:s.length<=1099511627776)(f v:Int)(ks:List T)(hl:qd4 ks<=1099511627776)(i:Nat)(hi:i<ks.length)
 (hc:qaf XV 153 [.d (sg s),.d ((tAt ks i).enc .sub)] []=some (.d (nM s (tAt ks i)),[])):
 ∃e:qan,qau XV (XV.lin 153) qjC ⟨[(0,.d (sg s)),(3,.ptr 0 0),(4,.ptr 1 0),(5,.ptr 2 0),(6,.d (.int .i64 i))],nB3 f v ks (rowAt s f ks i)⟩=
  some (.normal,⟨[(0,.d (sg s)),(3,.ptr 0 0),(4,.ptr 1 0),(5,.ptr 2 0),(6,.d (.int .i64 (i+1:Nat)))],nB3 f v ks (rowAt s f ks (i+1))++e⟩):=by
 have hlen:=qdm ks;have hw:=qao (n:=i) (by omega);have hb:=qpm s hs f;have ht:=qaF hi;have hm:=qc7 (qaH hi);have hin:=qdL s (tAt ks i);have hac:=qrm s f ks i hi;have hcn:=qrn s f ks (i+1);have htk:=qeE ks i hi;have hM:=qu2 s (tAt ks i);have hnf:=qAU s (tAt ks i);have hnv:=qAT s (tAt ks i);have happ:=qOT s (ks.take i) (tAt ks i) (by simp;omega);rw[hac,qlW]at hcn;unfold rowAt;rw[hac,htk];rw[qqn]at hc happ;generalize hk:tAt ks i=k at*
 generalize hr:qvh s f ks i=acc at*
 have hXu:qxB s k=(k.norm s).kids.map (T.enc U):=rfl;generalize hX:qxB s k=X at*
 by_cases h1:qbE s f=true
 ·simp only[h1,if_true]
  by_cases h2:(k.f==f)=true
  ·have e1:qno s f (k.norm s)=(k.norm s).kids:=by unfold qno;rw[hnf,h1,h2];rfl
   rw[e1]at hcn⊢
   have hloop:=qFd s hs f v k.f k.v ks (k.norm s).kids i (by have:=qdm (k.norm s).kids;rw[qlV]at this;omega) (k.norm s).kids.length 0 (by omega) (qd6 acc) (by rw[qhN (qcT acc),List.drop_zero];omega) [];rw[List.drop_zero,qzg,show qcR (qd6 acc) (k.norm s).kids=qd6 (acc++(k.norm s).kids)from by unfold qd6;rw[qex]]at hloop;refine⟨[some [.d (.int .i64 k.f),.d (.int .i64 k.v),.d (.sl U ((k.norm s).kids.map (T.enc .sub)))]],?_⟩;have h2n:(k.f !=f)=false:=by simpa using h2
   rw[<-hXu]at hloop;generalize (qd6 (acc++(k.norm s).kids)).map (T.enc U)=R2 at*
   generalize (qd6 acc).map (T.enc U)=R1 at*
   generalize (k.norm s).kids=l at*
   simp only[nB3,qA3,Int.natCast_zero,List.cons_append,List.nil_append,List.append_nil]at hloop⊢
   simp[qjC,qhi,qhh,qhg,qi9,qi7,qfI,qfH,qfG,qfF,qi6,qi5,qlS,qi4,qi8,qe6,hi,hw,cut,ht,hc,hb,h1,h2n,hM,splice,qaa,qab,qac,qai,qae,AV.qam];rw[hloop];simp[qjC,qhi,qhh,qhg,qi9,qi7,qfI,qfH,qfG,qfF,qi6,qi5,qlS,qi4,qi8,qe6,hw]
  ·have h2':(k.f==f)=false:=by simpa using h2
   have h2n:(k.f !=f)=true:=by simpa using h2
   have e1:qno s f (k.norm s)=[k.norm s]:=by unfold qno;rw[hnf,h1,h2'];rfl
   rw[e1]at hcn⊢
   rw[show qd6 (acc++[k.norm s])=ins (k.norm s) (qd6 acc)from by unfold qd6;rw[qex];rfl];have hp:=quG (qd6 acc) (k.norm s) (by rw[qhN (qcT acc)];omega) (by omega);have hke:(k.norm s).enc U= .agg [.int .i64 k.f,.int .i64 k.v,.sl U X]:=by rw[T.qbF,hnf,hnv,hXu]
   simp only[hke]at hp;refine⟨[some [.d (.int .i64 k.f),.d (.int .i64 k.v),.d (qaj .sub (k.norm s).kids)]],?_⟩;generalize ins (k.norm s) (qd6 acc)=R2 at*
   generalize qd6 acc=R1 at*
   generalize (k.norm s).kids=l at*
   simp[qjC,qhi,qhh,qhg,qi9,qi7,qfI,qfH,qfG,qfF,qi6,qi5,qlS,qi4,qi8,qe6,nB3,hi,hw,cut,ht,hc,hb,h1,h2n,hM,hp,qas,VX.linT,splice,qaa,qab,qac,qai,qae,AV.qam]
 ·have h1':qbE s f=false:=by simpa using h1
  simp only[h1',Bool.false_eq_true,if_false];refine⟨[some [.d (.int .i64 k.f),.d (.int .i64 k.v),.d (qaj .sub (k.norm s).kids)]],?_⟩;rw[List.map_append,List.map_cons,List.map_nil,qqn,hX];generalize hR2:(ks.take i).map (nM s)++[.agg [.int .i64 k.f,.int .i64 k.v,.sl U X]]=R2 at*
  generalize (ks.take i).map (nM s)=R1 at*
  generalize (k.norm s).kids=l at*
  simp[qjC,qhi,qhh,qhg,qi9,qi7,qfI,qfH,qfG,qfF,qi6,qi5,qlS,qi4,qi8,qe6,nB3,hi,hw,cut,ht,hc,hb,h1',happ,hM,splice,qaa,qab,qac,qai,qae,AV.qam]
end Go.Proofs.Ytfiakfiocdfpbaa.VS
namespace Go.Proofs.Ytfiakfiocdfpbaa.VS
theorem qJq(s:List SymL)(hs:s.length<=1099511627776)(f v:Int)(ks:List T)(hl:qd4 ks<=1099511627776)
 (hc:∀t,t∈ks->qaf XV 153 [.d (sg s),.d (t.enc .sub)] []=some (.d (nM s t),[])):∀(k i:Nat),i+k=ks.length->∀e:qan,
 qbj XV (XV.lin 153) 3 [0,3,4,5,6] qjC ⟨[(0,.d (sg s)),(3,.ptr 0 0),(4,.ptr 1 0),(5,.ptr 2 0),(6,.d (.int .i64 i))],nB3 f v ks (rowAt s f ks i)++e⟩=
  some (.exit 0,⟨[(0,.d (sg s)),(3,.ptr 0 0),(4,.ptr 1 0),(5,.ptr 2 0),(6,.d (.int .i64 ks.length)),(18,.d (.bool false))],nB3 f v ks (rowAt s f ks ks.length)⟩):=by
 have head:∀(x:Int) (A e:qan),A.length=3->qag 3 [0,3,4,5,6] ⟨[(0,.d (sg s)),(3,.ptr 0 0),(4,.ptr 1 0),(5,.ptr 2 0),(6,.d (.int .i64 x))],A++e⟩=some ⟨[(0,.d (sg s)),(3,.ptr 0 0),(4,.ptr 1 0),(5,.ptr 2 0),(6,.d (.int .i64 x))],A⟩:=fun x A e hA=>
  qbX (by simp) (by simp[qad]) hA rfl
 intro k
 induction k with
 |zero=>
  intro i hi e;have:i=ks.length:=by omega
  subst this;refine qaL (head _ _ e (by simp[nB3])) ?_ (by simp);generalize rowAt s f ks ks.length=R;simp[qjC,qhi,qhh,qhg,qi9,qi7,qfI,qfH,qfG,qfF,qi6,qi5,qlS,qi4,qi8,qe6,nB3,qae]
 |succ k ih=>
  intro i hi e;have hlt:i<ks.length:=by omega
  obtain⟨e',he⟩:=qNW s hs f v ks hl i hlt (hc _ (qaH hlt));rw[<-ih (i+1) (by omega) e'];exact qa7 (head _ _ e (by simp[nB3])) he
theorem qrU(s:List SymL)(hs:s.length<=1099511627776)(f v:Int)(ks:List T)(hl:qd4 ks<=1099511627776)
 (hc:∀t,t∈ks->qaf XV 153 [.d (sg s),.d (t.enc .sub)] []=some (.d (nM s t),[])):
 qaf XV 153 [.d (sg s),.d ((T.node f v ks).enc .sub)] []=some (.d (nM s (.node f v ks)),[]):=by
 rw[qap XV _ _ _ qKQ rfl qyk rfl];have hloop:=qJq s hs f v ks hl hc ks.length 0 (by omega) [];rw[<-rowAt_all];simp only[rowAt_zero,List.append_nil,qA3,nB3,Int.natCast_zero]at hloop;generalize rowAt s f ks ks.length=R at*
 simp[qKQ,qhi,qhh,qhg,splice,qaa,qab,qac,qai,qae,AV.qam];rw[hloop];simp[qe6,splice,qaa,qab,qac,qai,qae,AV.qam]
theorem qeZ(s:List SymL)(hs:s.length<=1099511627776)(t:T)(ht:t.inner<=1099511627776):qaf XV 153 [.d (sg s),.d (t.enc .sub)] []=some (.d (nM s t),[]):=by
 match t,ht with
 | .node f v ks,ht=>
  rw[T.qcW]at ht;exact qrU s hs f v ks ht fun x hx=>qeZ s hs x (by have:=qc7 hx;omega)
termination_by t
decreasing_by
 simp_wf
 have:=List.sizeOf_lt_of_mem hx;omega
end Go.Proofs.Ytfiakfiocdfpbaa.VS
namespace Go.Proofs.Ytfiakfiocdfpbaa.VS
def dgb(n:Nat):UInt8:=UInt8.ofNat (48+n)
def dgt(n:Nat):ByteArray:=⟨#[dgb n]⟩
def qna(n:Nat):ByteArray:=if n<10 then dgt n else qna (n/10)++dgt (n%10)
def qsC:ByteArray:=⟨#[45]⟩
def digits(n:Int):ByteArray:=if n<0 then qsC++qna n.natAbs else qna n.natAbs
theorem qgV{n:Nat}(h:n<10):qna n=dgt n:=by rw[qna,if_pos h]
theorem qoI{n:Nat}(h:¬n<10):qna n=qna (n/10)++dgt (n%10):=by rw[qna,if_neg h]
theorem qgj(k:Nat):digits (k:Int)=qna k:=by unfold digits;rw[if_neg (by omega)];simp
theorem qnb{k:Nat}(h:0<k):digits (-(k:Int))=qsC++qna k:=by unfold digits;rw[if_pos (by omega)];simp
theorem qeo(n:Nat):(dgt n).size=1:=rfl
theorem qin:qsC.size=1:=rfl
theorem qqX:∀(k n:Nat),n<10^(k+1)->(qna n).size<=k+1
 |0,n,h=>by rw[qgV (by omega),qeo];omega
 |k+1,n,h=>by
  by_cases c:n<10
  ·rw[qgV c,qeo];omega
  ·rw[qoI c,ByteArray.size_append,qeo]
   have:=qqX k (n/10) (by rw[Nat.pow_succ]at h;omega);omega
theorem qfg{n:Nat}(h:n<=9223372036854775808):(qna n).size<=20:=qqX 19 n (by omega)
theorem qBR{n:Nat}(h:n<10):Utf8.encode (48+(n:Int))=dgt n:=by
 have:n=0\/n=1\/n=2\/n=3\/n=4\/n=5\/n=6\/n=7\/n=8\/n=9:=by omega
 rcases this with rfl|rfl|rfl|rfl|rfl|rfl|rfl|rfl|rfl|rfl<;>rfl
theorem wrap_i32{n:Int}(h: -2147483648<=n)(h2:n<=2147483647):IntKind.i32.wrap n=n:=by
 simp[IntKind.wrap,IntKind.bits,IntKind.signed];omega
theorem wrap_u8'{n:Int}(h:0<=n)(h2:n<=255):IntKind.u8.wrap n=n:=by
 simp[IntKind.wrap,IntKind.bits,IntKind.signed];omega
theorem qdZ(k:IntKind)(x:Int):qdw .quo k x 10=some (.int k (k.wrap (x.tdiv 10))):=rfl
theorem qdY(k:IntKind)(x:Int):qdw .rem k x 10=some (.int k (x.tmod 10)):=rfl
theorem qaO{a b:ByteArray}(h:a.size+b.size<=4611686018427387904):qbG .add (.str a) (.str b)=some (.str (a++b)):=by simp[qbG,h]
theorem qcN(k:Nat)(hk:k<10):qaf XV 38 [.d (.int .i64 k)] []=some (.d (.str (dgt k)),[]):=by
 rw[qap XV _ _ _ v38 rfl qnx rfl];have c1:(k:Int)<10:=by omega
 have c0:¬(k:Int)<0:=by omega
 have hw:IntKind.i64.wrap (48+k)=48+k:=wrap_i64 (by omega) (by omega);have hw2:IntKind.i32.wrap (48+k)=48+k:=wrap_i32 (by omega) (by omega);have e:=qBR hk;simp[v38,qzN,qzM,qzL,qzK,qzJ,qzI,qzH,qzG,c0,c1,hw,hw2,e]
theorem qwJ(m:Nat):∀n:Int,n.natAbs<=m->-9223372036854775808<=n->n<=9223372036854775807->qaf XV 38 [.d (.int .i64 n)] []=some (.d (.str (digits n)),[]):=by
 induction m with
 |zero=>
  intro n hm h1 h2;obtain rfl:n=((0:Nat):Int):=by omega
  rw[qgj,qgV (by omega)];exact qcN 0 (by omega)
 |succ m ih=>
  intro n hm h1 h2
  by_cases c0:n<0
  ·obtain⟨k,rfl⟩:∃k:Nat,n= -(k:Int):=⟨n.natAbs,by omega⟩
   have hk:0<k:=by omega
   rw[qap XV _ _ _ v38 rfl qnx rfl,qnb hk]
   by_cases c1:k<10
   ·have hw:IntKind.i64.wrap k=k:=wrap_i64 (by omega) (by omega)
    have s1:=qcN k c1;have ha:qbG .add (.str ⟨#[45]⟩) (.str (dgt k))=some (.str (qsC++dgt k)):=qaO (by rw[qeo];decide);have c1': -10< -(k:Int):=by omega
    have c0':0<k:=hk;rw[qgV c1];simp[v38,qzN,qzM,qzL,qzK,qzJ,qzI,qzH,qzG,c0',c1',c1,hw,s1,ha]
   ·have hq:(-(k:Int)).tdiv 10= -((k/10:Nat):Int):=by rw[Int.neg_tdiv];rfl
    have hr:(-(k:Int)).tmod 10= -((k%10:Nat):Int):=by rw[Int.neg_tmod];rfl
    have hw1:IntKind.i64.wrap (-((k/10:Nat):Int))= -((k/10:Nat):Int):=wrap_i64 (by omega) (by omega);have hw2:IntKind.i64.wrap ((k%10:Nat):Int)=((k%10:Nat):Int):=wrap_i64 (by omega) (by omega);have s1:=ih (-((k/10:Nat):Int)) (by omega) (by omega) (by omega);have s2:=qcN (k%10) (by omega);rw[qnb (by omega)]at s1;have hs:=qfg (n:=k/10) (by omega);have ha:qbG .add (.str (qsC++qna (k/10))) (.str (dgt (k%10)))=some (.str (qsC++qna k)):=by
     rw[qaO (by rw[ByteArray.size_append,qeo,qin];omega),qoI c1,ByteArray.append_assoc]
    have c1':¬-10< -(k:Int):=by omega
    have c0':0<k:=hk;generalize ((k/10:Nat):Int)=q at*
    generalize ((k%10:Nat):Int)=r at*
    simp[v38,qzN,qzM,qzL,qzK,qzJ,qzI,qzH,qzG,c0',c1',c1,qdZ,qdY,hq,hr,hw1,hw2,s1,s2,ha]
  ·obtain⟨k,rfl⟩:=Int.eq_ofNat_of_zero_le (Int.not_lt.1 c0)
   rw[qgj]
   by_cases c1:k<10
   ·rw[qgV c1];exact qcN k c1
   ·rw[qap XV _ _ _ v38 rfl qnx rfl]
    have hq:(k:Int).tdiv 10=((k/10:Nat):Int):=rfl;have hr:(k:Int).tmod 10=((k%10:Nat):Int):=rfl;have s1:=ih ((k/10:Nat):Int) (by omega) (by omega) (by omega);rw[qgj]at s1;have hw0:IntKind.i64.wrap ((k/10:Nat):Int)=((k/10:Nat):Int):=wrap_i64 (by omega) (by omega);have hw:IntKind.i64.wrap (48+((k%10:Nat):Int))=48+((k%10:Nat):Int):=wrap_i64 (by omega) (by omega);have hw2:IntKind.i32.wrap (48+((k%10:Nat):Int))=48+((k%10:Nat):Int):=wrap_i32 (by omega) (by omega);have e:=qBR (n:=k%10) (by omega);have hs:=qfg (n:=k/10) (by omega);have ha:qbG .add (.str (qna (k/10))) (.str (dgt (k%10)))=some (.str (qna k)):=by
     rw[qaO (by rw[qeo];omega),qoI c1]
    have c1':¬(k:Int)<10:=by omega
    have c0':¬(k:Int)<0:=by omega
    generalize ((k/10:Nat):Int)=q at*
    generalize ((k%10:Nat):Int)=r at*
    simp[v38,qzN,qzM,qzL,qzK,qzJ,qzI,qzH,qzG,c0',c1',qdZ,qdY,hq,hr,hw0,hw,hw2,e,s1,ha]
theorem qhx(n:Int)(h1: -9223372036854775808<=n)(h2:n<=9223372036854775807):qaf XV 38 [.d (.int .i64 n)] []=some (.d (.str (digits n)),[]):=qwJ n.natAbs n (Nat.le_refl _) h1 h2
def qqY(k:Nat):ByteArray:=if k=0 then ByteArray.empty else qna k
theorem qwV{k:Nat}(h:k≠0)(s:ByteArray):qqY (k/10)++(dgt (k%10)++s)=qqY k++s:=by
 unfold qqY;rw[if_neg h]
 by_cases c:k<10
 ·have:k/10=0:=by omega
  rw[if_pos this,qgV c,ByteArray.empty_append,Nat.mod_eq_of_lt c]
 ·rw[if_neg (by omega),qoI c,ByteArray.append_assoc]
theorem qCu{k:Nat}(h:k<10):bytesOf [.int .u8 (48+(k:Int))]=some [dgb k]:=by
 have:(48+(k:Int)).toNat=48+k:=by omega
 simp[bytesOf,this,dgb]
def dst(n:Int)(neg:Bool)(s:ByteArray):XS:=⟨[(0,.d (.int .i64 n)),(3,.d (.bool neg)),(4,.d (.str s))],[]⟩
theorem qOP(n:Int)(k:Nat)(h:n=k\/n= -(k:Int))(hk:k≠0)(hk2:k<=9223372036854775808)(h1: -9223372036854775808<=n)(h2:n<=9223372036854775807)(neg:Bool)(s:ByteArray)(hs:s.size<=100):
 ∃s',qau XV [] qra (dst n neg s)=some (.normal,s')/\qag 0 [0,3,4] s'=some (dst (n.tdiv 10) neg (dgt (k%10)++s)):=by
 have hw:IntKind.i64.wrap (48+((k%10:Nat):Int))=48+((k%10:Nat):Int):=wrap_i64 (by omega) (by omega);have hw2:IntKind.u8.wrap (48+((k%10:Nat):Int))=48+((k%10:Nat):Int):=wrap_u8' (by omega) (by omega);have hw3:IntKind.i64.wrap ((k%10:Nat):Int)=((k%10:Nat):Int):=wrap_i64 (by omega) (by omega);have hb:=qCu (k:=k%10) (by omega);have ha:qbG .add (.str ⟨#[dgb (k%10)]⟩) (.str s)=some (.str (dgt (k%10)++s)):=qaO (a:=dgt (k%10)) (by rw[qeo];omega);have c0:(n !=0)=true:=by simp;omega
 unfold dst;rcases h with rfl|rfl
 ·have hq:(k:Int).tdiv 10=((k/10:Nat):Int):=rfl
  rw[hq];have hr:(k:Int).tmod 10=((k%10:Nat):Int):=rfl;have hwq:IntKind.i64.wrap ((k/10:Nat):Int)=((k/10:Nat):Int):=wrap_i64 (by omega) (by omega);have c1:¬((k%10:Nat):Int)<0:=by omega
  generalize ((k/10:Nat):Int)=q at*
  generalize ((k%10:Nat):Int)=r at*
  refine⟨_,by simp[qra,qv9,qEP,qEO,qEN,qEM,qtD,c0,hq,hr,qdZ,qdY,c1,hw,hw2,hwq,hb,ha,qay,List.replicate];rfl,by simp[qag,qad]⟩
 ·have hq:(-(k:Int)).tdiv 10= -((k/10:Nat):Int):=by rw[Int.neg_tdiv];rfl
  rw[hq];have hr:(-(k:Int)).tmod 10= -((k%10:Nat):Int):=by rw[Int.neg_tmod];rfl
  have hwq:IntKind.i64.wrap (-((k/10:Nat):Int))= -((k/10:Nat):Int):=wrap_i64 (by omega) (by omega)
  by_cases c1: -((k%10:Nat):Int)<0
  ·generalize ((k/10:Nat):Int)=q at*
   generalize ((k%10:Nat):Int)=r at*
   have c1':0<r:=by omega
   have c0':k≠0:=hk;refine⟨_,by simp[qra,qv9,qEP,qEO,qEN,qEM,qtD,c0,hq,hr,qdZ,qdY,c1',hw,hw2,hw3,hwq,hb,ha,qay,List.replicate];rfl,by simp[qag,qad]⟩
  ·have c2:((k%10:Nat):Int)=0:=by omega
   rw[c2]at hw hw2 hr hb;have c3:k%10=0:=by omega
   rw[c3]at ha hb⊢
   generalize ((k/10:Nat):Int)=q at*
   simp at hr hw hw2 hb;refine⟨_,by simp[qra,qv9,qEP,qEO,qEN,qEM,qtD,c0,hq,hr,qdZ,qdY,hw,hw2,hwq,hb,ha,qay,List.replicate];rfl,by simp[qag,qad]⟩
theorem qNI:∀(j:Nat) (n:Int) (k:Nat) (neg:Bool) (s:ByteArray),(n=k\/n= -(k:Int))->k<10^j->k<=9223372036854775808->-9223372036854775808<=n->n<=9223372036854775807->s.size+j<=100->
 ∀s0,qag 0 [0,3,4] s0=some (dst n neg s)->qbj XV [] 0 [0,3,4] qra s0=some (.exit 0,⟨[(0,.d (.int .i64 0)),(3,.d (.bool neg)),(4,.d (.str (qqY k++s))),(11,.d (.bool false))],[]⟩):=by
 intro j
 induction j with
 |zero=>
  intro n k neg s hn hk hk2 h1 h2 hs s0 h0;obtain rfl:k=0:=by simpa using hk
  obtain rfl:n=0:=by omega
  refine qaL h0 ?_ (by simp);simp[dst,qra,qv9,qqY,ByteArray.empty_append]
 |succ j ih=>
  intro n k neg s hn hk hk2 h1 h2 hs s0 h0
  by_cases hz:k=0
  ·subst hz
   obtain rfl:n=0:=by omega
   refine qaL h0 ?_ (by simp);simp[dst,qra,qv9,qqY,ByteArray.empty_append]
  ·obtain⟨s',hb,hh⟩:=qOP n k hn hz hk2 h1 h2 neg s (by omega)
   rw[qa7 h0 hb];have hn':n.tdiv 10=((k/10:Nat):Int)\/n.tdiv 10= -((k/10:Nat):Int):=by
    rcases hn with rfl|rfl
    ·left;rfl
    ·right;rw[Int.neg_tdiv];rfl
   have:=ih (n.tdiv 10) (k/10) neg (dgt (k%10)++s) hn' (by rw[Nat.pow_succ]at hk;omega) (by omega) (by omega) (by omega) (by rw[ByteArray.size_append,qeo];omega) s' hh;rw[this,qwV hz]
theorem qg5(n:Int)(h1: -9223372036854775808<=n)(h2:n<=9223372036854775807):qaf XV 39 [.d (.int .i64 n)] []=some (.d (.str (digits n)),[]):=by
 rw[qap XV _ _ _ v39 rfl qDJ rfl]
 by_cases c0:n=0
 ·subst c0
  have hd:digits 0=⟨#[48]⟩:=by rw[show(0:Int)=((0:Nat):Int)from rfl,qgj,qgV (by omega)];rfl
  simp[v39,qES,qER,qEQ,hd]
 ·have c0':(n==0)=false:=by simp[c0]
  have hl:=qNI 20 n n.natAbs (decide (n<0)) ByteArray.empty (by omega) (by omega) (by omega) h1 h2 (by decide) ⟨[(0,.d (.int .i64 n)),(3,.d (.bool (decide (n<0)))),(4,.d (.str ByteArray.empty))],[]⟩ (by simp[qag,qad,dst]);have hd:qqY n.natAbs++ByteArray.empty=qna n.natAbs:=by unfold qqY;rw[if_neg (by omega),ByteArray.append_empty]
  rw[hd]at hl;have hs:=qfg (n:=n.natAbs) (by omega)
  by_cases c:n<0
  ·have ha:qbG .add (.str ⟨#[45]⟩) (.str (qna n.natAbs))=some (.str (digits n)):=by
    unfold digits;rw[if_pos c];exact qaO (a:=qsC) (by rw[qin];omega)
   simp only[c,decide_true]at hl;simp[v39,qES,qER,qEQ,qI9,qI8,c0',c];simp only[show(⟨#[]⟩:ByteArray)=ByteArray.empty from rfl,hl];simp[qzF,qGh,ha]
  ·have hdn:digits n=qna n.natAbs:=by unfold digits;rw[if_neg c]
   simp only[c,decide_false]at hl;simp[v39,qES,qER,qEQ,qI9,qI8,c0',c];simp only[show(⟨#[]⟩:ByteArray)=ByteArray.empty from rfl,hl];simp[qzF,qGg,hdn]
end Go.Proofs.Ytfiakfiocdfpbaa.VS
namespace Go.Proofs.Ytfiakfiocdfpbaa.VS
def txt(p:Nat->ByteArray)(sep:ByteArray):Nat->ByteArray
 |0=>ByteArray.empty
 |k+1=>(if 0<k then txt p sep k++sep else txt p sep k)++p k
def qy7(p:Nat->ByteArray)(sep:ByteArray)(s:ByteArray)(i:Nat):ByteArray⊕Unit:= .inl ((if 0<i then s++sep else s)++p i)
theorem qSY(p:Nat->ByteArray)(sep:ByteArray):∀(k i:Nat),runN (qy7 p sep) k (txt p sep i) i= .inl (txt p sep (i+k))
 |0,i=>rfl
 |k+1,i=>by
  simp only[runN,qy7];have h:=qSY p sep k (i+1);rw[show i+1+k=i+(k+1)by omega]at h;exact h
def strs(p:Nat->ByteArray)(k:Nat):List DV:=(List.range k).map fun i=> .str (p i)
theorem qy4(p:Nat->ByteArray)(k:Nat):strs p (k+1)=strs p k++[.str (p k)]:=by simp[strs,List.range_succ]
@[simp] theorem qPL(p:Nat->ByteArray)(k:Nat):(strs p k).map DV.clr=strs p k:=by simp[strs,List.map_map,Function.comp_def]
theorem inter_snoc(sep:List UInt8)(x:List UInt8):∀l:List (List UInt8),l≠[]->sep.intercalate (l++[x])=sep.intercalate l++(sep++x)
 | [],h=>absurd rfl h
 | [a],_=>by simp[List.intercalate]
 |a::b::r,_=>by
  have ih:=inter_snoc sep x (b::r) (by simp);simp only[List.intercalate,List.cons_append,List.intersperse,List.flatten_cons]at ih⊢
  rw[List.append_assoc,List.append_assoc,<-ih]
theorem qlC(p:Nat->ByteArray)(sep:ByteArray):∀k,joinL ((List.range k).map p) sep=(txt p sep k).data.toList
 |0=>by simp[joinL,txt,List.intercalate]
 |k+1=>by
  have ih:=qlC p sep k;unfold joinL at ih⊢
  rw[List.range_succ,List.map_append,List.map_append];unfold txt
  by_cases hk:0<k
  ·rw[List.map_cons,List.map_nil,List.map_cons,List.map_nil,inter_snoc _ _ _ (by simp;omega),ih,if_pos hk]
   simp[ByteArray.data_append]
  ·obtain rfl:k=0:=by omega
   simp[List.intercalate,txt]
theorem qBd(p:Nat->ByteArray)(sep:ByteArray)(k:Nat):qwE ((List.range k).map p) sep=txt p sep k:=by
 unfold qwE;rw[qlC]
theorem qrO(p:Nat->ByteArray)(k:Nat):strsOf (strs p k)=some ((List.range k).map p):=by
 have:strs p k=((List.range k).map p).map DV.str:=by simp[strs]
 rw[this];generalize (List.range k).map p=l
 induction l with
 |nil=>rfl
 |cons a r ih=>simp[strsOf,ih]
theorem qBc(p:Nat->ByteArray)(sep:ByteArray)(k:Nat)(g:Tag)(B:qan)(hk:k<=140737488355328)(hs:(txt p sep k).size<=140737488355328):
 qaf XV 93 [.d (.sl g (strs p k)),.d (.str sep)] B=some (.d (.str (txt p sep k)),B):=by
 rw[qCt XV 93 _ _ qmn rfl];have hl:(joinL ((List.range k).map p) sep).length<=140737488355328:=by rw[qlC];exact hs
 simp only[qaC,Option.map_some,Option.bind_some,qmn,qrO,List.length_map,List.length_range,hk,hl,and_self,if_true,qBd]
theorem qHJ(p:Nat->ByteArray)(k:Nat)(g:Tag)(hk:k<=1099511627776):qaS 1 16 (.sl U (strs p k)) (.sl g [.str (p k)])=some (.sl U (strs p (k+1))):=by
 have h1:(strs p k).length=k:=by simp[strs]
 have h2:∀x:DV,x∈strs p k->x.cells.length=1:=fun x hx=>by
  simp only[strs,List.mem_map]at hx;obtain⟨i,_,rfl⟩:=hx;rfl
 have h3:(k+1)*16<=140737488355328:=by omega
 simp[qaS,h1,h3,qy4,qm1];exact h2
end Go.Proofs.Ytfiakfiocdfpbaa.VS
namespace Go.Proofs.Ytfiakfiocdfpbaa.VS
end Go.Proofs.Ytfiakfiocdfpbaa.VS
namespace Go.Proofs.Ytfiakfiocdfpbaa.VS
def qcd:List SymL:=[⟨⟨#[116,116]⟩,0,false⟩,⟨⟨#[97]⟩,0,false⟩,⟨⟨#[98]⟩,0,false⟩,⟨⟨#[103]⟩,1,false⟩,⟨⟨#[104]⟩,2,false⟩,⟨⟨#[102]⟩,2,true⟩,⟨⟨#[107]⟩,2,true⟩]
theorem qgg:qaf XV 155 [] []=some (.d (.sl U (qcd.map SymL.enc)),[]):=by
 rw[qap XV _ _ _ qKO rfl qyi rfl];simp[qKO,qGL,qGK,qcd,qay,List.replicate,splice]
structure SigD(l:List SymL):Prop where
 len:l.length<=9
 sym:∀s,s∈l->s.name.size<=9/\-1<=s.arity/\s.arity<=4
theorem SigD.ok{l:List SymL}(h:SigD l):∀s,s∈l->s.ok:=fun s hs=>by
 obtain⟨h1,h2,h3⟩:=h.sym s hs;exact⟨by unfold maxLen;omega,by omega,by omega⟩
theorem SigD.nm{l:List SymL}(h:SigD l)(n:Nat)(hn:9<=n):∀i,i<l.length->(qaw l i).name.size<=n:=fun i hi=>by
 have:=(h.sym _ (qpb hi)).1;omega
theorem qJM(x y:Int)(r:DV):(DV.int .u8 x).like r=(DV.int .u8 y).like r:=by cases r<;>rfl
theorem qFj(bs:List Int):(bs.map (DV.int .u8)).flatMap DV.cells=bs.map (DV.int .u8):=by
 induction bs with
 |nil=>rfl
 |cons b r ih=>simp only[List.map_cons,List.flatMap_cons,ih,DV.cells,List.singleton_append]
theorem qiG(rs:List DV):∀bs:List Int,DV.xrests rs (bs.map (.int .u8))=true
 | []=>by simp[DV.xrests]
 |b::r=>by simp[DV.xrests,DV.xrest,qiG rs r]
theorem qrA(rs:List DV)(h:rs.all (fun r=> !(DV.int .u8 0).like r)=true)(bs:List Int):DV.xrest rs (.sl .sub (bs.map (.int .u8)))=true:=by
 simp only[DV.xrest,qiG,Bool.and_true,qFj];cases bs with
 |nil=>rfl
 |cons b r=>
  have:(rs.all fun r=> !(DV.int .u8 b).like r)=true:=by
   rw[<-h];congr 1;funext r;rw[qJM b 0]
  simp[this]
theorem qf8(rs:List DV)(h:rs.all (fun r=> !(DV.int .u8 0).like r)=true)(bs:List Int)(pos st:Int):qbA rs (qbb bs pos st)=true:=by
 simp only[qbA,qbb,List.all_cons,List.all_nil,AV.xrest];rw[qrA rs h bs];simp only[DV.xrest,Bool.and_self]
@[simp] theorem qN1(s:SymL):qba s.enc=true:=rfl
@[simp] theorem qLr(rs:List DV)(s:SymL):DV.xrest rs s.enc=true:=by
 show DV.xrest rs (.agg [.str s.name,.int .i64 s.arity,.bool s.ac])=true;simp only[DV.xrest,DV.xrests,Bool.and_self]
theorem qbh(bs:List Int)(pos st:Int):AV.clrs (qbb bs pos st)=qbb bs pos st:=by simp[qbb]
theorem qGc:SigD qcd:=by
 refine⟨by decide,fun s hs=> ?_⟩;simp only[qcd,List.mem_cons,List.not_mem_nil,or_false]at hs;rcases hs with rfl|rfl|rfl|rfl|rfl|rfl|rfl<;>exact⟨by decide,by decide,by decide⟩
end Go.Proofs.Ytfiakfiocdfpbaa.VS
namespace Go.Proofs.Ytfiakfiocdfpbaa.VS
mutual
def T.rng:T->Prop
 | .node _ v ks=>(-9223372036854775808<=v/\v<=9223372036854775807)/\T.rngs ks
def T.rngs:List T->Prop
 | []=>True
 |t::r=>t.rng/\T.rngs r
end
theorem T.qdc:∀l:List T,T.rngs l↔∀t,t∈l->t.rng
 | []=>by simp[T.rngs]
 |t::r=>by simp[T.rngs,T.qdc r]
def qcA:ByteArray:=⟨#[44]⟩
def xB:ByteArray:=⟨#[88]⟩
def qe7:ByteArray:=⟨#[40]⟩
def qkr:ByteArray:=⟨#[41]⟩
def qPM:ByteArray:=⟨#[63]⟩
def qeY(l:List SymL)(f:Int):ByteArray:=if qdq l f then(qaw l f.toNat).name else qPM
def qRi(l:List ByteArray)(i:Nat):ByteArray:=(l[i]?).getD ByteArray.empty
mutual
def T.text(l:List SymL):T->ByteArray
 | .node f v ks=>if f= -1 then xB++digits v else if ks.length=0 then qeY l f else qeY l f++qe7++txt (qRi (T.texts l ks)) qcA ks.length++qkr
def T.texts(l:List SymL):List T->List ByteArray
 | []=>[]
 |t::r=>t.text l::T.texts l r
end
theorem T.qro(l:List SymL):∀ks:List T,T.texts l ks=ks.map (T.text l)
 | []=>by unfold T.texts;rfl
 |t::r=>by unfold T.texts;simp[T.qro l r]
def qhr(l:List SymL)(ks:List T)(i:Nat):ByteArray:=qRi (T.texts l ks) i
theorem qsF(l:List SymL){ks:List T}{i:Nat}(h:i<ks.length):qhr l ks i=T.text l (tAt ks i):=by
 unfold qhr qRi;rw[T.qro];simp[qrM h]
theorem qki(l:List SymL)(f v:Int)(ks:List T):T.text l (.node f v ks)=if f= -1 then xB++digits v else if ks.length=0 then qeY l f else qeY l f++qe7++txt (qhr l ks) qcA ks.length++qkr:=by
 simp only[T.text];rfl
theorem qcx{n:Int}(h1: -9223372036854775808<=n)(h2:n<=9223372036854775807):(digits n).size<=21:=by
 have:=qfg (n:=n.natAbs) (by omega);unfold digits;split
 ·rw[ByteArray.size_append,qin];omega
 ·omega
theorem qkj(l:List SymL)(hn:∀i,i<l.length->(qaw l i).name.size<=1048576)(f:Int):(qeY l f).size<=1048576:=by
 unfold qeY;split
 ·rename_i h;exact hn _ (qcZ h).2
 ·have:qPM.size=1:=rfl
  omega
theorem qsK(ks:List T)(i:Nat)(hi:i<ks.length):T.inners (ks.drop i)=(tAt ks i).inner+T.inners (ks.drop (i+1)):=by
 rw[List.drop_eq_getElem_cons hi,qaF hi];simp only[T.inners]
theorem qlA(l:List SymL)(ks:List T)(hp:∀s,s∈ks->(T.text l s).size+1<=1048604*(s.inner+1)):∀k,k<=ks.length->(txt (qhr l ks) qcA k).size+1048604*(T.inners (ks.drop k)+(ks.length-k))<=1048604*(T.inners ks+ks.length)
 |0,_=>by simp[txt]
 |k+1,h=>by
  have ih:=qlA l ks hp k (by omega);have h1:=hp _ (qaH (show k<ks.length by omega));rw[qsK ks k (by omega)]at ih;have h2:(txt (qhr l ks) qcA (k+1)).size<=(txt (qhr l ks) qcA k).size+1+(T.text l (tAt ks k)).size:=by
   have hc:qcA.size=1:=rfl;simp only[txt];rw[qsF l (show k<ks.length by omega)];split<;>simp only[ByteArray.size_append]<;>omega
  omega
theorem qeD(l:List SymL)(hn:∀i,i<l.length->(qaw l i).name.size<=1048576)(t:T)(hr:t.rng):(T.text l t).size+1<=1048604*(t.inner+1):=by
 match t,hr with
 | .node f v ks,hr=>
  simp only[T.rng]at hr;have hk:=qlA l ks (fun s hs=>qeD l hn s ((T.qdc ks).1 hr.2 s hs)) ks.length (Nat.le_refl _);have hd:=qcx hr.1.1 hr.1.2;have hs:=qkj l hn f;have e1:xB.size=1:=rfl;have e2:qe7.size=1:=rfl;have e3:qkr.size=1:=rfl;have e4:T.inners (ks.drop ks.length)=0:=by simp[T.inners]
  rw[e4]at hk;rw[qki];simp only[T.inner];split
  ·simp only[ByteArray.size_append];omega
  ·split
   ·omega
   ·simp only[ByteArray.size_append];omega
termination_by t
decreasing_by
 simp_wf
 have:=List.sizeOf_lt_of_mem hs;omega
def qxr(f v:Int)(ks:List T):qan:=[some [.d (.int .i64 f),.d (.int .i64 v),.d (qaj .sub ks)]]
theorem quH(l:List SymL)(hn:∀i,i<l.length->(qaw l i).name.size<=1048576)(ks:List T)(hr:T.rngs ks)(hi:T.inners ks+ks.length<=1048576)(k:Nat)(hk:k<=ks.length):(txt (qhr l ks) qcA k).size<=1099541000000:=by
 have:=qlA l ks (fun s hs=>qeD l hn s ((T.qdc ks).1 hr s hs)) k hk;omega
theorem qsL(l:List SymL)(hl:l.length<=1048576)(hn:∀i,i<l.length->(qaw l i).name.size<=1048576)(f v:Int)(ks:List T)(hv: -9223372036854775808<=v/\v<=9223372036854775807)(hr:T.rngs ks)(hi:T.inners ks+ks.length<=1048576)
 (hrec:∀s,s∈ks->qaf XV 92 [.d (sg l),.d (s.enc .sub)] []=some (.d (.str (T.text l s)),[])):
 qaf XV 92 [.d (sg l),.d ((T.node f v ks).enc .sub)] []=some (.d (.str (T.text l (.node f v ks))),[]):=by
 rw[qap XV _ _ _ v92 rfl qDk rfl,qki];have hiv:=qj3 (.node f v ks);rw[T.qcj]at hiv;have hd:=qhx v hv.1 hv.2;have hds:=qcx hv.1 hv.2;have e1:xB.size=1:=rfl;have e2:qe7.size=1:=rfl;have e3:qkr.size=1:=rfl
 by_cases c1:f= -1
 ·rw[if_pos c1]
  have b1:(f== -1)=true:=by simp[c1]
  rw[b1]at hiv;have a1:qbG .add (.str ⟨#[88]⟩) (.str (digits v))=some (.str (xB++digits v)):=qaO (a:=xB) (by omega);simp[v92,qpE,qpD,qpC,qpB,qpA,qpz,qpy,qpx,qpw,qpv,qmO,qmN,qmM,qmL,qiQ,splice,qae,qaa,qab,qac,qai,hiv,hd,a1]
 rw[if_neg c1];have b1:(f== -1)=false:=by simp[c1]
 rw[b1]at hiv;have hsy:=qor l (by omega) f;have hnm:qeY l f=if qdq l f then(qaw l f.toNat).name else qPM:=rfl
 have hns:=qkj l hn f;have h:=qat (X:=XV) (T:=XV.lin 92) (L:=1) (live:=[0,5,6,32,33,34]) (b:=qFO) (n:=ks.length) (γ:=Unit) (st:=fun(_:Unit) i=>⟨[(0,.d (sg l)),(5,.d (.str (qeY l f))),(6,.d (.sl U (strs (qhr l ks) i))),(32,.d (qaj .sub ks)),(33,.d (.int .i64 ks.length)),(34,.d (.int .i64 i))],qxr f v ks⟩) (step:=fun _ _=> .inl ())
  (F:=fun _=>(.exit 0,⟨[(0,.d (sg l)),(5,.d (.str (qeY l f))),(6,.d (.sl U (strs (qhr l ks) ks.length))),(32,.d (qaj .sub ks)),(33,.d (.int .i64 ks.length)),(34,.d (.int .i64 ks.length)),(35,.d (.bool false))],qxr f v ks⟩)) (R:=fun _=>(.ret,⟨[],[]⟩))
  (fun _=>⟨by simp,by simp[qFO,qpE,qpD,qpC,qpB,qpA,qpz,qpy,qpx,qpw,qpv,qmO,qmN,qmM,qmL,qiQ]⟩)
  (fun _ i hi=>by
   have hw:=qao (n:=i) (by omega);have hc:=hrec _ (qaH hi);have ha:=fun g=>qHJ (qhr l ks) i g (by omega)
   simp only[qsF l hi]at ha;unfold qxr;refine⟨_,by simp[qFO,qpE,qpD,qpC,qpB,qpA,qpz,qpy,qpx,qpw,qpv,qmO,qmN,qmM,qmL,qiQ,splice,qae,qaa,qab,qac,qai,hi,hw,cut,qaF hi,hc,ha,qay,List.replicate];rfl,by simp[qag,qad]⟩)
  ks.length () 0 ⟨[(0,.d (sg l)),(5,.d (.str (qeY l f))),(6,.d (.sl U [])),(32,.d (qaj .sub ks)),(33,.d (.int .i64 ks.length)),(34,.d (.int .i64 0))],qxr f v ks⟩ (by omega) (by simp[qag,qad,strs,qxr])
 rw[qg7]at h;simp only[qNN,qxr]at h;have hks:=quH l hn ks hr hi ks.length (Nat.le_refl _);have hj0:∀B,qaf XV 93 [.d (.sl .sub (strs (qhr l ks) ks.length)),.d (.str ⟨#[44]⟩)] B=some (.d (.str (txt (qhr l ks) qcA ks.length)),B):=fun B=>qBc (qhr l ks) qcA ks.length .sub B (by omega) (by omega)
 have a1:qbG .add (.str (qeY l f)) (.str ⟨#[40]⟩)=some (.str (qeY l f++qe7)):=qaO (b:=qe7) (by omega);have a2:qbG .add (.str (qeY l f++qe7)) (.str (txt (qhr l ks) qcA ks.length))=some (.str (qeY l f++qe7++txt (qhr l ks) qcA ks.length)):=qaO (by simp only[ByteArray.size_append];omega);have a3:qbG .add (.str (qeY l f++qe7++txt (qhr l ks) qcA ks.length)) (.str ⟨#[41]⟩)=some (.str (qeY l f++qe7++txt (qhr l ks) qcA ks.length++qkr)):=qaO (b:=qkr) (by simp only[ByteArray.size_append];omega);have key:∀nm,nm=qeY l f->(qdq l f=true->nm=(qaw l f.toNat).name):=fun nm h h'=>by rw[h,hnm,if_pos h']
 by_cases c3:ks.length=0
 ·rw[if_pos c3]
  have b3:((ks.length:Int)==0)=true:=by simp[c3]
  cases c2:qdq l f with
  |true=>
   have hlt:=qcZ c2;have hn1:(qaw l f.toNat).name=qeY l f:=by rw[hnm,if_pos c2]
   rw[c2]at hsy;simp[v92,qpE,qpD,qpC,qpB,qpA,qpz,qpy,qpx,qpw,qpv,qmO,qmN,qmM,qmL,qiQ,splice,qae,qaa,qab,qac,qai,hiv,hsy,hlt,qax hlt.2,cut,hn1,c3]
  |false=>
   have hn1:qeY l f=⟨#[63]⟩:=by rw[hnm,c2];rfl
   rw[c2]at hsy;simp[v92,qpE,qpD,qpC,qpB,qpA,qpz,qpy,qpx,qpw,qpv,qmO,qmN,qmM,qmL,qiQ,splice,qae,qaa,qab,qac,qai,hiv,hsy,hn1,c3]
 ·rw[if_neg c3]
  have b3:((ks.length:Int)==0)=false:=beq_eq_false_iff_ne.2 (by omega);cases c2:qdq l f with
  |true=>
   have hlt:=qcZ c2;have hn1:(qaw l f.toNat).name=qeY l f:=by rw[hnm,if_pos c2]
   rw[c2]at hsy;simp[v92,qpE,qpD,qpC,qpB,qpA,qpz,qpy,qpx,qpw,qpv,splice,qae,qaa,qab,qac,qai,hiv,hsy,hlt,qax hlt.2,cut,hn1,b3,qay,List.replicate];rw[h];simp[qiQ,hj0,a1,a2,a3]
  |false=>
   have hn1:qeY l f=⟨#[63]⟩:=by rw[hnm,c2];rfl
   rw[c2]at hsy;rw[hn1]at h a1 a2 a3⊢
   simp[v92,qpE,qpD,qpC,qpB,qpA,qpz,qpy,qpx,qpw,qpv,splice,qae,qaa,qab,qac,qai,hiv,hsy,b3,qay,List.replicate];rw[h];simp[qiQ,hj0,a1,a2,a3]
theorem qlE(l:List SymL)(hl:l.length<=1048576)(hn:∀i,i<l.length->(qaw l i).name.size<=1048576)(t:T)(ht:t.inner<=1048576)(hr:t.rng):qaf XV 92 [.d (sg l),.d (t.enc .sub)] []=some (.d (.str (T.text l t)),[]):=by
 match t,ht,hr with
 | .node f v ks,ht,hr=>
  simp only[T.inner]at ht;simp only[T.rng]at hr;exact qsL l hl hn f v ks hr.1 hr.2 (by omega) (fun s h=>qlE l hl hn s (by have:=T.qaG h;omega) ((T.qdc ks).1 hr.2 s h))
termination_by t
decreasing_by
 simp_wf
 have:=List.sizeOf_lt_of_mem h;omega
def qy6(p:Nat->ByteArray)(s:ByteArray)(i:Nat):ByteArray⊕Unit:= .inl (s++(if 0<i then qcA else qe7)++p i)
def qo7(nm:ByteArray)(p:Nat->ByteArray)(k:Nat):ByteArray:=if 0<k then nm++qe7++txt p qcA k else nm
theorem qSX(nm:ByteArray)(p:Nat->ByteArray):∀(k i:Nat),runN (qy6 p) k (qo7 nm p i) i= .inl (qo7 nm p (i+k))
 |0,i=>rfl
 |k+1,i=>by
  simp only[runN,qy6];have h:=qSX nm p k (i+1);rw[show i+1+k=i+(k+1)by omega]at h;rw[<-h]
  congr 1
  unfold qo7
  by_cases c:0<i
  ·simp only[c,if_true,Nat.succ_pos,txt,ByteArray.append_assoc]
  ·obtain rfl:i=0:=by omega
   simp[txt,ByteArray.append_assoc]
theorem qyV(nm:ByteArray)(p:Nat->ByteArray)(i:Nat):qo7 nm p (i+1)=qo7 nm p i++(if 0<i then qcA else qe7)++p i:=by
 unfold qo7
 by_cases c:0<i
 ·simp only[c,if_true,Nat.succ_pos,txt,ByteArray.append_assoc]
 ·obtain rfl:i=0:=by omega
  simp[txt,ByteArray.append_assoc]
theorem qrS(l:List SymL)(hl:l.length<=1048576)(hn:∀i,i<l.length->(qaw l i).name.size<=1048576)(f v:Int)(ks:List T)(hv: -9223372036854775808<=v/\v<=9223372036854775807)(hr:T.rngs ks)(hi:T.inners ks+ks.length<=1048576)
 (hrec:∀s,s∈ks->qaf XV 98 [.d (sg l),.d (s.enc .sub)] []=some (.d (.str (T.text l s)),[])):
 qaf XV 98 [.d (sg l),.d ((T.node f v ks).enc .sub)] []=some (.d (.str (T.text l (.node f v ks))),[]):=by
 rw[qap XV _ _ _ v98 rfl qDj rfl,qki];have hd:=qg5 v hv.1 hv.2;have hds:=qcx hv.1 hv.2;have e1:xB.size=1:=rfl;have e2:qe7.size=1:=rfl;have e3:qkr.size=1:=rfl;have e4:qcA.size=1:=rfl
 by_cases c1:f= -1
 ·rw[if_pos c1]
  have a1:qbG .add (.str ⟨#[88]⟩) (.str (digits v))=some (.str (xB++digits v)):=qaO (a:=xB) (by omega);simp[v98,qr8,qr7,qr6,qr5,qr4,qr3,qr2,qzq,qzo,qpu,qpt,qps,qzp,qhd,qhc,qhb,splice,qae,qaa,qab,qac,qai,c1,hd,a1]
 rw[if_neg c1];have b1:(f== -1)=false:=by simp[c1]
 have hw1:IntKind.i64.wrap ((l.length:Int)-1)=(l.length:Int)-1:=wrap_i64 (by omega) (by omega);have hsy:=qfN f 0 ((l.length:Int)-1)
 change _=some (AV.d (.bool (qdq l f)),[])at hsy
 have hnm:qeY l f=if qdq l f then(qaw l f.toNat).name else qPM:=rfl
 have hns:=qkj l hn f;have hszO:∀k,k<=ks.length->(qo7 (qeY l f) (qhr l ks) k).size<=1099542100000:=fun k hk=>by
  have:=quH l hn ks hr hi k hk;unfold qo7;split
  ·simp only[ByteArray.size_append];omega
  ·omega
 have h:=qho (X:=XV) (T:=XV.lin 98) (L:=1) (live:=[0,3,5,6]) (b:=qCC) (n:=ks.length) (γ:=Unit) (st:=fun(s:ByteArray) i=>⟨[(0,.d (sg l)),(3,.ptr 0 0),(5,.d (.str s)),(6,.d (.int .i64 i))],qxr f v ks⟩) (step:=qy6 (qhr l ks))
  (F:=fun s=>(.exit 0,⟨[(0,.d (sg l)),(3,.ptr 0 0),(5,.d (.str s)),(6,.d (.int .i64 ks.length)),(30,.d (.bool false))],qxr f v ks⟩)) (R:=fun _=>(.ret,⟨[],[]⟩))
  (fun s i=>s=qo7 (qeY l f) (qhr l ks) i)
  (fun _ _=>⟨by simp,by simp[qCC,qr8,qr7,qr6,qr5,qr4,qr3,qr2,qzq,qzo,qpu,qpt,qps,qzp,qhd,qhc,qhb,qxr]⟩)
  (fun s i hi hs=>by
   subst hs;have hw:=qao (n:=i) (by omega);have hc:=hrec _ (qaH hi);have hz:=hszO i (by omega);have hts:=qeD l hn (tAt ks i) ((T.qdc ks).1 hr _ (qaH hi));have hti:=T.qaG (qaH hi);refine⟨?_,fun a' h=>by simp only[qy6,Sum.inl.injEq]at h;rw[<-h,qyV]⟩;unfold qy6 qxr;rw[qsF l hi];generalize qo7 (qeY l f) (qhr l ks) i=t0 at*
   by_cases c0:0<i
   ·have c0':((i:Int)==0)=false:=beq_eq_false_iff_ne.2 (by omega)
    have a1:qbG .add (.str t0) (.str ⟨#[44]⟩)=some (.str (t0++qcA)):=qaO (b:=qcA) (by omega);have a2:qbG .add (.str (t0++qcA)) (.str (T.text l (tAt ks i)))=some (.str (t0++qcA++T.text l (tAt ks i))):=qaO (by simp only[ByteArray.size_append];omega);rw[if_pos c0];refine⟨_,by simp[qCC,qr8,qr7,qr6,qr5,qr4,qr3,qr2,qzq,qzo,qpu,qpt,qps,qzp,qhd,qhc,qhb,splice,qae,qaa,qab,qac,qai,hi,hw,cut,qaF hi,hc,c0',a1,a2];rfl,by simp[qag,qad]⟩
   ·have c0':((i:Int)==0)=true:=by simp;omega
    have a1:qbG .add (.str t0) (.str ⟨#[40]⟩)=some (.str (t0++qe7)):=qaO (b:=qe7) (by omega);have a2:qbG .add (.str (t0++qe7)) (.str (T.text l (tAt ks i)))=some (.str (t0++qe7++T.text l (tAt ks i))):=qaO (by simp only[ByteArray.size_append];omega);rw[if_neg c0];refine⟨_,by simp[qCC,qr8,qr7,qr6,qr5,qr4,qr3,qr2,qzq,qzo,qpu,qpt,qps,qzp,qhd,qhc,qhb,splice,qae,qaa,qab,qac,qai,hi,hw,cut,qaF hi,hc,c0',a1,a2];rfl,by simp[qag,qad]⟩)
  ks.length (qeY l f) 0 ⟨[(0,.d (sg l)),(3,.ptr 0 0),(5,.d (.str (qeY l f))),(6,.d (.int .i64 0))],qxr f v ks⟩ (by omega) rfl (by simp[qag,qad,qxr])
 have hr2:=qSX (qeY l f) (qhr l ks) ks.length 0;rw[Nat.zero_add,show qo7 (qeY l f) (qhr l ks) 0=qeY l f from rfl]at hr2;rw[hr2]at h;simp only[qNM,qxr]at h;have hz:=hszO ks.length (Nat.le_refl _);have a3:qbG .add (.str (qo7 (qeY l f) (qhr l ks) ks.length)) (.str ⟨#[41]⟩)=some (.str (qo7 (qeY l f) (qhr l ks) ks.length++qkr)):=qaO (b:=qkr) (by omega);have fin:(if ks.length=0 then qeY l f else qeY l f++qe7++txt (qhr l ks) qcA ks.length++qkr)=if 0<ks.length then qo7 (qeY l f) (qhr l ks) ks.length++qkr else qo7 (qeY l f) (qhr l ks) ks.length:=by
  unfold qo7
  by_cases c:ks.length=0
  ·simp[c]
  ·have c':0<ks.length:=by omega
   simp only[c,c',if_false,if_true]
 rw[fin];generalize qo7 (qeY l f) (qhr l ks) ks.length=tt at*
 cases c2:qdq l f with
 |true=>
  have hlt:=qcZ c2;have hn1:(qaw l f.toNat).name=qeY l f:=by rw[hnm,if_pos c2]
  rw[c2]at hsy;simp[v98,qr8,qr7,qr6,qr5,qr4,qr3,qr2,splice,qae,qaa,qab,qac,qai,b1,hw1,hsy,hlt,qax hlt.2,cut,hn1];rw[h]
  by_cases c3:0<ks.length
  ·simp[qhd,qhc,qhb,c3,a3]
  ·simp[qhd,qhc,qhb,c3]
 |false=>
  have hn1:qeY l f=⟨#[63]⟩:=by rw[hnm,c2];rfl
  rw[c2]at hsy;rw[hn1]at h;simp[v98,qr8,qr7,qr6,qr5,qr4,qr3,qr2,splice,qae,qaa,qab,qac,qai,b1,hw1,hsy,cut];rw[h]
  by_cases c3:0<ks.length
  ·simp[qhd,qhc,qhb,c3,a3]
  ·simp[qhd,qhc,qhb,c3]
theorem qko(l:List SymL)(hl:l.length<=1048576)(hn:∀i,i<l.length->(qaw l i).name.size<=1048576)(t:T)(ht:t.inner<=1048576)(hr:t.rng):qaf XV 98 [.d (sg l),.d (t.enc .sub)] []=some (.d (.str (T.text l t)),[]):=by
 match t,ht,hr with
 | .node f v ks,ht,hr=>
  simp only[T.inner]at ht;simp only[T.rng]at hr;exact qrS l hl hn f v ks hr.1 hr.2 (by omega) (fun s h=>qko l hl hn s (by have:=T.qaG h;omega) ((T.qdc ks).1 hr.2 s h))
termination_by t
decreasing_by
 simp_wf
 have:=List.sizeOf_lt_of_mem h;omega
end Go.Proofs.Ytfiakfiocdfpbaa.VS
namespace Go.Proofs.Ytfiakfiocdfpbaa.VS
theorem qb7{bs:List Int}{q:Nat}{B R B':qan}(hq:q<B.length)(h:qch bs q (B++R) B'):∃B1,qch bs q B B1/\B1.length=B.length/\B'=B1++R:=by
 obtain⟨pos,st,hp,rfl⟩:=h;exact⟨B.set q (some (qbb bs pos st)),⟨pos,st,hp,rfl⟩,by simp,by rw[List.set_append_left _ _ hq]⟩
theorem qcB.app{bs:List Int}{q:Nat}{B:qan}(h:qcB bs q B)(R:qan):qcB bs q (B++R):=by
 have hq:=h.lt;obtain⟨pos,st,hp,hb⟩:=h;exact⟨pos,st,hp,by have:=qda hb;simp[qa6,List.getElem?_append_left hq,this]⟩
theorem qhG(A:qan)(c:Option (List AV))(L:Nat)(h:A.length=L):(A++[c])[L]?=some c:=by subst h;simp
theorem qjs(A:qan)(c c':Option (List AV))(L:Nat)(h:A.length=L):(A++[c]).set L c'=A++[c']:=by subst h;simp
theorem qBW(A:qan)(c:Option (List AV))(L:Nat)(h:A.length=L):(A++[c]).take L=A:=by subst h;simp
theorem qlk(bs:List Int)(hl:bs.length<=1099511627776)(B:qan)(i:Nat)(h:qcB bs i B)(n:Int)(hn:0<n)(hn2:n<=256):∃(b:Bool) (B':qan),qch bs i B B'/\qaf XV 162 [.ptr i 0,.d (.int .i64 n)] B=some (.d (.bool b),B'):=by
 obtain⟨r,B',hr,hT,hc⟩:=qcv bs hl B i h n hn hn2;have hi:=h.lt;have hlen:=hT.len;have htake:List.take B.length B'=B':=List.take_of_length_le (by omega);refine⟨r==0,B',hT,?_⟩;rw[qap XV _ _ _ qKI rfl qyb rfl];simp[qKI,qGx,qGw,hc,htake,hi]
theorem qoq(f:Int)(ks:List T):qaf XV 164 [.d (.int .i64 f),.d (qaj .sub ks)] []=some (.d ((T.node f 0 ks).enc .sub),[]):=by
 rw[qap XV _ _ _ v164 rfl qx9 rfl];simp[v164,qGt,qGs,splice,qaa,qab,qac,qai,qae]
theorem qyN{n:Nat}(h:n<9223372036854775808):IntKind.i64.wrap (((n+1:Nat):Int)-1)=n:=by
 rw[show((n+1:Nat):Int)-1=n by omega];exact wrap_i64 (by omega) (by omega)
def qlx:VCode:=(.seq (.seq (.region false 0 [0,2,6,20] qpP) (.cond (.t 20) (.seq (.region false 0 [6] qAj) .ret) .skip)) (.seq (.region false 0 [6] qtT) .ret))
def qsZ:VCode:=(.seq (.region false 0 [0,1,2,6,7] qtS) (.seq (.region false 0 [0,1,2,6,7,8] qtR) (.seq (.seq (.region false 0 [0,1,2,6,7,8,39] qtQ) (.cond (.t 39) (.region false 0 [6,7,8] qtP) .skip)) (.seq (.region false 0 [6] qtO) .ret))))
def qiB:VCode:= .seq (.seq (.region false 0 [0,1,2,6,14] qmQ) (.cond (.t 14) qlx .skip)) qsZ
theorem qIo:qKG=⟨3,[.cell 6 true 3],.seq (.region false 1 [0,1,2,6] qAk) qiB⟩:=rfl
theorem quW(bs:List Int)(hl:bs.length<=1099511627776)(deep vars:Int)(hv:vars<=256)(B:qan)(q:Nat)(h:qcB bs q B)(L:Nat)(hL:B.length=L)(C:Option (List AV))(hC:C=some [.d (.int .i64 0),.d (.int .i64 0),.d (.sl U [])]):
 ∃(t:T) (g:Tag) (B':qan),(t.inner=0/\t.rng)/\qch bs q B B'/\B'.length=L/\
  qau XV (XV.lin 166) qlx ⟨[(0,.ptr q 0),(1,.d (.int .i64 deep)),(2,.d (.int .i64 vars)),(6,.ptr L 0),(14,.d (.bool true))],B++[C]⟩=
   some (.ret,⟨[(6,.ptr L 0)],B'++[some [.d (.int .i64 t.f),.d (.int .i64 t.v),.d (.sl g (t.kids.map (T.enc g)))]]⟩):=by
 subst hC;have hq:=h.lt;have leaf2:∀B1:qan,qch bs q B B1->B1.length=L->∃(t:T) (g:Tag) (B':qan),(t.inner=0/\t.rng)/\qch bs q B B'/\B'.length=L/\
  ∀b20:AV,qau XV (XV.lin 166) (.seq (.region false 0 [6] qtT) .ret) ⟨[(0,.ptr q 0),(2,.d (.int .i64 vars)),(6,.ptr L 0),(20,b20)],B1++[some [.d (.int .i64 0),.d (.int .i64 0),.d (.sl U [])]]⟩=
   some (.ret,⟨[(6,.ptr L 0)],B'++[some [.d (.int .i64 t.f),.d (.int .i64 t.v),.d (.sl g (t.kids.map (T.enc g)))]]⟩):=by
  intro B1 hT1 hL1;obtain⟨r,B2,hr,hT2,hc⟩:=qcv bs hl _ q ((hT1.at hq).app [some [.d (.int .i64 0),.d (.int .i64 0),.d (.sl U [])]]) 2 (by omega) (by omega);obtain⟨B3,hT3,hL3,rfl⟩:=qb7 (by omega) hT2;rw[hL1]at hL3;have hw:IntKind.i64.wrap (1+r)=1+r:=wrap_i64 (by omega) (by omega);refine⟨.node (1+r) 0 [],U,B3,by simp[T.inner,T.inners,T.rng,T.rngs],hT1.trans hT3,hL3,fun b20=> ?_⟩;simp[qtT,hc,hw,hL3,qhG,qjs,splice,qaa,qab,qac,qai]
 by_cases hv0:0<vars
 ·obtain⟨b,B2,hT2,hc⟩:=qlk bs hl _ q (h.app [some [.d (.int .i64 0),.d (.int .i64 0),.d (.sl U [])]]) 2 (by omega) (by omega)
  obtain⟨B3,hT3,hL3,rfl⟩:=qb7 hq hT2;cases b with
  |true=>
   obtain⟨r,B4,hr,hT4,hc4⟩:=qcv bs hl _ q ((hT3.at hq).app [some [.d (.int .i64 0),.d (.int .i64 0),.d (.sl U [])]]) vars hv0 hv;obtain⟨B5,hT5,hL5,rfl⟩:=qb7 (by omega) hT4;have hlv:=qop r;rw[hL3,hL]at hL5;refine⟨.node (-1) r [],U,B5,by simp[T.inner,T.inners,T.rng,T.rngs];omega,hT3.trans hT5,hL5,?_⟩;simp[qlx,qpP,qAj,hv0,hc,hc4,hlv,hL5,qhG,qjs,splice,qaa,qab,qac,qai]
  |false=>
   obtain⟨t,g,B',h1,h2,h3,h4⟩:=leaf2 B3 hT3 (by omega);refine⟨t,g,B',h1,h2,h3,?_⟩;have h4':=h4 (.d (.bool false));simp only[qlv]at h4';simp[qlx,qpP,hv0,hc];simpa using h4'
 ·obtain⟨t,g,B',h1,h2,h3,h4⟩:=leaf2 B (by
   obtain⟨pos,st,hp,hb⟩:=h;refine⟨pos,st,hp,?_⟩;apply List.ext_getElem?;intro j
   by_cases hj:q=j
   ·subst hj;rw[List.getElem?_set_self',qda hb];simp
   ·rw[List.getElem?_set_ne hj]) hL
  refine⟨t,g,B',h1,h2,h3,?_⟩;have h4':=h4 (.d (.bool false));simp only[qlv]at h4';simp[qlx,qpP,hv0];simpa using h4'
theorem qj8(L:Nat)(B B':qan)(q:Nat)(deep vars:Int)(t:T)(g:Tag)(hq:q<B.length)(hL:B.length=L)(hL':B'.length=L)
 (h:qau XV (XV.lin 166) qiB ⟨[(0,.ptr q 0),(1,.d (.int .i64 deep)),(2,.d (.int .i64 vars)),(6,.ptr L 0)],B++[some [.d (.int .i64 0),.d (.int .i64 0),.d (.sl U [])]]⟩=
  some (.ret,⟨[(6,.ptr L 0)],B'++[some [.d (.int .i64 t.f),.d (.int .i64 t.v),.d (.sl g (t.kids.map (T.enc g)))]]⟩)):
 qaf XV 166 [.ptr q 0,.d (.int .i64 deep),.d (.int .i64 vars)] B=some (.d (t.enc g),B'):=by
 rw[qap XV _ _ _ qKG rfl qx7 rfl,qIo];simp only[qlv]at h;obtain⟨f,v,ks⟩:=t;simp only[T.qcj,T.qcV,T.qaQ]at h;simp[qAk,hL,qhG,qjs,hq];rw[h];simp[hL',qhG,qBW,qae]
theorem qgU(bs:List Int)(hl:bs.length<=1099511627776):∀(d:Nat),d<=8->∀(vars:Int),vars<=256->∀(B:qan) (q:Nat),qcB bs q B->
 ∃(t:T) (g:Tag) (B':qan),(t.inner+2<=2^(d+1)/\t.rng)/\qch bs q B B'/\qaf XV 166 [.ptr q 0,.d (.int .i64 d),.d (.int .i64 vars)] B=some (.d (t.enc g),B'):=by
 intro d
 induction d with
 |zero=>
  intro _ vars hv B q hs;obtain⟨t,g,B',h1,h2,h3,h4⟩:=quW bs hl 0 vars hv B q hs B.length rfl _ rfl;refine⟨t,g,B',⟨by omega,h1.2⟩,h2,qj8 B.length B B' q 0 vars t g hs.lt rfl h3 ?_⟩;simp only[qlv]at h4⊢
  simp[qiB,qmQ];rw[h4];simp
 |succ d ih=>
  intro hd vars hv B q hs;have hq:=hs.lt;obtain⟨b,B2,hT2,hc⟩:=qlk bs hl _ q (hs.app [some [.d (.int .i64 0),.d (.int .i64 0),.d (.sl U [])]]) 3 (by omega) (by omega);obtain⟨B3,hT3,hL3,rfl⟩:=qb7 hq hT2;have hne:(((d+1:Nat):Int)==0)=false:=by simpa using (show¬(((d+1:Nat):Int)=0)by omega)
  cases b with
  |true=>
   obtain⟨t,g,B',h1,h2,h3,h4⟩:=quW bs hl ((d+1:Nat):Int) vars hv B3 q (hT3.at hq) B.length hL3 _ rfl;refine⟨t,g,B',⟨by have:2^1<=2^(d+1+1):=Nat.pow_le_pow_right (by omega) (by omega);omega,h1.2⟩,hT3.trans h2,qj8 B.length B B' q _ vars t g hq rfl h3 ?_⟩;simp only[qlv]at h4⊢
   generalize ((d+1:Nat):Int)=D at*
   simp[qiB,qmQ,hne,hc];rw[h4];simp
  |false=>
   obtain⟨j,hj,B4,hT4,hc4⟩:=qdt bs hl _ q ((hT3.at hq).app [some [.d (.int .i64 0),.d (.int .i64 0),.d (.sl U [])]]) [3,4,5,5,6] (by simp) (by simp);obtain⟨B5,hT5,hL5,rfl⟩:=qb7 (by omega) hT4;generalize ([3,4,5,5,6]:List Int)[j]=f at hc4;obtain⟨t1,g1,B6,hi1,hT6,hc6⟩:=ih (by omega) vars hv _ q ((hT5.at (by omega)).app [some [.d (.int .i64 0),.d (.int .i64 0),.d (.sl U [])]]);obtain⟨B7,hT7,hL7,rfl⟩:=qb7 (by omega) hT6;have hw:=qyN (n:=d) (by omega)
   by_cases hf:3<f
   ·obtain⟨t2,g2,B8,hi2,hT8,hc8⟩:=ih (by omega) vars hv _ q ((hT7.at (by omega)).app [some [.d (.int .i64 0),.d (.int .i64 0),.d (.sl U [])]])
    obtain⟨B9,hT9,hL9,rfl⟩:=qb7 (by omega) hT8;have hof:qaf XV 164 [.d (.int .i64 f),.d (.sl .sub [t1.enc .sub,t2.enc .sub])] []=some (.d (.agg [.int .i64 f,.int .i64 0,.sl .sub [t1.enc .sub,t2.enc .sub]]),[]):=by
     have:=qoq f [t1,t2];rw[T.qbF]at this;exact this
    refine⟨.node f 0 [t1,t2],.sub,B9,⟨by simp only[T.inner,T.inners,List.length_cons,List.length_nil];rw[Nat.pow_succ];omega,by simp[T.rng,T.rngs,hi1.2,hi2.2]⟩,hT3.trans (hT5.trans (hT7.trans hT9)),qj8 B.length B B9 q _ vars _ .sub hq rfl (by omega) ?_⟩;have e9:B9.length=B.length:=by omega
    have e7:B7.length=B.length:=by omega
    have e5:B5.length=B.length:=by omega
    simp only[List.map_cons,List.map_nil]at hc4;generalize ((d+1:Nat):Int)=D at*
    generalize (d:Int)=D0 at*
    simp[qiB,qsZ,qmQ,qtS,qtR,qtQ,qtP,qtO,hne,hc,hc4,hw,hc6,hf,hc8,hof,e9,qay,List.replicate,qhG,qjs,splice,qaa,qab,qac,qai,qaS]
   ·have hof:qaf XV 164 [.d (.int .i64 f),.d (.sl .sub [t1.enc .sub])] []=some (.d (.agg [.int .i64 f,.int .i64 0,.sl .sub [t1.enc .sub]]),[]):=by
     have:=qoq f [t1];rw[T.qbF]at this;exact this
    refine⟨.node f 0 [t1],.sub,B7,⟨by simp only[T.inner,T.inners,List.length_cons,List.length_nil];rw[Nat.pow_succ];omega,by simp[T.rng,T.rngs,hi1.2]⟩,hT3.trans (hT5.trans hT7),qj8 B.length B B7 q _ vars _ .sub hq rfl (by omega) ?_⟩;have e7:B7.length=B.length:=by omega
    have e5:B5.length=B.length:=by omega
    simp only[List.map_cons,List.map_nil]at hc4;generalize ((d+1:Nat):Int)=D at*
    generalize (d:Int)=D0 at*
    simp[qiB,qsZ,qmQ,qtS,qtR,qtQ,qtP,qtO,hne,hc,hc4,hw,hc6,hf,hof,e7,qay,List.replicate,qhG,qjs,splice,qaa,qab,qac,qai,qaS]
end Go.Proofs.Ytfiakfiocdfpbaa.VS
namespace Go.Proofs.Ytfiakfiocdfpbaa.VS
theorem qFW(s:List SymL)(f:Int)(k:T)(h:k.rng):T.rngs (qno s f k):=by
 unfold qno;split
 ·obtain⟨a,b,c⟩:=k;exact h.2
 ·exact⟨h,trivial⟩
theorem qnL{a b:List T}(h1:T.rngs a)(h2:T.rngs b):T.rngs (a++b):=by
 rw[T.qdc]at*
 intro t ht;rcases List.mem_append.1 ht with h|h
 ·exact h1 t h
 ·exact h2 t h
theorem qqJ(s:List SymL)(f:Int):∀l:List T,T.rngs l->T.rngs (flatK s f l)
 | [],_=>by simp[flatK,T.rngs]
 |k::l,h=>by rw[qbM];exact qnL (qFW s f k h.1) (qqJ s f l h.2)
mutual
theorem qom(s:List SymL):∀t:T,t.rng->(t.norm s).rng
 | .node f v ks,h=>by
  have h2:=qqJ s f _ (qql s ks h.2);simp only[T.norm];split
  ·refine⟨h.1,?_⟩
   rw[T.qdc]at h2⊢
   exact fun t ht=>h2 t ((qcT _).mem_iff.1 ht)
  ·exact⟨h.1,h2⟩
theorem qql(s:List SymL):∀l:List T,T.rngs l->T.rngs (T.norms s l)
 | [],_=>trivial
 |t::r,h=>⟨qom s t h.1,qql s r h.2⟩
end
theorem qf0(bs:List Int)(hl:bs.length<=1099511627776)(vars:Int)(hv:vars<=256)(B:qan)(q:Nat)(h:qcB bs q B):
 ∃(t:T) (B':qan),(t.inner<=6/\t.rng)/\(∃u,t=T.norm qcd u)/\qch bs q B B'/\qaf XV 163 [.ptr q 0,.d (.int .i64 vars)] B=some (.d (t.enc U),B'):=by
 have hq:=h.lt;obtain⟨t,g,B1,hi,hT,hc⟩:=qgU bs hl 2 (by omega) vars hv _ q (h.app [some [.d (.int .i64 0),.d (.int .i64 0),.d (.sl U [])]]);obtain⟨B2,hT2,hL2,rfl⟩:=qb7 hq hT;have hn:=qeZ qcd (by decide) t (by omega);have hin:=qdL qcd t;refine⟨t.norm qcd,B2,⟨by omega,qom qcd t hi.2⟩,⟨t,rfl⟩,hT2,?_⟩;rw[qap XV _ _ _ qKH rfl qya rfl];have hsg:=qgg;rw[qqn]at hn;have e:(t.norm qcd).enc U= .agg [.int .i64 t.f,.int .i64 t.v,.sl U (qxB qcd t)]:=by rw[<-qqn];rfl
 rw[e];generalize qxB qcd t=X at*
 have hc':qaf XV 166 [AV.ptr q 0,AV.d (DV.int IntKind.i64 2),AV.d (DV.int IntKind.i64 vars)] (B++[some [AV.d (DV.int IntKind.i64 0),AV.d (DV.int IntKind.i64 0),AV.d (DV.sl U [])]])=some (AV.d (t.enc g),B2++[some [AV.d (DV.int IntKind.i64 0),AV.d (DV.int IntKind.i64 0),AV.d (DV.sl U [])]]):=hc;simp[qKH,qGv,qGu,hq,hsg,hc',hn,hL2,qhG,qjs,qBW,qae,splice,qaa,qab,qac,qai]
end Go.Proofs.Ytfiakfiocdfpbaa.VS
namespace Go.Proofs.Ytfiakfiocdfpbaa.VS
def fc(l:List T):List DV:=l.flatMap fun t=>(t.enc U).cells
def fcs(l:List T):List DV:=l.flatMap fun t=>(t.enc .sub).cells
theorem qRR(l:List T):(l.map (T.enc U)).flatMap DV.cells=fc l:=by unfold fc;rw[List.flatMap_map]
theorem qiu(t:T)(l:List T):fc (t::l)= .int .i64 t.f:: .int .i64 t.v:: .sl U (t.kids.map (T.enc U))::fc l:=by
 unfold fc;rw[List.flatMap_cons,T.qbF];rfl
theorem qhD(t:T)(l:List T):fcs (t::l)= .int .i64 t.f:: .int .i64 t.v:: .sl .sub (t.kids.map (T.enc .sub))::fcs l:=by
 unfold fcs;rw[List.flatMap_cons,T.qbF];rfl
theorem qOd(a b:List T):fc (a++b)=fc a++fc b:=by unfold fc;simp
theorem qBE(a b:List T):fcs (a++b)=fcs a++fcs b:=by unfold fcs;simp
theorem qqP:∀l:List T,(fc l).map DV.clr=fcs l
 | []=>rfl
 |t::l=>by rw[qiu,qhD,List.map_cons,List.map_cons,List.map_cons,qqP l];simp
theorem qgG:∀l:List T,(fc l).length=l.length*3
 | []=>rfl
 |t::l=>by rw[qiu];simp[qgG l];omega
theorem qBD:∀l:List T,(fcs l).length=l.length*3
 | []=>rfl
 |t::l=>by rw[qhD];simp[qBD l];omega
theorem qhz(f:AV->Option DV):∀(a b:List AV) {x y:List DV},qem f a=some x->qem f b=some y->qem f (a++b)=some (x++y)
 | [],b,x,y,h1,h2=>by simp[qem]at h1;subst h1;simpa using h2
 |v::a,b,x,y,h1,h2=>by
  simp only[qem]at h1;obtain⟨d,e1,h1⟩:=Option.bind_eq_some_iff.1 h1;obtain⟨x',e2,rfl⟩:=Option.map_eq_some_iff.1 h1;simp only[List.cons_append,qem,e1,qhz f a b e2 h2,Option.bind_some,Option.map_some]
theorem qm5(M:qan)(n:Nat):∀l:List DV,qem (AV.frzC M n) (l.map .d)=some l
 | []=>rfl
 |d::l=>by
  simp only[List.map_cons,qem,qHs,qm5 M n l,Option.bind_some,Option.map_some]
theorem qlX{d:DV}{k:IntKind}{n:Int}(h:d.clr= .int k n):d= .int k n:=by
 cases d<;>simp[DV.clr]at h⊢<;>exact h
theorem qxa{d:DV}{l:List DV}(h:d.clr= .sl .sub l):∃g xs,d= .sl g xs/\DV.clrs xs=l:=by
 cases d<;>simp[DV.clr]at h
 exact⟨_,_,rfl,h⟩
theorem qsT{t:T}{l:List T}{ds:List DV}(h:ds.map DV.clr=fcs (t::l)):∃g xs r,ds= .int .i64 t.f:: .int .i64 t.v:: .sl g xs::r/\DV.clrs xs=t.kids.map (T.enc .sub)/\r.map DV.clr=fcs l:=by
 rw[qhD]at h
 match ds,h with
 | [],h=>simp at h
 | [_],h=>simp at h
 | [_,_],h=>simp at h
 |d0::d1::d2::r,h=>
  simp only[List.map_cons,List.cons.injEq]at h;obtain⟨h0,h1,h2,h3⟩:=h;obtain⟨g,xs,rfl,hx⟩:=qxa h2;exact⟨g,xs,r,by rw[qlX h0,qlX h1],hx,h3⟩
theorem quT:∀(l:List T) (ds:List DV),ds.map DV.clr=fcs l->ds.all DV.isCell=true
 | [],ds,h=>by
  have:ds=[]:=by simpa[fcs]using h
  subst this;rfl
 |t::l,ds,h=>by
  obtain⟨g,xs,r,rfl,hx,hr⟩:=qsT h;simp[qaa,qab];simpa using quT l r hr
theorem qm7:∀(l:List T) (ds:List DV),ds.map DV.clr=fcs l->∃xs,chunks true 3 l.length ds=some xs/\xs.map DV.clr=l.map (T.enc .sub)
 | [],ds,h=>⟨[],rfl,rfl⟩
 |t::l,ds,h=>by
  obtain⟨g,xs,r,rfl,hx,hr⟩:=qsT h;obtain⟨ys,h1,h2⟩:=qm7 l r hr;refine⟨.agg [.int .i64 t.f,.int .i64 t.v,.sl g xs]::ys,?_,?_⟩
  ·simp[chunks,cut,qaa,qab,h1,DV.cells]
  ·rw[List.map_cons,List.map_cons,h2,T.qbF]
   simp only[DV.clr,DV.clrs,hx]
theorem qKv(B:qan)(i:Nat)(h:2<=i):qa6 (qcu 2 B) i=qa6 B i:=by
 unfold qa6 qcu;rw[List.getElem?_append_right (by simp;exact h),List.length_replicate,List.getElem?_drop,show 2+(i-2)=i by omega]
def Ctx(j:Nat)(B:qan)(A D:List T)(N:Nat):Prop:=
 ∀(B':qan) (cs:List AV) (u:T) (ds:List DV),B'.length=6->(∀i,j<i->B'[i]?=B[i]?)->B'[j]?=some (some cs)->qem (AV.frzC (qcu 2 B') (j+1)) cs=some ds->ds.map DV.clr=fcs (A++u::D)->
  ∃(c5:List AV) (ds5:List DV) (t':T),B'[5]?=some (some c5)/\qem (AV.frzC (qcu 2 B') 6) c5=some ds5/\ds5.map DV.clr=fcs [t']/\t'.inner<=N+u.inner/\(u.rng->t'.rng)
theorem Ctx.base(B:qan):Ctx 5 B [] [] 0:=fun B' cs u ds h1 h2 h3 h4 h5=>⟨cs,ds,u,h3,h4,h5,by omega,id⟩
theorem qgh:∀a b:List T,T.inners (a++b)=T.inners a+T.inners b
 | [],b=>by simp[T.inners]
 |t::a,b=>by simp only[List.cons_append,T.inners,qgh a b];omega
theorem Ctx.step{j:Nat}{B B1:qan}{A D A' D':List T}{N m:Nat}{f v:Int}(hj:2<=j)(h:Ctx (j+1) B A D N)(hag:∀i,j+1<i->B1[i]?=B[i]?)
 (hat:B1[j+1]?=some (some ((fc A).map .d++([.d (.int .i64 f),.d (.int .i64 v),.tsl true j 3 m]++(fc D).map .d)))) (hm:A'.length+1+D'.length=m) (hv: -9223372036854775808<=v/\v<=9223372036854775807) (hA:T.rngs A') (hD:T.rngs D'):Ctx j B1 A' D' (N+(m+T.inners A'+T.inners D')):=by
 intro B' cs u ds h1 h2 h3 h4 h5;have hlen:ds.length=m*3:=by
  have:=congrArg List.length h5;rw[List.length_map,qBD]at this;rw[this];simp only[List.length_append,List.length_cons];rw[<-hm];congr 1;omega
 obtain⟨xs,hx1,hx2⟩:=qm7 _ _ h5;have hm':(A'++u::D').length=m:=by simp only[List.length_append,List.length_cons];omega
 rw[hm']at hx1;have htsl:AV.frzC (qcu 2 B') (j+1+1) (.tsl true j 3 m)=some (.sl .sub xs):=by
  simp only[AV.frzC];rw[qKv _ _ hj];simp only[qa6,h3,Option.bind_some,h4,hlen,if_true,hx1,Option.map_some]
 have hmid:qem (AV.frzC (qcu 2 B') (j+1+1)) [.d (.int .i64 f),.d (.int .i64 v),.tsl true j 3 m]=some [.int .i64 f,.int .i64 v,.sl .sub xs]:=by
  simp only[qem,htsl,qHs,Option.bind_some,Option.map_some]
 have hfr:=qhz _ _ _ (qm5 (qcu 2 B') (j+1+1) (fc A)) (qhz _ _ _ hmid (qm5 (qcu 2 B') (j+1+1) (fc D)));have hclr:(fc A++([DV.int .i64 f,DV.int .i64 v,DV.sl .sub xs]++fc D)).map DV.clr=fcs (A++(T.node f v (A'++u::D'))::D):=by
  rw[List.map_append,List.map_append,qqP,qqP,qBE,qhD];simp only[List.map_cons,List.map_nil,DV.clr,DV.qam,hx2,T.qcj,T.qcV,T.qaQ,List.cons_append,List.nil_append]
 obtain⟨c5,ds5,t',e1,e2,e3,e4,e4r⟩:=h B' _ _ _ h1 (fun i hi=>by rw[h2 i (by omega),hag i hi]) (by rw[h2 (j+1) (by omega),hat]) hfr hclr;refine⟨c5,ds5,t',e1,e2,e3,?_,fun hu=>e4r ⟨hv,qnL hA ⟨hu,hD⟩⟩⟩;have e5:(T.node f v (A'++u::D')).inner=m+(T.inners A'+(u.inner+T.inners D')):=by rw[T.qhX,T.qaQ,hm',qgh];rfl
 omega
end Go.Proofs.Ytfiakfiocdfpbaa.VS
namespace Go.Proofs.Ytfiakfiocdfpbaa.VS
def qdh(A:List T)(x0 x1 x2:AV)(D:List T):List AV:=(fc A).map .d++([x0,x1,x2]++(fc D).map .d)
theorem qdE(A:List T)(x0 x1 x2:AV)(D:List T):(qdh A x0 x1 x2 D).length=A.length*3+3+D.length*3:=by
 unfold qdh;simp[qgG];omega
theorem qtz(A:List T)(x0 x1 x2:AV)(D:List T):(qdh A x0 x1 x2 D)[A.length*3+2]?=some x2:=by
 unfold qdh;rw[List.getElem?_append_right (by simp[qgG])];simp[qgG]
theorem qzh(A:List T)(x0 x1 x2 y:AV)(D:List T):(qdh A x0 x1 x2 D).set (A.length*3+2) y=qdh A x0 x1 y D:=by
 unfold qdh;rw[List.set_append_right _ _ (by simp[qgG])];simp[qgG]
theorem qIJ(A:List T)(x0 x1 x2 y:AV)(D:List T):(qdh A x0 x1 x2 D).set (A.length*3) y=qdh A y x1 x2 D:=by
 unfold qdh;rw[List.set_append_right _ _ (by simp[qgG])];simp[qgG]
theorem qII(A:List T)(x0 x1 x2 y:AV)(D:List T):(qdh A x0 x1 x2 D).set (A.length*3+1) y=qdh A x0 y x2 D:=by
 unfold qdh;rw[List.set_append_right _ _ (by simp[qgG])];simp[qgG]
theorem qh3{cs:List AV}{k:Nat}(h:k<cs.length)(y:AV):splice cs k [y]=cs.set k y:=by
 unfold splice;rw[List.set_eq_take_append_cons_drop,if_pos h];simp
theorem qIL(A:List T)(x0 x1 x2 y:AV)(D:List T):splice (qdh A x0 x1 x2 D) (A.length*3) [y]=qdh A y x1 x2 D:=by
 rw[qh3 (by rw[qdE];omega),qIJ]
theorem qIK(A:List T)(x0 x1 x2 y:AV)(D:List T):splice (qdh A x0 x1 x2 D) (A.length*3+1) [y]=qdh A x0 y x2 D:=by
 rw[qh3 (by rw[qdE];omega),qII]
theorem qzi(A:List T)(x0 x1 x2 y:AV)(D:List T):splice (qdh A x0 x1 x2 D) (A.length*3+2) [y]=qdh A x0 x1 y D:=by
 rw[qh3 (by rw[qdE];omega),qzh]
def TR(rs:List DV):Prop:=rs.all (fun r=> !(DV.int .u8 0).like r)=true
theorem qOW:∀l:List T,TR (fc l)
 | []=>rfl
 |t::l=>by
  have:=qOW l;unfold TR at this⊢
  rw[qiu];simp only[List.all_cons,this,Bool.and_true];rfl
mutual
theorem qEw(rs:List DV):∀t:T,DV.xrest rs (t.enc U)=true
 | .node f v ks=>by
  rw[T.qbF];simp only[qo0,qgL,qoY,qxS,qh1,Bool.and_true,Bool.true_and,T.qaQ];exact qc2 rs ks
theorem qc2(rs:List DV):∀l:List T,DV.xrests rs (l.map (T.enc U))=true
 | []=>by simp only[List.map_nil,qh1]
 |t::l=>by simp only[List.map_cons,qgL,qEw rs t,qc2 rs l,Bool.and_true]
end
theorem qzn(rs:List DV):∀l:List T,DV.xrests rs (fc l)=true
 | []=>by simp[fc]
 |t::l=>by rw[qiu];simp[qc2,qzn rs l]
theorem qgk(rs:List DV):∀l:List T,qbA rs ((fc l).map .d)=true
 | []=>by simp[fc]
 |t::l=>by rw[qiu];simp[qc2,qgk rs l]
theorem qhL(rs:List DV)(a b:List AV):qbA rs (a++b)=(qbA rs a&&qbA rs b):=by simp[qbA]
theorem qhT(rs:List DV)(B:qan)(i:Nat)(cs:List AV)(h:qa2 rs B=true)(hc:qbA rs cs=true):qa2 rs (B.set i (some cs))=true:=by
 unfold qa2 at h⊢
 rw[List.all_eq_true]at h⊢
 intro x hx;rcases List.mem_or_eq_of_mem_set hx with h1|h1
 ·exact h x h1
 ·subst h1;exact hc
structure WS(bs:List Int)(j k:Nat)(B:qan)(A D:List T)(f v:Int)(ks:List T)(N:Nat):Prop where
 jk:j+k=5
 j2:2<=j
 len:B.length=6
 seed:qcB bs 0 B
 one:B[1]?=some (some [.d (.int .i64 0),.d (.int .i64 0),.d (.sl U [])])
 free:∀i,2<=i->i<j->B[i]?=some none
 at_:B[j]?=some (some (qdh A (.d (.int .i64 f)) (.d (.int .i64 v)) (.d (.sl U (ks.map (T.enc U)))) D))
 rest:∀rs,TR rs->qa2 rs B=true
 ctx:Ctx j B A D N
 siz:N+(T.node f v ks).inner<=6
 rg:(T.node f v ks).rng
theorem WS.turn{bs:List Int}{j k:Nat}{B:qan}{A D:List T}{f v:Int}{ks:List T}{N:Nat}(h:WS bs j k B A D f v ks N){B':qan}(hT:qch bs 0 B B'):WS bs j k B' A D f v ks N:=by
 have h0:=hT.at (by rw[h.len];omega);obtain⟨pos,st,hp,rfl⟩:=hT;have e:∀i,1<=i->(B.set 0 (some (qbb bs pos st)))[i]?=B[i]?:=fun i hi=>by rw[List.getElem?_set_ne (by omega)]
 have hj:=h.j2;refine⟨h.jk,h.j2,by simp[h.len],h0,by rw[e 1 (by omega)];exact h.one,fun i h1 h2=>by rw[e i (by omega)];exact h.free i h1 h2,by rw[e j (by omega)];exact h.at_,fun rs hr=>qhT rs B 0 _ (h.rest rs hr) (qf8 rs hr bs pos st),?_,h.siz,h.rg⟩;intro B' cs u ds h1 h2;exact h.ctx B' cs u ds h1 (fun i hi=>by rw[h2 i hi,e i (by omega)])
theorem qOb{bs:List Int}{j k:Nat}{B:qan}{A D:List T}{f v:Int}{ks:List T}{N:Nat}(h:WS bs (j+1) k B A D f v ks N)(hk:0<ks.length)(hj:2<=j)(x5 x22:DV)(h5:∀rs,DV.xrest rs x5=true):
 qrt (.focC 4 2 [0,2,3,4,5]) ⟨[(0,.ptr 0 0),(2,.ptr 1 0),(3,.ptr 5 0),(4,.ptr (j+1) (A.length*3)),(5,.d x5),(22,.d x22)],B⟩=
  some ⟨[(0,.ptr 0 0),(2,.ptr 1 0),(3,.ptr 5 0),(4,.ptr (j+1) (A.length*3)),(5,.d x5)],(B.set (j+1) (some (qdh A (.d (.int .i64 f)) (.d (.int .i64 v)) (.tsl true j 3 ks.length) D))).set j (some ((fc ks).map .d))⟩:=by
 have hat:=h.at_;have hfree:=h.free j hj (by omega);have hr:=h.rest (fc ks) (qOW ks);have hc:qbA (fc ks) (qdh A (.d (.int .i64 f)) (.d (.int .i64 v)) (.tsl true j 3 ks.length) D)=true:=by
  unfold qdh;rw[qhL,qhL,qgk,qgk];simp
 have hb:=qhT (fc ks) B (j+1) _ hr hc;have hx:=qzn (fc ks) ks;have hg:=qtz A (.d (.int .i64 f)) (.d (.int .i64 v)) (.d (.sl U (ks.map (T.enc U)))) D;have hs:=qzh A (.d (.int .i64 f)) (.d (.int .i64 v)) (.d (.sl U (ks.map (T.enc U)))) (.tsl true j 3 ks.length) D;have hlen:(ks.map (T.enc U)).length=ks.length:=by simp
 cases ks with
 |nil=>simp at hk
 |cons k0 kr=>
  have hfc:(T.enc U k0::kr.map (T.enc U)).flatMap DV.cells=fc (k0::kr):=by rw[<-qRR];rfl
  have hag:qba (k0.enc U)=true:=by rw[T.qbF];rfl
  have hcl:(k0.enc U).cells.length=3:=by simp
  have hbg:qa6 B (j+1)=some (qdh A (.d (.int .i64 f)) (.d (.int .i64 v)) (.d (.sl U (T.enc U k0::kr.map (T.enc U)))) D):=by simp only[qa6,hat,List.map_cons]
  simp only[List.map_cons]at hg hs hlen;have hw:xFc 2 [0,2,3,4,5] ⟨[(0,.ptr 0 0),(2,.ptr 1 0),(3,.ptr 5 0),(4,.ptr (j+1) (A.length*3)),(5,.d x5),(22,.d x22)],B⟩ j (A.length*3) (qdh A (.d (.int .i64 f)) (.d (.int .i64 v)) (.d (.sl U (T.enc U k0::kr.map (T.enc U)))) D) (some (.d (.sl U (T.enc U k0::kr.map (T.enc U)))))=
   some ⟨[(0,.ptr 0 0),(2,.ptr 1 0),(3,.ptr 5 0),(4,.ptr (j+1) (A.length*3)),(5,.d x5)],(B.set (j+1) (some (qdh A (.d (.int .i64 f)) (.d (.int .i64 v)) (.tsl true j 3 (k0::kr).length) D))).set j (some ((fc (k0::kr)).map .d))⟩:=by
   rw[qBr,hfc,hag,hcl,show(kr.map (T.enc U)).length+1=(k0::kr).length from by simp,hs,if_pos ⟨by simp[qb6,hfree],by simp[keep,lk,h5],hb,hx⟩];rfl
  rw[qHr];simp only[lk,Nat.reduceEqDiff,if_false,if_true];rw[qBs,hbg,Option.bind_some,hg];exact hw
end Go.Proofs.Ytfiakfiocdfpbaa.VS
namespace Go.Proofs.Ytfiakfiocdfpbaa.VS
theorem qfh(bs:List Int)(pos st:Int):qaC (qbb bs pos st)=some [.sl .sub (bs.map (.int .u8)),.int .i64 pos,.int .i64 st]:=by simp[qbb]
theorem qgt{B:qan}{i j:Nat}{c:Option (List AV)}(h:i≠j):(B.set i c)[j]?=B[j]?:=by rw[List.getElem?_set_ne h]
theorem qEu{ks:List T}{r:Nat}(h:r<ks.length):(fc ks).map AV.d=qdh (ks.take r) (.d (.int .i64 (tAt ks r).f)) (.d (.int .i64 (tAt ks r).v)) (.d (.sl U ((tAt ks r).kids.map (T.enc U)))) (ks.drop (r+1)):=by
 have e:ks=ks.take r++tAt ks r::ks.drop (r+1):=by
  conv=>lhs;rw[<-List.take_append_drop r ks,List.drop_eq_getElem_cons h,qaF h]
 conv=>lhs;rw[e,qOd,qiu]
 unfold qdh;simp
theorem qRN(bs:List Int)(hl:bs.length<=1099511627776){j k:Nat}{B:qan}{A D:List T}{f v:Int}{ks:List T}{N:Nat}(h:WS bs (j+1) k B A D f v ks N)(hk:0<ks.length)(hj:2<=j):
 ∃(B':qan) (A' D':List T) (f' v':Int) (ks':List T) (N':Nat),WS bs j (k+1) B' A' D' f' v' ks' N'/\
  qau XV (XV.lin 161) (.seq (.block 1 (.ghost (.focC 4 2 [0,2,3,4,5]) (.region true 0 [0,2,3,4,5] qpQ))) (.region false 0 [0,2,3,4,5] qtU)) ⟨[(0,.ptr 0 0),(2,.ptr 1 0),(3,.ptr 5 0),(4,.ptr (j+1) (A.length*3)),(5,.d (.int .i64 k)),(22,.d (.bool true))],B⟩=
   some (.normal,⟨[(0,.ptr 0 0),(2,.ptr 1 0),(3,.ptr 5 0),(4,.ptr j (A'.length*3)),(5,.d (.int .i64 ((k+1:Nat):Int)))],B'⟩):=by
 have hfo:=qOb h hk hj (.int .i64 k) (.bool true) (fun rs=>by simp);have hlen:=h.len;have hjk:=h.jk;obtain⟨pos,st,hp,hb0⟩:=h.seed;have hb0':=qda hb0;have hs1:qcB bs 0 [some (qbb bs pos st)]:=⟨pos,st,hp,rfl⟩;have hsz:=h.siz;rw[T.qcW]at hsz;have hcn:=qdm ks;obtain⟨r,B1,hr,⟨pos1,st1,hp1,rfl⟩,hc⟩:=qcv bs hl _ 0 hs1 ks.length (by omega) (by omega);simp only[List.set_cons_zero]at hc;have hrl:r.toNat<ks.length:=by omega
 have hw:=qao (n:=k) (by omega);generalize hR:qdh A (.d (.int .i64 f)) (.d (.int .i64 v)) (.tsl true j 3 ks.length) D=R at hfo;have hR2:R[A.length*3+2]?=some (.tsl true j 3 ks.length):=by rw[<-hR];exact qtz _ _ _ _ _
 have hRl:A.length*3+2<R.length:=by rw[<-hR,qdE];omega
 have g0:((B.set (j+1) (some R)).set j (some ((fc ks).map .d)))[0]?=some (some (qbb bs pos st)):=by rw[qgt (by omega),qgt (by omega)];exact hb0'
 have g1:((B.set (j+1) (some R)).set j (some ((fc ks).map .d)))[j+1]?=some (some R):=by rw[qgt (by omega),List.getElem?_set_self (by omega)]
 have g2:((B.set (j+1) (some R)).set j (some ((fc ks).map .d))).length=6:=by simp[hlen]
 have gj:((B.set (j+1) (some R)).set j (some ((fc ks).map .d)))[j]?=some (some ((fc ks).map .d)):=by rw[List.getElem?_set_self (by simp;omega)]
 have gi:∀i,i≠j->i≠j+1->((B.set (j+1) (some R)).set j (some ((fc ks).map .d)))[i]?=B[i]?:=fun i h1 h2=>by rw[qgt (Ne.symm h1),qgt (Ne.symm h2)]
 have grest:∀rs,TR rs->qa2 rs ((B.set (j+1) (some R)).set j (some ((fc ks).map .d)))=true:=fun rs hrs=>by
  refine qhT _ _ _ _ (qhT _ _ _ _ (h.rest rs hrs) ?_) (qgk rs ks);rw[<-hR];unfold qdh;rw[qhL,qhL,qgk,qgk];simp
 generalize hB2:(B.set (j+1) (some R)).set j (some ((fc ks).map .d))=B2 at*
 have hn6:¬6<=j+1:=by omega
 have g0':∀h:0<B2.length,B2[0]'h=some (qbb bs pos st):=fun h=>(List.getElem?_eq_some_iff.1 g0).2
 have hR3:∀h:A.length*3+2<R.length,R[A.length*3+2]'h= .tsl true j 3 ks.length:=fun h=>(List.getElem?_eq_some_iff.1 hR2).2
 have hmin:min r.toNat ks.length=r.toNat:=by omega
 have hsd:=qfh bs pos st;have hsd1:=qfh bs pos1 st1;have hcl:=qbh bs pos st;have hcl1:=qbh bs pos1 st1;generalize qbb bs pos st=S0 at*
 refine⟨B2.set 0 (some (qbb bs pos1 st1)),ks.take r.toNat,ks.drop (r.toNat+1),(tAt ks r.toNat).f,(tAt ks r.toNat).v,(tAt ks r.toNat).kids,N+(ks.length+T.inners (ks.take r.toNat)+T.inners (ks.drop (r.toNat+1))),?_,?_⟩
 ·have e:ks=ks.take r.toNat++tAt ks r.toNat::ks.drop (r.toNat+1):=by
   conv=>lhs;rw[<-List.take_append_drop r.toNat ks,List.drop_eq_getElem_cons hrl,qaF hrl]
  refine⟨by omega,hj,by simp[g2],⟨pos1,st1,hp1,qu6 (by omega)⟩,by rw[qgt (by omega),gi 1 (by omega) (by omega)];exact h.one,fun i h1 h2=>by rw[qgt (by omega),gi i (by omega) (by omega)];exact h.free i h1 (by omega),by rw[qgt (by omega),gj];exact congrArg (some∘some) (qEu hrl),fun rs hrs=>qhT _ _ _ _ (grest rs hrs) (qf8 rs hrs bs pos1 st1),?_,?_,?_⟩
  ·refine Ctx.step hj h.ctx (fun i hi=>by rw[qgt (by omega),gi i (by omega) (by omega)]) (by rw[qgt (by omega),g1,<-hR];rfl) ?_ h.rg.1 ?_ ?_
   ·have:=congrArg List.length e
    simp only[List.length_append,List.length_cons]at this;omega
   ·have:=h.rg.2;rw[T.qdc]at this⊢;exact fun t ht=>this t (List.mem_of_mem_take ht)
   ·have:=h.rg.2;rw[T.qdc]at this⊢;exact fun t ht=>this t (List.mem_of_mem_drop ht)
  ·have e2:T.inners ks=T.inners (ks.take r.toNat)+((tAt ks r.toNat).inner+T.inners (ks.drop (r.toNat+1))):=by
    conv=>lhs;rw[e,qgh]
    rfl
   have e3:(T.node (tAt ks r.toNat).f (tAt ks r.toNat).v (tAt ks r.toNat).kids).inner=(tAt ks r.toNat).inner:=by cases tAt ks r.toNat;rfl
   have e4:(T.node f v ks).inner=ks.length+T.inners ks:=by rw[T.qhX,T.qaQ]
   have:=h.siz;omega
  ·have:=h.rg.2
   rw[T.qdc]at this;have h3:=this _ (qaH hrl);generalize tAt ks r.toNat=x at h3;cases x;exact h3
 ·generalize qbb bs pos1 st1=S1 at*
  simp only[qA2];simp only[qd1,qxL,qrx,hfo,Option.bind_some];simp[qOD,qtU,g2,g0,g1,gj,hR2,hRl,hsd,hsd1,hcl,hcl1,hc,hr.1,hr.2,hw,hn6,qae,hR3,hmin,g0',qu3]
end Go.Proofs.Ytfiakfiocdfpbaa.VS
namespace Go.Proofs.Ytfiakfiocdfpbaa.VS
theorem qJp(bs:List Int)(hl:bs.length<=1099511627776):∀(n j k:Nat) (B:qan) (A D:List T) (f v:Int) (ks:List T) (N:Nat),n+2=j->WS bs j k B A D f v ks N->
 ∀s0,qag 6 [0,2,3,4,5] s0=some ⟨[(0,.ptr 0 0),(2,.ptr 1 0),(3,.ptr 5 0),(4,.ptr j (A.length*3)),(5,.d (.int .i64 k))],B⟩->
 ∃(j' k':Nat) (B':qan) (A' D':List T) (f' v':Int) (ks':List T) (N':Nat),WS bs j' k' B' A' D' f' v' ks' N'/\
  qbj XV (XV.lin 161) 6 [0,2,3,4,5] ql6 s0=some (.exit 0,⟨[(0,.ptr 0 0),(2,.ptr 1 0),(3,.ptr 5 0),(4,.ptr j' (A'.length*3)),(5,.d (.int .i64 k')),(22,.d (.bool false))],B'⟩):=by
 intro n
 induction n with
 |zero=>
  intro j k B A D f v ks N hn h s0 h0;refine⟨j,k,B,A,D,f,v,ks,N,h,qaL h0 ?_ (by simp)⟩;have hjk:=h.jk;have hk:¬((k:Int)<3):=by omega
  simp[ql6,qmR,hk]
 |succ n ih=>
  intro j k B A D f v ks N hn h s0 h0;have hjk:=h.jk;have hk:(k:Int)<3:=by omega
  have hat:=h.at_;have hrow:=qtz A (.d (.int .i64 f)) (.d (.int .i64 v)) (.d (.sl U (ks.map (T.enc U)))) D;generalize hR:qdh A (.d (.int .i64 f)) (.d (.int .i64 v)) (.d (.sl U (ks.map (T.enc U)))) D=R at*
  have hRl:A.length*3+2<R.length:=by rw[<-hR,qdE];omega
  have hR3:∀h:A.length*3+2<R.length,R[A.length*3+2]'h= .d (.sl U (ks.map (T.enc U))):=fun h=>(List.getElem?_eq_some_iff.1 hrow).2
  have hBl:j<B.length:=by rw[h.len];omega
  have hB3:∀h:j<B.length,B[j]'h=some R:=fun h=>(List.getElem?_eq_some_iff.1 hat).2
  by_cases hks:0<ks.length
  ·obtain⟨b,B1,hT,hc⟩:=qlk bs hl B 0 h.seed 2 (by omega) (by omega)
   have h1:=h.turn hT;cases b with
   |true=>
    refine⟨j,k,B1,A,D,f,v,ks,N,h1,qaL h0 ?_ (by simp)⟩;simp[ql6,qmR,hk,hks,hc,hBl,hB3,hRl,hR3,qae]
   |false=>
    subst hn;obtain⟨B',A',D',f',v',ks',N',hW,hgo⟩:=qRN bs hl h1 hks (by omega);obtain⟨j',k',B'',A'',D'',f'',v'',ks'',N'',hW2,hl2⟩:=ih (n+2) (k+1) B' A' D' f' v' ks' N' rfl hW ⟨[(0,.ptr 0 0),(2,.ptr 1 0),(3,.ptr 5 0),(4,.ptr (n+2) (A'.length*3)),(5,.d (.int .i64 ((k+1:Nat):Int)))],B'⟩ (qbX (e:=[]) (by simp) (by simp[qad];omega) hW.len (by simp));refine⟨j',k',B'',A'',D'',f'',v'',ks'',N'',hW2,?_⟩;rw[<-hl2];refine qa7 h0 ?_;rw[<-hgo];generalize hG:VCode.seq (.block 1 (.ghost (.focC 4 2 [0,2,3,4,5]) (.region true 0 [0,2,3,4,5] qpQ))) (.region false 0 [0,2,3,4,5] qtU)=G;rw[show ql6= .seq (.seq (.region false 0 [0,2,3,4,5,22] qmR) (.cond (.t 22) .skip (.exit 0))) G from by rw[<-hG];rfl];simp[qmR,hk,hks,hc,hBl,hB3,hRl,hR3,qae]
  ·refine⟨j,k,B,A,D,f,v,ks,N,h,qaL h0 ?_ (by simp)⟩
   have hk0:ks.length=0:=by omega
   simp[ql6,qmR,hk,hk0,hBl,hB3,hRl,hR3,qae]
end Go.Proofs.Ytfiakfiocdfpbaa.VS
namespace Go.Proofs.Ytfiakfiocdfpbaa.VS
theorem WS.read{bs:List Int}{j k:Nat}{B:qan}{A D:List T}{f v:Int}{ks:List T}{N:Nat}(h:WS bs j k B A D f v ks N){B':qan}(hl:B'.length=6)(hi:∀i,j<i->B'[i]?=B[i]?)(u:T)(g:Tag)(X:List DV)(hX:X.map DV.clr=u.kids.map (T.enc .sub))
 (hj:B'[j]?=some (some (qdh A (.d (.int .i64 u.f)) (.d (.int .i64 u.v)) (.d (.sl g X)) D))):
 ∃(c5:List AV) (ds5:List DV) (t':T),B'[5]?=some (some c5)/\qem (AV.frzC (qcu 2 B') 6) c5=some ds5/\ds5.map DV.clr=fcs [t']/\t'.inner<=N+u.inner/\(u.rng->t'.rng):=by
 refine h.ctx B' _ u (fc A++([.int .i64 u.f,.int .i64 u.v,.sl g X]++fc D)) hl hi hj ?_ ?_
 ·unfold qdh
  exact qhz _ _ _ (qm5 _ _ _) (qhz _ _ _ (qm5 _ _ [.int .i64 u.f,.int .i64 u.v,.sl g X]) (qm5 _ _ _))
 ·rw[List.map_append,List.map_append,qqP,qqP,qBE,qhD]
  simp only[List.map_cons,List.map_nil,DV.clr,DV.qam,hX,List.cons_append,List.nil_append]
theorem qOc(B:qan)(S0 Z:Option (List AV))(z0 z1 z2:AV)(hlen:B.length=6)(h0:B[0]?=some S0)(h1:B[1]?=some (some [z0,z1,z2]))(r:List (Nat×AV))(h2:lk r 2=some (.ptr 1 0))(h3:lk r 3=some (.ptr 5 0))(t:T)(c5:List AV)(ds5:List DV)
 (e1:B[5]?=some (some c5)) (e2:qem (AV.frzC (qcu 2 B) 6) c5=some ds5) (e3:ds5.map DV.clr=fcs [t]):
 ∃C,qau XV (XV.lin 161) (.seq (.ghost (.frzB 3 2 [2]) (.region false 0 [2] qob)) .ret) ⟨r,B⟩=some (.ret,⟨[(2,.ptr 1 0)],[S0,some [.d (.int .i64 t.f),.d (.int .i64 t.v),.d (qaj .sub t.kids)],C]⟩):=by
 have hk:keep r [2]=[(2,.ptr 1 0)]:=by simp[keep,h2]
 have htk:B.take 2=[S0,some [z0,z1,z2]]:=by
  match B,hlen with
  | [b0,b1,b2,b3,b4,b5],_=>simp at h0 h1⊢;exact⟨h0,h1⟩
 obtain⟨g,xs,r',rfl,hx,hr⟩:=qsT e3;have hr0:r'=[]:=by simpa[fcs]using hr
 subst hr0;have hcell:=quT _ _ e3;have hbg:qa6 B 5=some c5:=by simp only[qa6,e1]
 refine⟨some [.d (.int .i64 t.f),.d (.int .i64 t.v),.d (qaj .sub t.kids)],?_⟩;have hx':xs.map DV.clr=t.kids.map (T.enc .sub):=by rw[<-DV.qam];exact hx
 have hgh:qrt (.frzB 3 2 [2]) ⟨r,B⟩=some ⟨[(3,.ptr 2 0),(2,.ptr 1 0)],[S0,some [z0,z1,z2],some [.d (.int .i64 t.f),.d (.int .i64 t.v),.d (qaj .sub t.kids)]]⟩:=by
  rw[qHq];simp only[h3];rw[qBq,if_pos ⟨by omega,by simp,by rw[hk];simp[qad],by omega⟩,hbg,Option.bind_some,hlen,e2,Option.bind_some,if_pos hcell,hk,htk];simp[hx']
 simp only[qd1,qrx,hgh,Option.bind_some];simp[qob,splice,qaa,qab,qac,qai,qae]
end Go.Proofs.Ytfiakfiocdfpbaa.VS
