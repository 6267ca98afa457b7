/- Contracts of the program's functions on the evaluator without names, and plain lemmas: part 2. -/
import Derived.Test.YtpcoohnjllclnaaGreatXP1
set_option linter.unusedSimpArgs false
set_option linter.unusedVariables false
namespace Go.Proofs.YtpcoohnjllclnaaGreat.VS
structure Bd where
 v:Int
 t:T
abbrev yeu:=List (Option (List Bd))
abbrev yet:=Option (List Bd)
abbrev yee:=List (List Bd)
abbrev aB:=List Bd
def Bd.enc(g:Tag)(b:Bd):DV:= .agg [.int .i64 b.v,.int .i64 b.t.f,.int .i64 b.t.v,ai g b.t.kids]
def Bd.ok(b:Bd):Prop:=(-9223372036854775808<=b.v/\b.v<=9223372036854775807)/\b.t.ok
abbrev binds(g:Tag)(l:aB):DV:= .sl g (l.map (Bd.enc g))
@[simp] theorem Bd.qgL(g:Tag)(x:Bd):(x.enc g).cells=[.int .i64 x.v,.int .i64 x.t.f,.int .i64 x.t.v,ai g x.t.kids]:=rfl
@[simp] theorem Bd.qjJ(g:Tag)(x:Bd):(AV.d (x.enc g)).cells=[aa x.v,aa x.t.f,aa x.t.v,.d (ai g x.t.kids)]:=rfl
@[simp] theorem Bd.qjI(g:Tag)(x:Bd):(x.enc g).isCell=false:=rfl
@[simp] theorem Bd.qX3(g:Tag)(x:Bd):isAgg (x.enc g)=true:=rfl
@[simp] theorem Bd.qfU(g:Tag)(x:Bd):(x.enc g).clr=x.enc .sub:=by simp only[Bd.enc,DV.clr,DV.clrs,ai,DV.qaw,kn]
@[simp high] theorem Bd.qeh(g:Tag)(l:aB):(l.map (Bd.enc g)).map DV.clr=l.map (Bd.enc .sub):=by simp[et,lH]
@[simp] theorem Bd.agg_enc(g:Tag)(x:Bd):DV.agg [.int .i64 x.v,.int .i64 x.t.f,.int .i64 x.t.v,ai g x.t.kids]=x.enc g:=rfl
def aH(l:aB)(i:Nat):Bd:=(l[i]?).getD ⟨0,.node 0 0 []⟩
variable{i:Nat}
theorem cY{l:aB}(h:i<l.length):l[i]=aH l i:=by simp[aH,h]
theorem uv{l:aB}(h:i<l.length):aH l i∈l:=by rw[<-cY h];exact jt h
theorem pp(a c:ah)(g:Tag)(h:(a.length+c.length)*40<=140737488355328):cK 3 40 (.sl U (a.map (T.enc U))) (.sl g (c.map (T.enc U)))=some (.sl U ((a++c).map (T.enc U))):=by
 have m:(c.map (T.enc U)).all (fun e=>decide (e.cells.length=3/\e.cells.all DV.isCell=true))=true:=by simp[aW,ba]
 have d:(a.map (T.enc U)).all (fun e=>decide (e.cells.length=3))=true:=by simp
 unfold cK;simp only;rw[aw m];cases c with
 |nil=>simp
 |cons x r=>simp only[bA,gW,bL,if_false];rw[aw ⟨by simpa using h,trivial,d⟩];simp
theorem E6(l:ah)(i:Nat)(h:i<l.length)(c:l.length<=1099511627776):cK 3 40 (.sl U ((l.take i).map (T.enc U))) (.sl U [(aj l i).enc U])=some (.sl U ((l.take (i+1)).map (T.enc U))):=by have:=pp (l.take i) [aj l i] U (by simp;omega);rw[qs l i h];exact this
theorem qGc(f v:Int)(ks:ah)(o:ks.length<=1099511627776)(hc:∀t,t∈ks->ap XV 146 [.d (t.enc .sub)] []=some (.d (t.enc U),[])):
 ap XV 146 [.d ((T.node f v ks).enc .sub)] []=some (.d ((T.node f v ks).enc U),[]):=by
 rw[aN 146 vz rfl];have c:=cd (X:=XV) (T:=XV.lin 146) (L:=3) (live:=[1,2,3,4]) (b:=vd) (n:=ks.length) (γ:=Unit) (st:=fun(_:Unit) i=>⟨[(1,.ptr 0 0),(2,.ptr 1 0),(3,.ptr 2 0),(4,aa i)],[some [aa f,aa v,.d (ai .sub ks)],some [aa 0,aa 0,.d (.sl U [])],some [aa f,aa v,.d (.sl U ((ks.take i).map (T.enc U)))]]⟩) (step:=fun _ _=> .inl ())
  (F:=fun _=>(.exit 0,⟨[(1,.ptr 0 0),(2,.ptr 1 0),(3,.ptr 2 0),(4,aa ks.length),(14,ax false)],[some [aa f,aa v,.d (ai .sub ks)],some [aa 0,aa 0,.d (.sl U [])],some [aa f,aa v,.d (.sl U ((ks.take ks.length).map (T.enc U)))]]⟩)) (R:=fun _=>(.ret,⟨[],[]⟩))
  (fun _=>⟨by simp,by simp[vd]⟩)
  (fun _ i hi=>by
   have m:=bE (n:=i) (by omega);have h:=hc _ (bV hi);have g:=E6 ks i hi o;generalize e:(ks.take (i+1)).map (T.enc U)=l2 at g;generalize (ks.take i).map (T.enc U)=l1 at g⊢
   exact⟨⟨[(1,.ptr 0 0),(2,.ptr 1 0),(3,.ptr 2 0),(4,aa (i+1:Nat))],[some [aa f,aa v,.d (ai .sub ks)],some [aa 0,aa 0,.d (.sl U [])],some [aa f,aa v,.d (.sl U l2)]]⟩,by simp[vd,Ty,hi,m,cut,bg hi,h,g,splice,AV.qaw,aW,ba,bh,bd],by simp[aJ,aG,<-e]⟩)
  ks.length () 0 ⟨[(1,.ptr 0 0),(2,.ptr 1 0),(3,.ptr 2 0),(4,aa 0)],[some [aa f,aa v,.d (ai .sub ks)],some [aa 0,aa 0,.d (.sl U [])],some [aa f,aa v,.d (.sl U [])]]⟩ (by omega) (by simp[aJ,aG])
 rw[kD,fG]at c;simp only[V9,ai]at c;simp[vz,splice,aW,ba,bh,bd,aP];rw[c];simp[splice,aW,ba,bh,bd,aP]
theorem uD(t:T)(c:t.inner<=1099511627776):ap XV 146 [.d (t.enc .sub)] []=some (.d (t.enc U),[]):=by
 match t,c with
 | .node f v ks,c=>simp only[T.inner]at c;exact qGc f v ks (by omega) fun s e=>uD s (by have:=T.qaF e;omega)
termination_by t
decreasing_by
 simp_wf
 have:=gM e;omega
theorem Mc(ks:ah)(p:ks.length<=1099511627776)(hc:∀t,t∈ks->ap XV 150 [.d (t.enc .sub)] []=some (.d (t.enc U),[])):
 ap XV 151 [.d (ai .sub ks)] []=some (.d (ai U ks),[]):=by
 rw[aN 151 An rfl];have c:=cd (X:=XV) (T:=XV.lin 151) (L:=0) (live:=[3,7,8,9]) (b:=AF) (n:=ks.length) (γ:=Unit) (st:=fun(_:Unit) i=>⟨[(3,.d (.sl U ((ks.take i).map (T.enc U)))),(7,.d (ai .sub ks)),(8,aa ks.length),(9,aa i)],[]⟩) (step:=fun _ _=> .inl ())
  (F:=fun _=>(.exit 0,⟨[(3,.d (.sl U ((ks.take ks.length).map (T.enc U)))),(7,.d (ai .sub ks)),(8,aa ks.length),(9,aa ks.length),(10,ax false)],[]⟩)) (R:=fun _=>(.ret,⟨[],[]⟩))
  (fun _=>⟨by simp,by simp[AF]⟩)
  (fun _ i hi=>by
   have o:=bE (n:=i) (by omega);have m:=hc _ (bV hi);have h:=E6 ks i hi p;generalize g:(ks.take (i+1)).map (T.enc U)=l2 at h;generalize (ks.take i).map (T.enc U)=l1 at h⊢
   exact⟨⟨[(3,.d (.sl U l2)),(7,.d (ai .sub ks)),(8,aa ks.length),(9,aa (i+1:Nat))],[some [aa (aj ks i).f,aa (aj ks i).v,.d (ai .sub (aj ks i).kids)]]⟩,by simp[AF,hi,o,cut,bg hi,m,h,splice,aW,ba,bh,bd,aP],gi (e:=[some [aa (aj ks i).f,aa (aj ks i).v,.d (ai .sub (aj ks i).kids)]]) (by simp[<-g]) (by simp[aG]) (by simp) (by simp)⟩)
  ks.length () 0 ⟨[(3,.d (.sl U [])),(7,.d (ai .sub ks)),(8,aa ks.length),(9,aa 0)],[]⟩ (by omega) (by simp[aJ,aG])
 rw[kD,fG]at c;simp only[qQP]at c;simp[An];rw[c];simp
theorem qva(f v:Int)(ks:ah)(h:ap XV 151 [.d (ai .sub ks)] []=some (.d (ai U ks),[])):ap XV 150 [.d ((T.node f v ks).enc .sub)] []=some (.d ((T.node f v ks).enc U),[]):=by rw[aN 150 yA rfl];simp only[ai]at h;simp[yA,h,splice,aW,ba,bh,bd,aP]
theorem Bz(t:T)(c:t.inner<=1099511627776):ap XV 150 [.d (t.enc .sub)] []=some (.d (t.enc U),[]):=by
 match t,c with
 | .node f v ks,c=>simp only[T.inner]at c;exact qva f v ks (Mc ks (by omega) fun s e=>Bz s (by have:=T.qaF e;omega))
termination_by t
decreasing_by
 simp_wf
 have:=gM e;omega
theorem YQ(ks:ah)(c:bw ks<=1099511627776):ap XV 151 [.d (ai .sub ks)] []=some (.d (ai U ks),[]):=Mc ks (by unfold bw at c;omega) fun s e=>Bz s (by have:=T.qaF e;unfold bw at c;omega)
theorem D9(n:Int):ap XV 147 [aa n] []=some (.d ((T.node (-1) n []).enc U),[]):=by rw[aN 147 xB rfl];simp[xB,splice,aW,ba,bh,bd,aP];rw[T.qbD];rfl
theorem qte(n:Int):ap XV 149 [aa n] []=some (.d ((T.node (-1) n []).enc U),[]):=by rw[aN 149 Bh rfl];simp[Bh,splice,aW,ba,bh,bd,aP];rw[T.qbD];rfl
def cW(l:aB)(n:Int):a_:=a8 (fun i=>(aH l i).v==n) l.length 0
def fB(l:aB)(n:Int):T:=match cW l n with
 |some i=>(aH l i).t
 |none=> .node (-1) n []
theorem vV(l:aB)(n:Int)(p:l.length<=1099511627776)(m:∀i,i<l.length->(aH l i).t.inner<=1099511627776):ap XV 145 [.d (binds .sub l),aa n] []=some (.d ((fB l n).enc U),[]):=by
 rw[aN 145 Bc rfl];have h:=cd (X:=XV) (T:=XV.lin 145) (L:=1) (live:=[0,1,4,5]) (b:=sa) (n:=l.length) (st:=fun(_:Unit) i=>⟨[(0,.d (binds .sub l)),(1,aa n),(4,.ptr 0 0),(5,aa i)],[some [aa 0,aa 0,.d (.sl U [])]]⟩) (step:=cu fun i=>(aH l i).v==n)
  (F:=fun _=>(.exit 0,⟨[(0,.d (binds .sub l)),(1,aa n),(4,.ptr 0 0),(5,aa l.length),(9,ax false)],[some [aa 0,aa 0,.d (.sl U [])]]⟩)) (R:=fun(j:Nat)=>(.ret,⟨[(4,.ptr 0 0)],[some [aa (aH l j).t.f,aa (aH l j).t.v,.d (ai U (aH l j).t.kids)]]⟩))
  (fun a=>⟨by simp,by simp[sa]⟩)
  (fun a i hi=>by
   have g:=bE (n:=i) (by omega);have hc:=uD (aH l i).t (m i hi);unfold cu
   by_cases c:((aH l i).v==n)=true
   ·rw[aw c]
    exact⟨by simp,by simp[sa,hi,cut,cY hi,c,hc,splice,aW,ba,bh,bd]⟩
   ·rw[au c]
    have e:((aH l i).v==n)=false:=by simpa using c
    exact⟨_,by simp[sa,hi,g,cut,cY hi,e];rfl,by simp[aJ,aG]⟩)
  l.length () 0 ⟨[(0,.d (binds .sub l)),(1,aa n),(4,.ptr 0 0),(5,aa 0)],[some [aa 0,aa 0,.d (.sl U [])]]⟩ (by omega) (by simp[aJ,aG])
 rw[eH]at h;simp only[qQS,binds]at h;unfold fB cW;simp[Bc];rw[h];have o:=D9 n;cases c:a8 (fun i=>(aH l i).v==n) l.length 0 with
 |none=>simp[o,splice,aW,ba,bh,bd,aP]
 |some j=>simp[aP]
theorem ue(l:aB)(n:Int)(o:l.length<=1099511627776):ap XV 148 [.d (binds .sub l),aa n] []=some (.d (match cW l n with|some j=> .tup [(aH l j).t.enc .sub,.bool true]|none=> .tup [(T.node 0 0 []).enc .sub,.bool false]),[]):=by
 rw[aN 148 xw rfl];have h:=cd (X:=XV) (T:=XV.lin 148) (L:=1) (live:=[1,4,8,9,10]) (b:=uB) (n:=l.length) (st:=fun(_:Unit) i=>⟨[(1,aa n),(4,.ptr 0 0),(8,.d (binds .sub l)),(9,aa l.length),(10,aa i)],[some [aa 0,aa 0,.d (.sl U [])]]⟩) (step:=cu fun i=>(aH l i).v==n)
  (F:=fun _=>(.exit 0,⟨[(1,aa n),(4,.ptr 0 0),(8,.d (binds .sub l)),(9,aa l.length),(10,aa l.length),(11,ax false)],[some [aa 0,aa 0,.d (.sl U [])]]⟩)) (R:=fun(j:Nat)=>(.ret,⟨[(4,.ptr 0 0),(5,ax true)],[some [aa (aH l j).t.f,aa (aH l j).t.v,.d (ai .sub (aH l j).t.kids)],some [aa (aH l j).v,aa (aH l j).t.f,aa (aH l j).t.v,.d (ai .sub (aH l j).t.kids)]]⟩))
  (fun a=>⟨by simp,by simp[uB]⟩)
  (fun a i hi=>by
   have m:=bE (n:=i) (by omega);unfold cu
   by_cases c:((aH l i).v==n)=true
   ·rw[aw c]
    exact⟨by simp,by simp[uB,hi,cut,cY hi,c,splice,AV.qaw,aW,ba,bh,bd,aP]⟩
   ·rw[au c]
    have g:((aH l i).v==n)=false:=by simpa using c
    exact⟨⟨[(1,aa n),(4,.ptr 0 0),(8,.d (binds .sub l)),(9,aa l.length),(10,aa (i+1:Nat))],[some [aa 0,aa 0,.d (.sl U [])],some [aa (aH l i).v,aa (aH l i).t.f,aa (aH l i).t.v,.d (ai .sub (aH l i).t.kids)]]⟩,by simp[uB,hi,m,cut,cY hi,g,splice,aW,ba,bh,bd,aP],gi (e:=[some [aa (aH l i).v,aa (aH l i).t.f,aa (aH l i).t.v,.d (ai .sub (aH l i).t.kids)]]) (by simp) (by simp[aG]) (by simp) (by simp)⟩)
  l.length () 0 ⟨[(1,aa n),(4,.ptr 0 0),(8,.d (binds .sub l)),(9,aa l.length),(10,aa 0)],[some [aa 0,aa 0,.d (.sl U [])]]⟩ (by omega) (by simp[aJ,aG])
 rw[eH]at h;simp only[Zq,binds]at h;unfold cW;simp[xw];rw[h];cases c:a8 (fun i=>(aH l i).v==n) l.length 0 with
 |none=>simp[splice,aW,ba,bh,bd,aP];rw[T.qbD];rfl
 |some j=>simp[aP]
theorem quQ(l:aB)(n:Int)(e:l.length<=1099511627776)(c:∀i,i<l.length->(aH l i).t.inner<=1099511627776):ap XV 144 [.d (binds .sub l),aa n] []=some (.d ((fB l n).enc U),[]):=by
 rw[aN 144 ru rfl];have h:=ue l n e;have m:=qte n;unfold fB;cases hq:cW l n with
 |none=>rw[hq]at h;simp[ru,h,m,splice,aW,ba,bh,bd,aP]
 |some j=>
  rw[hq]at h;have g:j<l.length:=by have:=(eQ _ _ _ _ hq).2.1;omega
  have hc:=Bz (aH l j).t (c j g);simp[ru,h,hc,splice,aW,ba,bh,bd,aP]
mutual
theorem tV:∀a b:T,T.cmp a b= -(T.cmp b a)
 | .node f v ks,.node d v' c=>by
  have h:=MN ks c;simp only[T.cmp]
  repeat' split
  all_goals first|omega|exact h
theorem MN:∀a b:ah,T.cmps a b= -(T.cmps b a)
 | [],[]=>rfl
 | [],_::_=>rfl
 |_::_,[]=>rfl
 |x::xs,y::c=>by
  have e:=tV x y;have d:=MN xs c;simp only[T.cmps]
  repeat' split
  all_goals omega
end
mutual
theorem mT:∀a b:T,T.cmp a b=0->a=b
 | .node f v ks,.node m v' c,h=>by
  simp only[T.cmp]at h
  repeat' split at h
  all_goals first|omega|skip
  have g:=Ih ks c (by omega) h;have d:f=m:=by omega
  have e:v=v':=by omega
  rw[g,d,e]
theorem Ih:∀a b:ah,a.length=b.length->T.cmps a b=0->a=b
 | [],[],_,_=>rfl
 | [],_::_,h,_=>by simp at h
 |_::_,[],h,_=>by simp at h
 |x::xs,y::d,c,h=>by
  simp only[T.cmps]at h;split at h
  ·omega
  ·rename_i e
   rw[mT x y (by omega),Ih xs d (by simpa using c) h]
end
mutual
theorem Kv:∀a b c:T,T.cmp a b<0->T.cmp b c<0->T.cmp a c<0
 | .node f v ks,.node p v' e,.node f2 n g,m,d=>by
  simp only[T.cmp]at m d⊢
  by_cases z:f<p
  ·have:p<=f2:=by
    apply Classical.byContradiction;intro h
    rw[au (by omega),aw (by omega)]at d;omega
   rw[aw (by omega)];omega
  ·have s:f=p:=by
    apply Classical.byContradiction;intro h
    rw[au z,aw (by omega)]at m;omega
   subst s
   by_cases w:f<f2
   ·rw[aw w];omega
   ·have o:f=f2:=by
     apply Classical.byContradiction;intro h
     rw[au w,aw (by omega)]at d;omega
    subst o;simp only[Int.lt_irrefl,gt_iff_lt,if_false]at m d⊢
    by_cases e3:v<v'
    ·have:v'<=n:=by
      apply Classical.byContradiction;intro h
      rw[au (by omega),aw (by omega)]at d;omega
     rw[aw (by omega)];omega
    ·have li:v=v':=by
      apply Classical.byContradiction;intro h
      rw[au e3,aw (by omega)]at m;omega
     subst li
     by_cases u:v<n
     ·rw[aw u];omega
     ·have t:v=n:=by
       apply Classical.byContradiction;intro h
       rw[au u,aw (by omega)]at d;omega
      subst t;simp only[Int.lt_irrefl,gt_iff_lt,if_false]at m d⊢
      by_cases x:ks.length<e.length
      ·have:e.length<=g.length:=by
        apply Classical.byContradiction;intro h
        rw[au (by omega),aw (by omega)]at d;omega
       rw[aw (by omega)];omega
      ·have r:ks.length=e.length:=by
        apply Classical.byContradiction;intro h
        rw[au x,aw (by omega)]at m;omega
       by_cases C:ks.length<g.length
       ·rw[aw C];omega
       ·have y:ks.length=g.length:=by
         apply Classical.byContradiction;intro h
         rw[au (by omega),aw (by omega)]at d;omega
        rw[au (by omega),au (by omega)]at m d⊢
        exact K4 ks e g r (by omega) m d
theorem K4:∀a b c:ah,a.length=b.length->b.length=c.length->T.cmps a b<0->T.cmps b c<0->T.cmps a c<0
 | [],[],_,_,_,h,_=>by simp[T.cmps]at h
 | [],_::_,_,h,_,_,_=>by simp at h
 |_::_,[],_,h,_,_,_=>by simp at h
 |x::xs,y::m,[],_,h,_,_=>by simp at h
 |x::xs,y::m,z::r,s,o,e,d=>by
  simp only[T.cmps]at e d⊢
  have t1:=Kv x y z
  by_cases c1:T.cmp x y=0
  ·have:=mT x y c1
   subst this
   by_cases g:T.cmp x z=0
   ·simp only[c1,g,fw,om,if_false]at e d⊢
    exact K4 xs m r (by simpa using s) (by simpa using o) e d
   ·simp only[g,fw,jT,if_true]at d⊢
    exact d
  ·simp only[c1,fw,jT,if_true]at e
   by_cases g:T.cmp y z=0
   ·have:=mT y z g
    subst this;simp only[c1,fw,jT,if_true];exact e
   ·simp only[g,fw,jT,if_true]at d
    have p:=t1 e d;have n:T.cmp x z≠0:=by omega
    simp only[n,fw,jT,if_true];exact p
end
def dD(a b:T):Prop:=T.cmp a b<=0
theorem Kx(a:T):dD a a:=by have:=tV a a;unfold dD;omega
variable{a b:T}
theorem tw{c:T}(g:dD a b)(d:dD b c):dD a c:=by
 unfold dD at*
 by_cases c1:T.cmp a b=0
 ·rw[mT a b c1];exact d
 by_cases e:T.cmp b c=0
 ·rw[<-mT b c e];exact g
 have:=Kv a b c (by omega) (by omega);omega
theorem P6(c:dD a b)(d:dD b a):a=b:=by
 have:=tV a b;unfold dD at*
 exact mT a b (by omega)
theorem pM(h:¬T.cmp a b<0):dD b a:=by have:=tV a b;unfold dD;omega
theorem pe(h:T.cmp a b<0):dD a b:=by unfold dD;omega
def ck(l:ah):Prop:=l.Pairwise dD
theorem Uz{a b:ah}(c:ck a)(d:ck b)(h:a.Perm b):a=b:=Lb (fun _ _ _ _=>P6) c d h
def hH(t:T):ah->ah
 | []=>[t]
 |x::r=>if T.cmp t x<0 then t::x::r else x::hH t r
def gC:ah->ah->ah
 |acc,[]=>acc
 |acc,t::r=>gC (hH t acc) r
def eE(l:ah):ah:=gC [] l
theorem xC(t:T):∀l:ah,(hH t l).Perm (t::l)
 | []=> .refl _
 |x::r=>by
  simp only[hH];split
  ·exact .refl _
  ·exact((xC t r).cons x).trans (.swap t x r)
theorem ML(t:T):∀l:ah,ck l->ck (hH t l)
 | [],_=>rZ _ _
 |x::r,h=>by
  have h':=jc.1 h;simp only[hH];split
  ·rename_i c
   refine jc.2 ⟨fun y d=> ?_,h⟩;rcases bK.1 d with rfl|d
   ·exact pe c
   ·exact tw (pe c) (h'.1 y d)
  ·rename_i c
   refine jc.2 ⟨fun y d=> ?_,ML t r h'.2⟩;have:=(xC t r).mem_iff.1 d;rcases bK.1 this with rfl|d
   ·exact pM c
   ·exact h'.1 y d
theorem NR:∀(l acc:ah),(gC acc l).Perm (acc++l)
 | [],acc=>by simp[gC]
 |t::r,acc=>by simp only[gC];refine(NR r _).trans ?_;refine((xC t acc).append_right r).trans ?_;exact tS.symm
theorem I5:∀(l acc:ah),ck acc->ck (gC acc l)
 | [],acc,h=>h
 |t::r,acc,h=>by simp only[gC];exact I5 r _ (ML t acc h)
theorem lR(l:ah):(eE l).Perm l:=NR l []
theorem Ks(l:ah):ck (eE l):=I5 l [] ns
variable{l:ah}
theorem Cb{l':ah}(h:l'.Perm l)(c:ck l'):l'=eE l:=Uz c (Ks l) (h.trans (lR l).symm)
theorem EP:∀(a acc b:ah),gC acc (a++b)=gC (gC acc a) b
 | [],acc,b=>rfl
 |t::r,acc,b=>by simp only[dk,gC];exact EP r _ b
def eh(s:aF)(f:Int)(k:T):ah:=if(bI s f&&k.f==f)=true then k.kids else [k]
def flatK(s:aF)(f:Int)(l:ah):ah:=l.flatMap (eh s f)
mutual
def T.norm(s:aF):T->T
 | .node f v ks=> .node f v (if bI s f=true then eE (flatK s f (T.norms s ks))else flatK s f (T.norms s ks))
def T.norms(s:aF):ah->ah
 | []=>[]
 |t::r=>t.norm s::T.norms s r
end
theorem T.norms_map(s:aF):∀l:ah,T.norms s l=l.map (T.norm s)
 | []=>by simp[T.norms]
 |t::r=>by simp[T.norms,T.norms_map s r]
theorem El(s:aF)(t:T):(t.norm s).f=t.f:=by cases t;simp[T.norm]
theorem EZ(s:aF)(t:T):(t.norm s).v=t.v:=by cases t;simp[T.norm]
theorem GJ(a b:ah):bw (a++b)=bw a+bw b:=by unfold bw;rw[E1,ek];omega
theorem wF{a b:ah}(h:a.Perm b):bw a=bw b:=by
 induction h with
 |nil=>rfl
 |cons x _ e=>rw[dZ,dZ,e]
 |swap x y l=>rw[dZ,dZ,dZ,dZ];omega
 |trans _ _ d c=>rw[d,c]
theorem XO(s:aF)(f:Int)(k:T):bw (eh s f k)<=k.inner+1:=by
 unfold eh;split
 ·rw[GM];omega
 ·rw[dZ];simp[bw,T.inners]
theorem r9(s:aF)(f:Int)(k:T)(l:ah):flatK s f (k::l)=eh s f k++flatK s f l:=rfl
theorem N6(s:aF)(f:Int)(a b:ah):flatK s f (a++b)=flatK s f a++flatK s f b:=by unfold flatK;simp
theorem wZ(s:aF)(f:Int):∀l:ah,bw (flatK s f l)<=bw l
 | []=>by simp[flatK,bw,T.inners]
 |k::l=>by rw[r9,GJ,dZ];have:=XO s f k;have:=wZ s f l;omega
theorem T.qbN(f v:Int)(ks:ah):(T.node f v ks).inner=bw ks:=by simp[T.inner,bw]
mutual
theorem mA(s:aF):∀t:T,(t.norm s).inner<=t.inner
 | .node f v ks=>by
  have h:=yt s ks;have c:=wZ s f (T.norms s ks);simp only[T.norm,T.qbN];split
  ·rw[wF (lR _)];omega
  ·omega
theorem yt(s:aF):∀l:ah,bw (T.norms s l)<=bw l
 | []=>by simp[T.norms]
 |t::r=>by have d:=mA s t;have c:=yt s r;simp only[T.norms,dZ];omega
end
theorem fX{t:T}(h:t∈l):t.inner<=bw l:=by have:=T.qaF h;unfold bw;omega
theorem ip(l:ah):l.length<=bw l:=by unfold bw;omega
def gX(s:aF)(f:Int)(ks:ah)(i:Nat):ah:=flatK s f ((ks.take i).map (T.norm s))
theorem HH(s:aF)(f:Int)(ks:ah):gX s f ks 0=[]:=by simp[gX,flatK]
theorem Js(s:aF)(f:Int)(ks:ah)(i:Nat)(h:i<ks.length):gX s f ks (i+1)=gX s f ks i++eh s f ((aj ks i).norm s):=by unfold gX;rw[qs ks i h,c6,N6];simp[flatK]
theorem LF(s:aF)(f:Int)(ks:ah):gX s f ks ks.length=flatK s f (T.norms s ks):=by unfold gX;rw[fG,T.norms_map]
theorem JL(s:aF)(f:Int)(ks:ah)(i:Nat):bw (gX s f ks i)<=bw ks:=by
 unfold gX;have c:=wZ s f ((ks.take i).map (T.norm s));rw[<-T.norms_map]at c⊢
 have d:=yt s (ks.take i);have e:=RF ks i;omega
theorem Mm(t:T):∀(l:ah) (j:Nat),j<=l.length->(∀i,i<j->¬T.cmp t (aj l i)<0)->(j<l.length->T.cmp t (aj l j)<0)->hH t l=l.take j++t::l.drop j
 | [],j,c,_,_=>by simp at c;subst c;rfl
 |x::r,0,c,e,d=>by have:=d (by simp);simp only[aj,eG,fy]at this;simp[hH,this]
 |x::r,j+1,c,e,d=>by have g:=e 0 (by omega);simp only[aj,eG,fy]at g;have:=Mm t r j (by simpa using c) (fun i hi=>by simpa[aj]using e (i+1) (by omega)) (fun h=>by simpa[aj]using d (by simpa using h));simp[hH,g,this]
theorem Fo(a c:ah)(g:Tag)(h:(a.length+c.length)*40<=140737488355328):cK 3 40 (.sl U (a.map (T.enc U))) (.sl g (c.map (T.enc U)))=some (.sl U ((a++c).map (T.enc U))):=by
 have m:(c.map (T.enc U)).all (fun e=>decide (e.cells.length=3/\e.cells.all DV.isCell=true))=true:=by simp[aW,ba]
 have d:(a.map (T.enc U)).all (fun e=>decide (e.cells.length=3))=true:=by simp
 unfold cK;simp only;rw[aw m];cases c with
 |nil=>simp
 |cons x r=>simp only[bA,gW,bL,if_false];rw[aw ⟨by simpa using h,trivial,d⟩];simp
theorem qC3(xs:al)(m:Nat):f9 xs 0 m=(xs.take m).map DV.clr++xs.drop m:=by unfold f9;simp[DV.qaw]
def putAt(t:T)(l:ah):Nat:=match a8 (fun i=>decide (T.cmp t (aj l i)<0)) l.length 0 with
 |some j=>j
 |none=>l.length
theorem sB(q:Nat->Bool):∀(k i:Nat),(∀j,a8 q k i=some j->∀m,i<=m->m<j->q m=false)/\(a8 q k i=none->∀m,i<=m->m<i+k->q m=false)
 |0,i=>⟨fun j h=>by simp[a8]at h,fun _ m g c=>by omega⟩
 |k+1,i=>by
  have n:=sB q k (i+1);simp only[a8]
  by_cases h:q i=true
  ·simp only[h,if_true]
   exact⟨fun j d m g c=>by simp at d;omega,fun h=>by simp at h⟩
  ·simp only[h,bL,if_false]
   refine⟨fun j d m g c=> ?_,fun o m g c=> ?_⟩
   ·by_cases e:m=i
    ·subst e;simpa using h
    ·exact n.1 j d m (by omega) c
   ·by_cases e:m=i
    ·subst e;simpa using h
    ·exact n.2 o m (by omega) (by omega)
theorem G1(t:T)(l:ah):putAt t l<=l.length:=by
 unfold putAt;split
 ·rename_i j h;have:=(eQ _ _ _ _ h).2.1;omega
 ·omega
theorem Ys(t:T)(l:ah):hH t l=l.take (putAt t l)++t::l.drop (putAt t l):=by
 have h:=sB (fun i=>decide (T.cmp t (aj l i)<0)) l.length 0;refine Mm t l _ (G1 t l) (fun i hi=> ?_) (fun c=> ?_)
 ·unfold putAt at hi
  split at hi
  ·rename_i j e
   simpa using h.1 j e i (by omega) hi
  ·rename_i d
   simpa using h.2 d i (by omega) (by omega)
 ·unfold putAt at c⊢
  split
  ·rename_i j e
   simpa using (eQ _ _ _ _ e).2.2
  ·rename_i d;rw[d]at c;simp at c
theorem MW(l:ah)(t:T)(Z:bw l<=1099511627776)(P:t.inner<=1099511627776)(r o p s:Option aA):ap XV 154 [.d (ai U l),.d (t.enc U)] [r,o,p,s]=some (.d (.sl U ((hH t l).map (T.enc U))),[r,o,p,s]):=by
 have M:=ip l;have G:=G1 t l;have O:∀i,i<l.length->ap XV 84 [.d (t.enc .sub),.d ((aj l i).enc .sub)] []=some (ax (decide (T.cmp t (aj l i)<0)),[]):=fun i hi=>D6 t (aj l i) P (by have:=fX (bV hi);omega)
 rw[aN 154 yn rfl];have h:=cd (X:=XV) (T:=XV.lin 154) (L:=5) (live:=[0,3,5]) (b:=pj) (n:=l.length) (st:=fun(_:Unit) i=>⟨[(0,.d (ai U l)),(3,.ptr 4 0),(5,aa i)],[r,o,p,s,some [aa t.f,aa t.v,.d (ai U t.kids)]]⟩) (step:=cu fun i=>decide (T.cmp t (aj l i)<0))
  (F:=fun _=>(.exit 0,⟨[(0,.d (ai U l)),(3,.ptr 4 0),(5,aa l.length),(19,ax false)],[r,o,p,s,some [aa t.f,aa t.v,.d (ai U t.kids)]]⟩)) (R:=fun(j:Nat)=>(.exit 0,⟨[(0,.d (ai U l)),(3,.ptr 4 0),(5,aa j),(19,ax false)],[r,o,p,s,some [aa t.f,aa t.v,.d (ai U t.kids)]]⟩))
  (fun a=>⟨by simp,by simp[pj,Ea]⟩)
  (fun a i hi=>by
   have W:=bE (n:=i) (by omega);have hc:=O i hi;unfold cu
   by_cases y:decide (T.cmp t (aj l i)<0)=true
   ·rw[aw y]
    rw[y]at hc;exact⟨by simp,by simp[pj,Ea,hi,cut,bg hi,hc,aP]⟩
   ·rw[au y]
    have H:decide (T.cmp t (aj l i)<0)=false:=by simpa using y
    rw[H]at hc;exact⟨⟨[(0,.d (ai U l)),(3,.ptr 4 0),(5,aa (i+1:Nat))],[r,o,p,s,some [aa t.f,aa t.v,.d (ai U t.kids)]]⟩,by simp[pj,Ea,hi,W,cut,bg hi,hc,aP],by simp[aJ,aG]⟩)
  l.length () 0 ⟨[(0,.d (ai U l)),(3,.ptr 4 0),(5,aa 0)],[r,o,p,s,some [aa t.f,aa t.v,.d (ai U t.kids)]]⟩ (by omega) (by simp[aJ,aG])
 have h':cj XV (XV.lin 154) 5 [0,3,5] pj ⟨[(0,.d (ai U l)),(3,.ptr 4 0),(5,aa 0)],[r,o,p,s,some [aa t.f,aa t.v,.d (ai U t.kids)]]⟩=
  some (.exit 0,⟨[(0,.d (ai U l)),(3,.ptr 4 0),(5,aa (putAt t l)),(19,ax false)],[r,o,p,s,some [aa t.f,aa t.v,.d (ai U t.kids)]]⟩):=by
  rw[h,eH];unfold putAt;cases y:a8 (fun i=>decide (T.cmp t (aj l i)<0)) l.length 0<;>simp
 clear h;rw[Ys];generalize putAt t l=m at*
 have J:=Fo [] (l.take m) .sub (by simp;omega);have I:=Fo (l.take m) [t] U (by simp;omega);have K:=Fo (l.take m++[t]) (l.drop m) .sub (by simp;omega);have x:(l.map (T.enc U)).all (fun e=>decide (e.cells.length=3))=true:=by simp
 have w:f9 (l.map (T.enc U)) 0 m=(l.take m).map (T.enc .sub)++(l.drop m).map (T.enc U):=by rw[qC3,<-List.map_take,kn,<-List.map_drop]
 have u:((l.take m).map (T.enc .sub)++(l.drop m).map (T.enc U)).all (fun e=>decide (e.cells.length=3))=true:=by
  have q:∀(l:ah) (g:Tag),(l.map (T.enc g)).all (fun e=>decide (e.cells.length=3))=true:=fun l g=>by simp
  rw[FJ,q,q];rfl
 have c:((l.take m).map (T.enc .sub)++(l.drop m).map (T.enc U)).length=l.length:=by simp;omega
 have C:(((l.take m).map (T.enc .sub)++(l.drop m).map (T.enc U)).take l.length).drop m=(l.drop m).map (T.enc U):=by rw[dE (by rw[c];exact bf _),F7 (by simp;omega),oz (by simp;omega)];rfl
 have z:(l.map (T.enc U)).take m=(l.take m).map (T.enc U):=B_.symm;simp only[cM,dG,bA,c6,cr,dk]at J I K⊢
 generalize hR:(l.take m).map (T.enc .sub)++(l.drop m).map (T.enc U)=R at*
 generalize Q:(l.take m).map (T.enc U)=L1 at*
 generalize S:(l.drop m).map (T.enc U)=L2 at*
 generalize Y:L1++[T.enc U t]=L3 at*
 generalize V:L1++T.enc U t::L2=L4 at*
 simp only[qQN]at h';simp[yn,aW,ba,bh,bd];rw[h'];simp[JS,JV,Mg,G,x,u,c,w,C,z,J,I,K,aP,splice,AV.qaw]
def nM(s:aF)(t:T):DV:=(t.norm s).enc U
theorem uf(s:aF)(f:Int)(h:¬bI s f=true):∀l:ah,flatK s f l=l
 | []=>rfl
 |k::l=>by
  rw[r9,uf s f h l];have h':bI s f=false:=by simpa using h
  simp[eh,h']
def gI(s:aF)(t:T):al:=(t.norm s).kids.map (T.enc U)
theorem jR(s:aF)(t:T):nM s t= .agg [.int .i64 t.f,.int .i64 t.v,.sl U (gI s t)]:=by unfold nM gI;rw[T.qbD,El,EZ]
theorem HZ(s:aF)(t:T):(gI s t).map DV.clr=(t.norm s).kids.map (T.enc .sub):=by unfold gI;exact kn _ _
theorem I9(s:aF)(t:T):(nM s t).cells=[.int .i64 t.f,.int .i64 t.v,.sl U (gI s t)]:=by rw[jR];rfl
theorem PQ(s:aF)(a:ah)(t:T)(h:a.length<=1099511627776):cK 3 40 (.sl U (a.map (nM s))) (.sl U [nM s t])=some (.sl U (a.map (nM s)++[nM s t])):=by unfold cK;simp only;rw[aw (by simp[I9,aW,ba])];simp only[gW,bL,if_false];rw[aw ⟨by simp;omega,trivial,by simp[I9]⟩]
def rowAt(s:aF)(f:Int)(ks:ah)(i:Nat):al:=if bI s f=true then(eE (gX s f ks i)).map (T.enc U)else(ks.take i).map (nM s)
theorem rowAt_zero(s:aF)(f:Int)(ks:ah):rowAt s f ks 0=[]:=by unfold rowAt;rw[HH];split<;>rfl
theorem norms_map(s:aF):∀l:ah,T.norms s l=l.map (T.norm s)
 | []=>by simp[T.norms]
 |t::r=>by simp[T.norms,norms_map s r]
theorem rowAt_all(s:aF)(f v:Int)(ks:ah):DV.agg [.int .i64 f,.int .i64 v,.sl U (rowAt s f ks ks.length)]=nM s (.node f v ks):=by
 rw[jR];unfold rowAt gI;rw[LF,fG];simp only[T.qaO,T.qbT,T.norm]
 by_cases c:bI s f=true
 ·simp only[c,if_true,T.qaD]
 ·simp only[c,bL,if_false,T.qaD]
  rw[uf s f c,norms_map,et];rfl
def dQ(f v:Int)(ks:ah)(R:al):ar:=[some [aa f,aa v,.d (ai .sub ks)],some [aa 0,aa 0,.d (.sl U [])],some [aa f,aa v,.d (.sl U R)]]
def fF(l:ah)(j:Nat):al:=(l.take j).map (T.enc .sub)++(l.drop j).map (T.enc U)
theorem X3(l:ah)(j:Nat)(h:j<=l.length):(fF l j).length=l.length:=by unfold fF;simp;omega
theorem Zi(l:ah)(j:Nat):(fF l j).map DV.clr=l.map (T.enc .sub):=by unfold fF;rw[c6,kn,kn,<-List.map_append,d7]
theorem Qr(l:ah)(j:Nat)(h:j<l.length):(fF l j)[j]?=some ((aj l j).enc U):=by unfold fF;rw[cF (by simp;omega),dl h,bg h];simp[wW (ym h)]
theorem Tf(l:ah)(j:Nat)(h:j<l.length):(fF l j).set j ((aj l j).enc .sub)=fF l (j+1):=by
 unfold fF;have c:((l.take j).map (T.enc .sub)).length=j:=by simp;omega
 rw[kv _ _ (by rw[c];exact bf _),c,nw,dl h,bg h,bA,nE,qs l j h,c6,cr,bA,cM];rfl
theorem Ut(l:ah):fF l l.length=l.map (T.enc .sub):=by unfold fF;simp
theorem Ro(l:ah):fF l 0=l.map (T.enc U):=by unfold fF;simp
theorem OZ(TT:ae)(d4:Nat)(s:XS)(b off:Nat)(cs:aA)(g gt:Tag)(xs:al)(k:Nat)(t:T):rz TT d4 3 s b off cs g xs k (some (t.enc gt))=some (be TT ⟨s.r,s.B.set b (some (cs.set off (.d (.sl g (xs.set k (t.enc .sub))))))⟩ (some d4) (.d (t.enc gt))):=by rw[<-T.qfU gt t,T.qbD];rfl
theorem Ou(s:aF)(I:s.length<=1099511627776)(f v p o:Int)(ks l:ah)(i:Nat)(H:l.length<=1099511627776):∀(k j:Nat),j+k=l.length->∀acc:ah,bw acc+bw (l.drop j)<=1099511627776->∀e:ar,
 cj XV (XV.lin 153) 4 [0,3,4,5,6,7,8] xg ⟨[(0,.d (sg s)),(3,.ptr 0 0),(4,.ptr 1 0),(5,.ptr 2 0),(6,aa i),(7,.ptr 3 0),(8,aa j)],dQ f v ks (acc.map (T.enc U))++[some [aa p,aa o,.d (.sl U (fF l j))]]++e⟩=
  some (.exit 3,⟨[(0,.d (sg s)),(3,.ptr 0 0),(4,.ptr 1 0),(5,.ptr 2 0),(6,aa i),(7,.ptr 3 0),(8,aa l.length),(32,ax false)],dQ f v ks ((gC acc (l.drop j)).map (T.enc U))++[some [aa p,aa o,.d (.sl U (l.map (T.enc .sub)))]]⟩):=by
 have head:∀(x:Int) (A e:ar),A.length=4->aJ 4 [0,3,4,5,6,7,8] ⟨[(0,.d (sg s)),(3,.ptr 0 0),(4,.ptr 1 0),(5,.ptr 2 0),(6,aa i),(7,.ptr 3 0),(8,aa x)],A++e⟩=some ⟨[(0,.d (sg s)),(3,.ptr 0 0),(4,.ptr 1 0),(5,.ptr 2 0),(6,aa i),(7,.ptr 3 0),(8,aa x)],A⟩:=fun x A e w=>gi (by simp) (by simp[aG]) w rfl
 intro k
 induction k with
 |zero=>
  intro j y acc m e;have:j=l.length:=by omega
  subst this;refine eF (head _ _ e (by simp[dQ])) ?_ (by simp);rw[Ch,Ut];simp only[gC];simp[xg,dQ,aP]
 |succ k G=>
  intro j y acc m e;have c:j<l.length:=by omega
  have g:l.drop j=aj l j::l.drop (j+1):=by rw[dl c,bg c]
  have r:=bE (n:=j) (by omega);have t:=X3 l j (by omega);have C:=Zi l j;have u:∀h:j<(fF l j).length,(fF l j)[j]'h=(aj l j).enc U:=fun h=>(aU.1 (Qr l j c)).2
  have z:=Tf l j c;rw[g,dZ]at m;have F:=MW acc (aj l j) (by omega) (by omega);rw[g];simp only[gC];rw[<-G (j+1) (by omega) (hH (aj l j) acc) (by rw[wF (xC _ _),dZ];omega) []];refine fA (head _ _ e (by simp[dQ])) ?_;generalize fF l (j+1)=R1 at*
  generalize fF l j=R0 at*
  simp[xg,PK,dQ,c,r,bg c,F,t,C,u,z,OZ,dn,VX.linT,splice,ba,bh,bd,aP]
theorem X4(s:aF)(K:s.length<=1099511627776)(f v:Int)(ks:ah)(S:bw ks<=1099511627776)(i:Nat)(hi:i<ks.length)
 (hc:ap XV 153 [.d (sg s),.d ((aj ks i).enc .sub)] []=some (.d (nM s (aj ks i)),[])):
 ∃e:ar,aO XV (XV.lin 153) m_ ⟨[(0,.d (sg s)),(3,.ptr 0 0),(4,.ptr 1 0),(5,.ptr 2 0),(6,aa i)],dQ f v ks (rowAt s f ks i)⟩=
  some (.normal,⟨[(0,.d (sg s)),(3,.ptr 0 0),(4,.ptr 1 0),(5,.ptr 2 0),(6,aa (i+1:Nat))],dQ f v ks (rowAt s f ks (i+1))++e⟩):=by
 have O:=ip ks;have H:=bE (n:=i) (by omega);have z:=uO s K f;have C:=bg hi;have Y:=fX (bV hi);have R:=mA s (aj ks i);have t:=Js s f ks i hi;have h:=JL s f ks (i+1);have I:=qs ks i hi;have x:=HZ s (aj ks i);have m:=El s (aj ks i);have J:=EZ s (aj ks i);have g:=PQ s (ks.take i) (aj ks i) (by simp;omega);rw[t,GJ]at h;unfold rowAt;rw[t,I];rw[jR]at hc g;generalize V:aj ks i=k at*
 generalize W:gX s f ks i=acc at*
 have u:gI s k=(k.norm s).kids.map (T.enc U):=rfl;generalize P:gI s k=X at*
 by_cases p:bI s f=true
 ·simp only[p,if_true]
  by_cases w:(k.f==f)=true
  ·have y:eh s f (k.norm s)=(k.norm s).kids:=by unfold eh;rw[m,p,w];rfl
   rw[y]at h⊢
   have c:=Ou s K f v k.f k.v ks (k.norm s).kids i (by have:=ip (k.norm s).kids;rw[GM]at this;omega) (k.norm s).kids.length 0 (by omega) (eE acc) (by rw[wF (lR acc),gD];omega) [];rw[gD,Ro,show gC (eE acc) (k.norm s).kids=eE (acc++(k.norm s).kids)from by unfold eE;rw[EP]]at c;refine⟨[some [aa k.f,aa k.v,.d (.sl U ((k.norm s).kids.map (T.enc .sub)))]],?_⟩;have o:(k.f !=f)=false:=by simpa using w
   rw[<-u]at c;generalize (eE (acc++(k.norm s).kids)).map (T.enc U)=R2 at*
   generalize (eE acc).map (T.enc U)=R1 at*
   generalize (k.norm s).kids=l at*
   simp only[dQ,NG,tW,dk,dG,dB]at c⊢
   simp[m_,hi,cut,C,hc,z,p,o,x,splice,aW,ba,bh,bd,aP];rw[c];simp[H]
  ·have F:(k.f==f)=false:=by simpa using w
   have o:(k.f !=f)=true:=by simpa using w
   have y:eh s f (k.norm s)=[k.norm s]:=by unfold eh;rw[m,p,F];rfl
   rw[y]at h⊢
   rw[show eE (acc++[k.norm s])=hH (k.norm s) (eE acc)from by unfold eE;rw[EP];rfl];have M:=MW (eE acc) (k.norm s) (by rw[wF (lR acc)];omega) (by omega);have G:(k.norm s).enc U= .agg [.int .i64 k.f,.int .i64 k.v,.sl U X]:=by rw[T.qbD,m,J,u]
   simp only[G]at M;refine⟨[some [aa k.f,aa k.v,.d (ai .sub (k.norm s).kids)]],?_⟩;generalize hH (k.norm s) (eE acc)=R2 at*
   generalize eE acc=R1 at*
   generalize (k.norm s).kids=l at*
   simp[m_,dQ,hi,H,cut,C,hc,z,p,o,x,M,dn,VX.linT,splice,aW,ba,bh,bd,aP,AV.qaw]
 ·have r:bI s f=false:=by simpa using p
  simp only[r,bL,if_false];refine⟨[some [aa k.f,aa k.v,.d (ai .sub (k.norm s).kids)]],?_⟩;rw[c6,bA,cM,jR,P];generalize Q:(ks.take i).map (nM s)++[.agg [.int .i64 k.f,.int .i64 k.v,.sl U X]]=R2 at*
  generalize (ks.take i).map (nM s)=R1 at*
  generalize (k.norm s).kids=l at*
  simp[m_,dQ,hi,H,cut,C,hc,z,r,g,x,splice,aW,ba,bh,bd,aP,AV.qaw]
theorem Z2(s:aF)(m:s.length<=1099511627776)(f v:Int)(ks:ah)(h:bw ks<=1099511627776)
 (hc:∀t,t∈ks->ap XV 153 [.d (sg s),.d (t.enc .sub)] []=some (.d (nM s t),[])):∀(k i:Nat),i+k=ks.length->∀e:ar,
 cj XV (XV.lin 153) 3 [0,3,4,5,6] m_ ⟨[(0,.d (sg s)),(3,.ptr 0 0),(4,.ptr 1 0),(5,.ptr 2 0),(6,aa i)],dQ f v ks (rowAt s f ks i)++e⟩=
  some (.exit 0,⟨[(0,.d (sg s)),(3,.ptr 0 0),(4,.ptr 1 0),(5,.ptr 2 0),(6,aa ks.length),(18,ax false)],dQ f v ks (rowAt s f ks ks.length)⟩):=by
 have head:∀(x:Int) (A e:ar),A.length=3->aJ 3 [0,3,4,5,6] ⟨[(0,.d (sg s)),(3,.ptr 0 0),(4,.ptr 1 0),(5,.ptr 2 0),(6,aa x)],A++e⟩=some ⟨[(0,.d (sg s)),(3,.ptr 0 0),(4,.ptr 1 0),(5,.ptr 2 0),(6,aa x)],A⟩:=fun x A e g=>gi (by simp) (by simp[aG]) g rfl
 intro k
 induction k with
 |zero=>
  intro i hi e;have:i=ks.length:=by omega
  subst this;refine eF (head _ _ e (by simp[dQ])) ?_ (by simp);generalize rowAt s f ks ks.length=R;simp[m_,dQ,aP]
 |succ k o=>
  intro i hi e;have c:i<ks.length:=by omega
  obtain⟨n,p⟩:=X4 s m f v ks h i c (hc _ (bV c));rw[<-o (i+1) (by omega) n];exact fA (head _ _ e (by simp[dQ])) p
theorem qtr(s:aF)(g:s.length<=1099511627776)(f v:Int)(ks:ah)(e:bw ks<=1099511627776)
 (hc:∀t,t∈ks->ap XV 153 [.d (sg s),.d (t.enc .sub)] []=some (.d (nM s t),[])):
 ap XV 153 [.d (sg s),.d ((T.node f v ks).enc .sub)] []=some (.d (nM s (.node f v ks)),[]):=by
 rw[aN 153 vF rfl];have c:=Z2 s g f v ks e hc ks.length 0 (by omega) [];rw[<-rowAt_all];simp only[rowAt_zero,dB,NG,dQ,tW]at c;generalize rowAt s f ks ks.length=R at*
 simp[vF,splice,aW,ba,bh,bd,aP];rw[c];simp[ND,splice,aW,ba,bh,bd,aP,AV.qaw]
theorem pG(s:aF)(g:s.length<=1099511627776)(t:T)(c:t.inner<=1099511627776):ap XV 153 [.d (sg s),.d (t.enc .sub)] []=some (.d (nM s t),[]):=by
 match t,c with
 | .node f v ks,c=>rw[T.qbN]at c;exact qtr s g f v ks c fun x e=>pG s g x (by have:=fX e;omega)
termination_by t
decreasing_by
 simp_wf
 have:=gM e;omega
def dst(n:Int)(neg:Bool)(s:ByteArray):XS:=⟨[(0,aa n),(3,ax neg),(4,.d (.str s))],[]⟩
def cD:aF:=[⟨⟨#[116,116]⟩,0,false⟩,⟨⟨#[97]⟩,0,false⟩,⟨⟨#[98]⟩,0,false⟩,⟨⟨#[103]⟩,1,false⟩,⟨⟨#[104]⟩,2,false⟩,⟨⟨#[102]⟩,2,true⟩,⟨⟨#[107]⟩,2,true⟩]
theorem Bn:ap XV 155 [] []=some (.d (.sl U (cD.map SymL.enc)),[]):=by rw[aN 155 xF rfl];simp[xF,cD,df,List.replicate,splice]
structure SigD(l:aF):Prop where
 len:l.length<=9
 sym:∀s,s∈l->s.name.size<=9/\-1<=s.arity/\s.arity<=4
theorem SigD.ok{l:aF}(h:SigD l):∀s,s∈l->s.ok:=fun s c=>by obtain⟨e,d,g⟩:=h.sym s c;exact⟨by unfold maxLen;omega,by omega,by omega⟩
theorem SigD.nm{l:aF}(h:SigD l)(n:Nat)(c:9<=n):∀i,i<l.length->(aZ l i).name.size<=n:=fun i hi=>by have:=(h.sym _ (LZ hi)).1;omega
theorem Q7(x y:Int)(r:DV):(DV.int .u8 x).like r=(DV.int .u8 y).like r:=by cases r<;>rfl
theorem V_(bs:aX):(bs.map (DV.int .u8)).flatMap DV.cells=bs.map (DV.int .u8):=by
 induction bs with
 |nil=>rfl
 |cons b r c=>simp only[bA,eI,c,DV.cells,EU]
theorem JN(rs:al):∀bs:aX,DV.xrests rs (bs.map (.int .u8))=true
 | []=>by simp
 |b::r=>by simp[DV.xrest,JN rs r]
theorem V7(rs:al)(h:rs.all (fun r=> !(DV.int .u8 0).like r)=true)(bs:aX):DV.xrest rs (.sl .sub (bs.map (.int .u8)))=true:=by
 simp only[DV.xrest,JN,nG,V_];cases bs with
 |nil=>rfl
 |cons b r=>
  have:(rs.all fun r=> !(DV.int .u8 b).like r)=true:=by rw[<-h];congr 1;funext r;rw[Q7 b 0]
  simp[this]
theorem EN(rs:al)(h:rs.all (fun r=> !(DV.int .u8 0).like r)=true)(bs:aX)(pos st:Int):iy rs (ce bs pos st)=true:=by simp only[iy,ce,gF,List.all_nil,AV.xrest];rw[V7 rs h bs];simp only[DV.xrest,Ao]
@[simp] theorem qWS(s:SymL):b_ s.enc=true:=rfl
@[simp] theorem qSE(rs:al)(s:SymL):DV.xrest rs s.enc=true:=by show DV.xrest rs (.agg [.str s.name,.int .i64 s.arity,.bool s.ac])=true;simp only[DV.xrest,DV.xrests,Ao]
theorem lc(bs:aX)(pos st:Int):AV.clrs (ce bs pos st)=ce bs pos st:=by simp[ce]
theorem Vq:SigD cD:=by refine⟨by decide,fun s c=> ?_⟩;simp only[cD,bK,nT,nu]at c;rcases c with rfl|rfl|rfl|rfl|rfl|rfl|rfl<;>exact⟨by decide,by decide,by decide⟩
mutual
def T.rng:T->Prop
 | .node _ v ks=>(-9223372036854775808<=v/\v<=9223372036854775807)/\T.rngs ks
def T.rngs:ah->Prop
 | []=>True
 |t::r=>t.rng/\T.rngs r
end
theorem T.qg7:∀l:ah,T.rngs l↔∀t,t∈l->t.rng
 | []=>by simp[T.rngs]
 |t::r=>by simp[T.rngs,T.qg7 r]
variable{B B':ar}{q:Nat}
theorem kp{bs:aX}{R:ar}(d:q<B.length)(h:Turned bs q (B++R) B'):∃c,Turned bs q B c/\c.length=B.length/\B'=c++R:=by obtain⟨pos,st,e,rfl⟩:=h;exact⟨B.set q (some (ce bs pos st)),⟨pos,st,e,rfl⟩,by simp,by rw[List.set_append_left _ _ d]⟩
theorem qcV.app{bs:aX}(h:qcV bs q B)(R:ar):qcV bs q (B++R):=by have d:=h.lt;obtain⟨pos,st,e,c⟩:=h;exact⟨pos,st,e,by have:=jC c;simp[aT,cf d,this]⟩
theorem rX(bs:aX)(o:bs.length<=1099511627776)(B:ar)(i:Nat)(h:qcV bs i B)(n:Int)(m:0<n)(d:n<=256):∃(b:Bool) (B':ar),Turned bs i B B'/\ap XV 162 [.ptr i 0,aa n] B=some (ax b,B'):=by obtain⟨r,B',p,e,hc⟩:=mV bs o B i h n m d;have g:=e.len;have c:List.take B.length B'=B':=dE (by omega);refine⟨r==0,B',e,?_⟩;rw[aN 162 wY rfl];simp[wY,hc,c]
theorem EV(f:Int)(ks:ah):ap XV 164 [aa f,.d (ai .sub ks)] []=some (.d ((T.node f 0 ks).enc .sub),[]):=by rw[aN 164 qI rfl];simp[qI,splice,aW,ba,bh,bd,aP]
theorem qCy{n:Nat}(h:n<9223372036854775808):IntKind.i64.wrap (((n+1:Nat):Int)-1)=n:=by rw[show((n+1:Nat):Int)-1=n by omega];exact wrap_i64 (by omega) (by omega)
def ui:VCode:=(.seq (.seq (.region false 0 [0,2,6,20] sw) (.cond (.t 20) (.seq (.region false 0 [6] FR) .ret) .skip)) (.seq (.region false 0 [6] AQ) .ret))
def Dx:VCode:=(.seq (.region false 0 [0,1,2,6,7] yS) (.seq (.region false 0 [0,1,2,6,7,8] A9) (.seq (.seq (.region false 0 [0,1,2,6,7,8,39] Ac) (.cond (.t 39) (.region false 0 [6,7,8] A7) .skip)) (.seq (.region false 0 [6] vM) .ret))))
def oG:VCode:= .seq (.seq (.region false 0 [0,1,2,6,14] qd) (.cond (.t 14) ui .skip)) Dx
theorem VK:uS=⟨3,[.cell 6 true 3],.seq (.region false 1 [0,1,2,6] CE) oG⟩:=rfl
theorem Lp(bs:aX)(M:bs.length<=1099511627776)(deep vars:Int)(X:vars<=256)(B:ar)(q:Nat)(h:qcV bs q B)(L:Nat)(S:B.length=L)(C:Option aA)(hC:C=some [aa 0,aa 0,.d (.sl U [])]):
 ∃(t:T) (g:Tag) (B':ar),(t.inner=0/\t.rng)/\Turned bs q B B'/\B'.length=L/\
  aO XV (XV.lin 166) ui ⟨[(0,.ptr q 0),(1,aa deep),(2,aa vars),(6,.ptr L 0),(14,ax true)],B++[C]⟩=
   some (.ret,⟨[(6,.ptr L 0)],B'++[some [aa t.f,aa t.v,.d (.sl g (t.kids.map (T.enc g)))]]⟩):=by
 subst hC;have I:=h.lt;have m:∀x:ar,Turned bs q B x->x.length=L->∃(t:T) (g:Tag) (B':ar),(t.inner=0/\t.rng)/\Turned bs q B B'/\B'.length=L/\
  ∀w:AV,aO XV (XV.lin 166) (.seq (.region false 0 [6] AQ) .ret) ⟨[(0,.ptr q 0),(2,aa vars),(6,.ptr L 0),(20,w)],x++[some [aa 0,aa 0,.d (.sl U [])]]⟩=
   some (.ret,⟨[(6,.ptr L 0)],B'++[some [aa t.f,aa t.v,.d (.sl g (t.kids.map (T.enc g)))]]⟩):=by
  intro x u z;obtain⟨r,Z,W,s,hc⟩:=mV bs M _ q ((u.at I).app [some [aa 0,aa 0,.d (.sl U [])]]) 2 (by omega) (by omega);obtain⟨O,e,n,rfl⟩:=kp (by omega) s;rw[z]at n;have hw:IntKind.i64.wrap (1+r)=1+r:=wrap_i64 (by omega) (by omega);refine⟨.node (1+r) 0 [],U,O,by simp[T.inner,T.inners,T.rng,T.rngs],u.trans e,n,fun w=> ?_⟩;simp[AQ,hc,hw,n,splice,aW,ba,bh,bd]
 by_cases o:0<vars
 ·obtain⟨b,Z,s,hc⟩:=rX bs M _ q (h.app [some [aa 0,aa 0,.d (.sl U [])]]) 2 (by omega) (by omega)
  obtain⟨O,e,n,rfl⟩:=kp I s;cases b with
  |true=>obtain⟨r,B4,W,Q,P⟩:=mV bs M _ q ((e.at I).app [some [aa 0,aa 0,.d (.sl U [])]]) vars o X;obtain⟨V,J,p,rfl⟩:=kp (by omega) Q;have F:=D9 r;rw[n,S]at p;refine⟨.node (-1) r [],U,V,by simp[T.inner,T.inners,T.rng,T.rngs];omega,e.trans J,p,?_⟩;simp[ui,sw,FR,o,hc,P,F,p,splice,aW,ba,bh,bd]
  |false=>obtain⟨t,g,B',G,K,y,H⟩:=m O e (by omega);refine⟨t,g,B',G,K,y,?_⟩;have c:=H (ax false);simp only[uq]at c;simp[ui,sw,o,hc];simpa using c
 ·obtain⟨t,g,B',G,K,y,H⟩:=m B (by
   obtain⟨pos,st,Y,hb⟩:=h;refine⟨pos,st,Y,?_⟩;apply jG;intro j
   by_cases R:q=j
   ·subst R;rw[iz,jC hb];simp
   ·rw[dK R]) S
  refine⟨t,g,B',G,K,y,?_⟩;have c:=H (ax false);simp only[uq]at c;simp[ui,sw,o];simpa using c
theorem xk(L:Nat)(B B':ar)(q:Nat)(deep vars:Int)(t:T)(g:Tag)(m:q<B.length)(e:B.length=L)(c:B'.length=L)
 (h:aO XV (XV.lin 166) oG ⟨[(0,.ptr q 0),(1,aa deep),(2,aa vars),(6,.ptr L 0)],B++[some [aa 0,aa 0,.d (.sl U [])]]⟩=
  some (.ret,⟨[(6,.ptr L 0)],B'++[some [aa t.f,aa t.v,.d (.sl g (t.kids.map (T.enc g)))]]⟩)):
 ap XV 166 [.ptr q 0,aa deep,aa vars] B=some (.d (t.enc g),B'):=by
 rw[aN 166 uS rfl,VK];simp only[uq]at h;obtain⟨f,v,ks⟩:=t;simp only[T.qaO,T.qbT,T.qaD]at h;simp[CE,e];rw[h];simp[c,aP]
theorem FH(bs:aX)(C:bs.length<=1099511627776):∀(d:Nat),d<=8->∀(vars:Int),vars<=256->∀(B:ar) (q:Nat),qcV bs q B->
 ∃(t:T) (g:Tag) (B':ar),(t.inner+2<=2^(d+1)/\t.rng)/\Turned bs q B B'/\ap XV 166 [.ptr q 0,aa d,aa vars] B=some (.d (t.enc g),B'):=by
 intro d
 induction d with
 |zero=>
  intro _ vars s B q y;obtain⟨t,g,B',J,O,G,u⟩:=Lp bs C 0 vars s B q y B.length rfl _ rfl;refine⟨t,g,B',⟨by omega,J.2⟩,O,xk B.length B B' q 0 vars t g y.lt rfl G ?_⟩;simp only[uq]at u⊢
  simp[oG,qd];rw[u];simp
 |succ d Y=>
  intro hd vars s B q y;have r:=y.lt;obtain⟨b,B2,R,hc⟩:=rX bs C _ q (y.app [some [aa 0,aa 0,.d (.sl U [])]]) 3 (by omega) (by omega);obtain⟨B3,c,I,rfl⟩:=kp r R;have o:(((d+1:Nat):Int)==0)=false:=by simpa using (show¬(((d+1:Nat):Int)=0)by omega)
  cases b with
  |true=>
   obtain⟨t,g,B',J,O,G,u⟩:=Lp bs C ((d+1:Nat):Int) vars s B3 q (c.at r) B.length I _ rfl;refine⟨t,g,B',⟨by have:2^1<=2^(d+1+1):=oD (by omega) (by omega);omega,J.2⟩,c.trans O,xk B.length B B' q _ vars t g r rfl G ?_⟩;simp only[uq]at u⊢
   generalize ((d+1:Nat):Int)=D at*
   simp[oG,qd,o,hc];rw[u];simp
  |false=>
   obtain⟨j,hj,B4,V,e⟩:=GO bs C _ q ((c.at r).app [some [aa 0,aa 0,.d (.sl U [])]]) [3,4,5,5,6] (by simp) (by simp);obtain⟨W,p,x2,rfl⟩:=kp (by omega) V;generalize ([3,4,5,5,6]:aX)[j]=f at e;obtain⟨t1,g1,B6,x,P,w⟩:=Y (by omega) vars s _ q ((p.at (by omega)).app [some [aa 0,aa 0,.d (.sl U [])]]);obtain⟨F,m,x1,rfl⟩:=kp (by omega) P;have hw:=qCy (n:=d) (by omega)
   by_cases Z:3<f
   ·obtain⟨z,g2,B8,M,H,S⟩:=Y (by omega) vars s _ q ((m.at (by omega)).app [some [aa 0,aa 0,.d (.sl U [])]])
    obtain⟨K,Q,h5,rfl⟩:=kp (by omega) H;have h:ap XV 164 [aa f,.d (.sl .sub [t1.enc .sub,z.enc .sub])] []=some (.d (.agg [.int .i64 f,.int .i64 0,.sl .sub [t1.enc .sub,z.enc .sub]]),[]):=by have:=EV f [t1,z];rw[T.qbD]at this;exact this
    refine⟨.node f 0 [t1,z],.sub,K,⟨by simp only[T.inner,T.inners,de,iL];rw[Nat.pow_succ];omega,by simp[T.rng,T.rngs,x.2,M.2]⟩,c.trans (p.trans (m.trans Q)),xk B.length B K q _ vars _ .sub r rfl (by omega) ?_⟩;have e9:K.length=B.length:=by omega
    have X:F.length=B.length:=by omega
    have e5:W.length=B.length:=by omega
    simp only[bA,cM]at e;generalize ((d+1:Nat):Int)=D at*
    generalize (d:Int)=D0 at*
    simp[oG,Dx,qd,yS,A9,Ac,A7,vM,o,hc,e,hw,w,Z,S,h,e9,df,List.replicate,splice,aW,ba,bh,bd,cK]
   ·have h:ap XV 164 [aa f,.d (.sl .sub [t1.enc .sub])] []=some (.d (.agg [.int .i64 f,.int .i64 0,.sl .sub [t1.enc .sub]]),[]):=by
     have:=EV f [t1];rw[T.qbD]at this;exact this
    refine⟨.node f 0 [t1],.sub,F,⟨by simp only[T.inner,T.inners,de,iL];rw[Nat.pow_succ];omega,by simp[T.rng,T.rngs,x.2]⟩,c.trans (p.trans m),xk B.length B F q _ vars _ .sub r rfl (by omega) ?_⟩;have X:F.length=B.length:=by omega
    have e5:W.length=B.length:=by omega
    simp only[bA,cM]at e;generalize ((d+1:Nat):Int)=D at*
    generalize (d:Int)=D0 at*
    simp[oG,Dx,qd,yS,A9,Ac,A7,vM,o,hc,e,hw,w,Z,h,X,df,List.replicate,splice,aW,ba,bh,bd]
theorem qLm(s:aF)(f:Int)(k:T)(h:k.rng):T.rngs (eh s f k):=by
 unfold eh;split
 ·obtain⟨a,b,c⟩:=k;exact h.2
 ·exact⟨h,trivial⟩
theorem D_{a b:ah}(e:T.rngs a)(d:T.rngs b):T.rngs (a++b):=by
 rw[T.qg7]at*
 intro t c;rcases bC.1 c with h|h
 ·exact e t h
 ·exact d t h
theorem Lz(s:aF)(f:Int):∀l:ah,T.rngs l->T.rngs (flatK s f l)
 | [],_=>by simp[flatK,T.rngs]
 |k::l,h=>by rw[r9];exact D_ (qLm s f k h.1) (Lz s f l h.2)
mutual
theorem Ed(s:aF):∀t:T,t.rng->(t.norm s).rng
 | .node f v ks,h=>by
  have c:=Lz s f _ (NB s ks h.2);simp only[T.norm];split
  ·refine⟨h.1,?_⟩
   rw[T.qg7]at c⊢
   exact fun t d=>c t ((lR _).mem_iff.1 d)
  ·exact⟨h.1,c⟩
theorem NB(s:aF):∀l:ah,T.rngs l->T.rngs (T.norms s l)
 | [],_=>trivial
 |t::r,h=>⟨Ed s t h.1,NB s r h.2⟩
end
theorem yZ(bs:aX)(s:bs.length<=1099511627776)(vars:Int)(y:vars<=256)(B:ar)(q:Nat)(h:qcV bs q B):
 ∃(t:T) (B':ar),(t.inner<=6/\t.rng)/\(∃u,t=T.norm cD u)/\Turned bs q B B'/\ap XV 163 [.ptr q 0,aa vars] B=some (.d (t.enc U),B'):=by
 have z:=h.lt;obtain⟨t,g,C,hi,w,hc⟩:=FH bs s 2 (by omega) vars y _ q (h.app [some [aa 0,aa 0,.d (.sl U [])]]);obtain⟨p,n,m,rfl⟩:=kp z w;have r:=pG cD (by decide) t (by omega);have x:=mA cD t;refine⟨t.norm cD,p,⟨by omega,Ed cD t hi.2⟩,⟨t,rfl⟩,n,?_⟩;rw[aN 163 xy rfl];have c:=Bn;rw[jR]at r;have e:(t.norm cD).enc U= .agg [.int .i64 t.f,.int .i64 t.v,.sl U (gI cD t)]:=by rw[<-jR];rfl
 rw[e];generalize gI cD t=X at*
 have o:ap XV 166 [AV.ptr q 0,AV.d (DV.int IntKind.i64 2),AV.d (DV.int IntKind.i64 vars)] (B++[some [AV.d (DV.int IntKind.i64 0),AV.d (DV.int IntKind.i64 0),AV.d (DV.sl U [])]])=some (AV.d (t.enc g),p++[some [AV.d (DV.int IntKind.i64 0),AV.d (DV.int IntKind.i64 0),AV.d (DV.sl U [])]]):=hc;simp[xy,c,o,r,m,aP,splice,aW,ba,bh,bd]
def fc(l:ah):al:=l.flatMap fun t=>(t.enc U).cells
def eD(l:ah):al:=l.flatMap fun t=>(t.enc .sub).cells
theorem TY(l:ah):(l.map (T.enc U)).flatMap DV.cells=fc l:=by unfold fc;rw[nN]
theorem oW(t:T)(l:ah):fc (t::l)= .int .i64 t.f:: .int .i64 t.v:: .sl U (t.kids.map (T.enc U))::fc l:=by unfold fc;rw[eI,T.qbD];rfl
theorem sG(t:T)(l:ah):eD (t::l)= .int .i64 t.f:: .int .i64 t.v:: .sl .sub (t.kids.map (T.enc .sub))::eD l:=by unfold eD;rw[eI,T.qbD];rfl
theorem QJ(a b:ah):fc (a++b)=fc a++fc b:=by unfold fc;simp
theorem HX(a b:ah):eD (a++b)=eD a++eD b:=by unfold eD;simp
theorem tn:∀l:ah,(fc l).map DV.clr=eD l
 | []=>rfl
 |t::l=>by rw[oW,sG,bA,bA,bA,tn l];simp
theorem kF:∀l:ah,(fc l).length=l.length*3
 | []=>rfl
 |t::l=>by rw[oW];simp[kF l];omega
theorem KN:∀l:ah,(eD l).length=l.length*3
 | []=>rfl
 |t::l=>by rw[sG];simp[KN l];omega
theorem rR(f:AV->cZ):∀(a b:aA) {x y:al},cQ f a=some x->cQ f b=some y->cQ f (a++b)=some (x++y)
 | [],b,x,y,c,e=>by simp[cQ]at c;subst c;simpa using e
 |v::a,b,x,y,c,e=>by simp only[cQ]at c;obtain⟨d,g,c⟩:=az.1 c;obtain⟨x',h,rfl⟩:=ay.1 c;simp only[dk,cQ,g,rR f a b h e,a9,bH]
theorem oI(M:ar)(n:Nat):∀l:al,cQ (AV.frzC M n) (l.map .d)=some l
 | []=>rfl
 |d::l=>by simp only[bA,cQ,Ic,oI M n l,a9,bH]
theorem Kb{d:DV}{k:IntKind}{n:Int}(h:d.clr= .int k n):d= .int k n:=by cases d<;>simp[DV.clr]at h⊢<;>exact h
theorem qAA{d:DV}{l:al}(h:d.clr= .sl .sub l):∃g xs,d= .sl g xs/\DV.clrs xs=l:=by
 cases d<;>simp[DV.clr]at h
 exact⟨_,_,rfl,h⟩
theorem DL{t:T}{ds:al}(h:ds.map DV.clr=eD (t::l)):∃g xs r,ds= .int .i64 t.f:: .int .i64 t.v:: .sl g xs::r/\DV.clrs xs=t.kids.map (T.enc .sub)/\r.map DV.clr=eD l:=by
 rw[sG]at h
 match ds,h with
 | [],h=>simp at h
 | [_],h=>simp at h
 | [_,_],h=>simp at h
 |o::d1::d2::r,h=>simp only[bA,List.cons.injEq]at h;obtain⟨n,e,c,m⟩:=h;obtain⟨g,xs,rfl,d⟩:=qAA c;exact⟨g,xs,r,by rw[Kb n,Kb e],d,m⟩
theorem Mw:∀(l:ah) (ds:al),ds.map DV.clr=eD l->ds.all DV.isCell=true
 | [],ds,h=>by
  have:ds=[]:=by simpa[eD]using h
  subst this;rfl
 |t::l,ds,h=>by obtain⟨g,xs,r,rfl,d,c⟩:=DL h;simp[aW,ba];simpa using Mw l r c
theorem MD:∀(l:ah) (ds:al),ds.map DV.clr=eD l->∃xs,chunks true 3 l.length ds=some xs/\xs.map DV.clr=l.map (T.enc .sub)
 | [],ds,h=>⟨[],rfl,rfl⟩
 |t::l,ds,h=>by
  obtain⟨g,xs,r,rfl,e,n⟩:=DL h;obtain⟨m,d,c⟩:=MD l r n;refine⟨.agg [.int .i64 t.f,.int .i64 t.v,.sl g xs]::m,?_,?_⟩
  ·simp[chunks,cut,aW,ba,d,DV.cells]
  ·rw[bA,bA,c,T.qbD]
   simp only[DV.clr,DV.clrs,e]
theorem PY(B:ar)(i:Nat)(h:2<=i):aT (dp 2 B) i=aT B i:=by unfold aT dp;rw[cF (by simp;exact h),Gq,gP,show 2+(i-2)=i by omega]
def Ctx(j:Nat)(B:ar)(A D:ah)(N:Nat):Prop:=
 ∀(B':ar) (cs:aA) (u:T) (ds:al),B'.length=6->(∀i,j<i->B'[i]?=B[i]?)->B'[j]?=some (some cs)->cQ (AV.frzC (dp 2 B') (j+1)) cs=some ds->ds.map DV.clr=eD (A++u::D)->
  ∃(e:aA) (c:al) (d:T),B'[5]?=some (some e)/\cQ (AV.frzC (dp 2 B') 6) e=some c/\c.map DV.clr=eD [d]/\d.inner<=N+u.inner/\(u.rng->d.rng)
theorem Ctx.base(B:ar):Ctx 5 B [] [] 0:=fun B' cs u ds h g e c d=>⟨cs,ds,u,e,c,d,by omega,id⟩
theorem xM:∀a b:ah,T.inners (a++b)=T.inners a+T.inners b
 | [],b=>by simp[T.inners]
 |t::a,b=>by simp only[dk,T.inners,xM a b];omega
variable{f:Int}{N j:Nat}{A D:ah}
theorem Ctx.step{C:ar}{A' c:ah}{m:Nat}{v:Int}(I:2<=j)(h:Ctx (j+1) B A D N)(s:∀i,j+1<i->C[i]?=B[i]?)
 (x:C[j+1]?=some (some ((fc A).map .d++([aa f,aa v,.tsl true j 3 m]++(fc D).map .d)))) (X:A'.length+1+c.length=m) (Q: -9223372036854775808<=v/\v<=9223372036854775807) (M:T.rngs A') (W:T.rngs c):Ctx j C A' c (N+(m+T.inners A'+T.inners c)):=by
 intro B' cs u ds P G J R F;have r:ds.length=m*3:=by have:=mM List.length F;rw[eo,KN]at this;rw[this];simp only[ek,de];rw[<-X];congr 1;omega
 obtain⟨xs,e,w⟩:=MD _ _ F;have o:(A'++u::c).length=m:=by simp only[ek,de];omega
 rw[o]at e;have n:AV.frzC (dp 2 B') (j+1+1) (.tsl true j 3 m)=some (.sl .sub xs):=by simp only[AV.frzC];rw[PY _ _ I];simp only[aT,J,a9,R,r,if_true,e,bH]
 have g:cQ (AV.frzC (dp 2 B') (j+1+1)) [aa f,aa v,.tsl true j 3 m]=some [.int .i64 f,.int .i64 v,.sl .sub xs]:=by simp only[cQ,n,Ic,a9,bH]
 have z:=rR _ _ _ (oI (dp 2 B') (j+1+1) (fc A)) (rR _ _ _ g (oI (dp 2 B') (j+1+1) (fc D)));have p:(fc A++([DV.int .i64 f,DV.int .i64 v,DV.sl .sub xs]++fc D)).map DV.clr=eD (A++(T.node f v (A'++u::c))::D):=by rw[c6,c6,tn,tn,HX,sG];simp only[bA,cM,DV.clr,DV.qaw,w,T.qaO,T.qbT,T.qaD,dk,dG]
 obtain⟨K,t,H,V,S,e3,Z,y⟩:=h B' _ _ _ P (fun i hi=>by rw[G i (by omega),s i hi]) (by rw[G (j+1) (by omega),x]) z p;refine⟨K,t,H,V,S,e3,?_,fun O=>y ⟨Q,D_ M ⟨O,W⟩⟩⟩;have Y:(T.node f v (A'++u::c)).inner=m+(T.inners A'+(u.inner+T.inners c)):=by rw[T.qdz,T.qaD,o,xM];rfl
 omega
def bT(A:ah)(g c e:AV)(D:ah):aA:=(fc A).map .d++([g,c,e]++(fc D).map .d)
theorem lz(A:ah)(e c d:AV)(D:ah):(bT A e c d D).length=A.length*3+3+D.length*3:=by unfold bT;simp[kF];omega
theorem xZ(A:ah)(e d c:AV)(D:ah):(bT A e d c D)[A.length*3+2]?=some c:=by unfold bT;rw[cF (by simp[kF])];simp[kF]
theorem Ka(A:ah)(c d e y:AV)(D:ah):(bT A c d e D).set (A.length*3+2) y=bT A c d y D:=by unfold bT;rw[kv _ _ (by simp[kF])];simp[kF]
theorem TS(A:ah)(e c d y:AV)(D:ah):(bT A e c d D).set (A.length*3) y=bT A y c d D:=by unfold bT;rw[kv _ _ (by simp[kF])];simp[kF]
theorem Uo(A:ah)(c e d y:AV)(D:ah):(bT A c e d D).set (A.length*3+1) y=bT A c y d D:=by unfold bT;rw[kv _ _ (by simp[kF])];simp[kF]
variable{k:Nat}
theorem Ff{cs:aA}(h:k<cs.length)(y:AV):splice cs k [y]=cs.set k y:=by unfold splice;rw[tO,aw h];simp
theorem Pj(A:ah)(e c d y:AV)(D:ah):splice (bT A e c d D) (A.length*3) [y]=bT A y c d D:=by rw[Ff (by rw[lz];omega),TS]
theorem Vg(A:ah)(c e d y:AV)(D:ah):splice (bT A c e d D) (A.length*3+1) [y]=bT A c y d D:=by rw[Ff (by rw[lz];omega),Uo]
theorem MU(A:ah)(c d e y:AV)(D:ah):splice (bT A c d e D) (A.length*3+2) [y]=bT A c d y D:=by rw[Ff (by rw[lz];omega),Ka]
def TR(rs:al):Prop:=rs.all (fun r=> !(DV.int .u8 0).like r)=true
theorem JA:∀l:ah,TR (fc l)
 | []=>rfl
 |t::l=>by
  have:=JA l;unfold TR at this⊢
  rw[oW];simp only[gF,this,nG];rfl
mutual
theorem Yx(rs:al):∀t:T,DV.xrest rs (t.enc U)=true
 | .node f v ks=>by rw[T.qbD];simp only[J6,FY,Ln,MX,C5,nG,fh,T.qaD];exact rI rs ks
theorem rI(rs:al):∀l:ah,DV.xrests rs (l.map (T.enc U))=true
 | []=>by simp only[cM,C5]
 |t::l=>by simp only[bA,FY,Yx rs t,rI rs l,nG]
end
theorem JP(rs:al):∀l:ah,DV.xrests rs (fc l)=true
 | []=>by simp[fc]
 |t::l=>by rw[oW];simp[rI,JP rs l]
theorem qC(rs:al):∀l:ah,iy rs ((fc l).map .d)=true
 | []=>by simp[fc]
 |t::l=>by rw[oW];simp[rI,qC rs l]
theorem Az(rs:al)(a b:aA):iy rs (a++b)=(iy rs a&&iy rs b):=by simp[iy]
theorem qV(rs:al)(B:ar)(i:Nat)(cs:aA)(h:ft rs B=true)(hc:iy rs cs=true):ft rs (B.set i (some cs))=true:=by
 unfold ft at h⊢
 rw[bB]at h⊢
 intro x d;rcases rY d with c|c
 ·exact h x c
 ·subst c;exact hc
structure WS(bs:aX)(j k:Nat)(B:ar)(A D:ah)(f v:Int)(ks:ah)(N:Nat):Prop where
 jk:j+k=5
 j2:2<=j
 len:B.length=6
 seed:qcV bs 0 B
 one:B[1]?=some (some [aa 0,aa 0,.d (.sl U [])])
 free:∀i,2<=i->i<j->B[i]?=some none
 at_:B[j]?=some (some (bT A (aa f) (aa v) (.d (.sl U (ks.map (T.enc U)))) D))
 rest:∀rs,TR rs->ft rs B=true
 ctx:Ctx j B A D N
 siz:N+(T.node f v ks).inner<=6
 rg:(T.node f v ks).rng
variable{ks:ah}
theorem WS.turn{bs:aX}{v:Int}(h:WS bs j k B A D f v ks N)(g:Turned bs 0 B B'):WS bs j k B' A D f v ks N:=by
 have n:=g.at (by rw[h.len];omega);obtain⟨pos,st,p,rfl⟩:=g;have e:∀i,1<=i->(B.set 0 (some (ce bs pos st)))[i]?=B[i]?:=fun i hi=>by rw[dK (by omega)]
 have o:=h.j2;refine⟨h.jk,h.j2,by simp[h.len],n,by rw[e 1 (by omega)];exact h.one,fun i d c=>by rw[e i (by omega)];exact h.free i d c,by rw[e j (by omega)];exact h.at_,fun rs m=>qV rs B 0 _ (h.rest rs m) (EN rs m bs pos st),?_,h.siz,h.rg⟩;intro B' cs u ds d c;exact h.ctx B' cs u ds d (fun i hi=>by rw[c i hi,e i (by omega)])
theorem OT{bs:aX}{v:Int}(h:WS bs (j+1) k B A D f v ks N)(F:0<ks.length)(z:2<=j)(n m:DV)(C:∀rs,DV.xrest rs n=true):
 gp (.focC 4 2 [0,2,3,4,5]) ⟨[(0,.ptr 0 0),(2,.ptr 1 0),(3,.ptr 5 0),(4,.ptr (j+1) (A.length*3)),(5,.d n),(22,.d m)],B⟩=
  some ⟨[(0,.ptr 0 0),(2,.ptr 1 0),(3,.ptr 5 0),(4,.ptr (j+1) (A.length*3)),(5,.d n)],(B.set (j+1) (some (bT A (aa f) (aa v) (.tsl true j 3 ks.length) D))).set j (some ((fc ks).map .d))⟩:=by
 have s:=h.at_;have g:=h.free j z (by omega);have I:=h.rest (fc ks) (JA ks);have hc:iy (fc ks) (bT A (aa f) (aa v) (.tsl true j 3 ks.length) D)=true:=by unfold bT;rw[Az,Az,qC,qC];simp
 have G:=qV (fc ks) B (j+1) _ I hc;have H:=JP (fc ks) ks;have x:=xZ A (aa f) (aa v) (.d (.sl U (ks.map (T.enc U)))) D;have w:=Ka A (aa f) (aa v) (.d (.sl U (ks.map (T.enc U)))) (.tsl true j 3 ks.length) D;have o:(ks.map (T.enc U)).length=ks.length:=by simp
 cases ks with
 |nil=>simp at F
 |cons c e=>
  have u:(T.enc U c::e.map (T.enc U)).flatMap DV.cells=fc (c::e):=by rw[<-TY];rfl
  have p:b_ (c.enc U)=true:=by rw[T.qbD];rfl
  have t:(c.enc U).cells.length=3:=by simp
  have r:aT B (j+1)=some (bT A (aa f) (aa v) (.d (.sl U (T.enc U c::e.map (T.enc U)))) D):=by simp only[aT,s,bA]
  simp only[bA]at x w o;have y:ve 2 [0,2,3,4,5] ⟨[(0,.ptr 0 0),(2,.ptr 1 0),(3,.ptr 5 0),(4,.ptr (j+1) (A.length*3)),(5,.d n),(22,.d m)],B⟩ j (A.length*3) (bT A (aa f) (aa v) (.d (.sl U (T.enc U c::e.map (T.enc U)))) D) (some (.d (.sl U (T.enc U c::e.map (T.enc U)))))=
   some ⟨[(0,.ptr 0 0),(2,.ptr 1 0),(3,.ptr 5 0),(4,.ptr (j+1) (A.length*3)),(5,.d n)],(B.set (j+1) (some (bT A (aa f) (aa v) (.tsl true j 3 (c::e).length) D))).set j (some ((fc (c::e)).map .d))⟩:=by
   rw[No,u,p,t,show(e.map (T.enc U)).length+1=(c::e).length from by simp,w,aw ⟨by simp[cO,g],by simp[keep,lk,C],G,H⟩];rfl
  rw[Na];simp only[lk,Nat.reduceEqDiff,if_false,if_true];rw[Jj,r,a9,x];exact y
theorem y6(bs:aX)(pos st:Int):aV (ce bs pos st)=some [.sl .sub (bs.map (.int .u8)),.int .i64 pos,.int .i64 st]:=by simp[ce]
theorem gh{c:Option aA}(h:i≠j):(B.set i c)[j]?=B[j]?:=by rw[dK h]
theorem Pr{r:Nat}(h:r<ks.length):(fc ks).map AV.d=bT (ks.take r) (aa (aj ks r).f) (aa (aj ks r).v) (.d (.sl U ((aj ks r).kids.map (T.enc U)))) (ks.drop (r+1)):=by
 have e:ks=ks.take r++aj ks r::ks.drop (r+1):=by conv=>lhs;rw[<-List.take_append_drop r ks,dl h,bg h]
 conv=>lhs;rw[e,QJ,oW]
 unfold bT;simp
theorem OO(bs:aX)(hl:bs.length<=1099511627776){v:Int}(h:WS bs (j+1) k B A D f v ks N)(hk:0<ks.length)(F:2<=j):
 ∃(B':ar) (A' D':ah) (f' v':Int) (X:ah) (N':Nat),WS bs j (k+1) B' A' D' f' v' X N'/\
  aO XV (XV.lin 161) (.seq (.block 1 (.ghost (.focC 4 2 [0,2,3,4,5]) (.region true 0 [0,2,3,4,5] qU))) (.region false 0 [0,2,3,4,5] xW)) ⟨[(0,.ptr 0 0),(2,.ptr 1 0),(3,.ptr 5 0),(4,.ptr (j+1) (A.length*3)),(5,aa k),(22,ax true)],B⟩=
   some (.normal,⟨[(0,.ptr 0 0),(2,.ptr 1 0),(3,.ptr 5 0),(4,.ptr j (A'.length*3)),(5,aa ((k+1:Nat):Int))],B'⟩):=by
 have p:=OT h hk F (.int .i64 k) (.bool true) (fun rs=>by simp);have z:=h.len;have x1:=h.jk;obtain⟨pos,st,hp,J⟩:=h.seed;have w:=jC J;have G:qcV bs 0 [some (ce bs pos st)]:=⟨pos,st,hp,rfl⟩;have H:=h.siz;rw[T.qbN]at H;have h4:=ip ks;obtain⟨r,B1,hr,⟨c,st1,Z,rfl⟩,hc⟩:=mV bs hl _ 0 G ks.length (by omega) (by omega);simp only[nE]at hc;have g:r.toNat<ks.length:=by omega
 have hw:=bE (n:=k) (by omega);generalize C:bT A (aa f) (aa v) (.tsl true j 3 ks.length) D=R at p;have P:R[A.length*3+2]?=some (.tsl true j 3 ks.length):=by rw[<-C];exact xZ _ _ _ _ _
 have V:A.length*3+2<R.length:=by rw[<-C,lz];omega
 have g0:((B.set (j+1) (some R)).set j (some ((fc ks).map .d)))[0]?=some (some (ce bs pos st)):=by rw[gh (by omega),gh (by omega)];exact w
 have g1:((B.set (j+1) (some R)).set j (some ((fc ks).map .d)))[j+1]?=some (some R):=by rw[gh (by omega),iM (by omega)]
 have g2:((B.set (j+1) (some R)).set j (some ((fc ks).map .d))).length=6:=by simp[z]
 have gj:((B.set (j+1) (some R)).set j (some ((fc ks).map .d)))[j]?=some (some ((fc ks).map .d)):=by rw[iM (by simp;omega)]
 have K:∀i,i≠j->i≠j+1->((B.set (j+1) (some R)).set j (some ((fc ks).map .d)))[i]?=B[i]?:=fun i S h2=>by rw[gh (Ne.symm S),gh (Ne.symm h2)]
 have o:∀rs,TR rs->ft rs ((B.set (j+1) (some R)).set j (some ((fc ks).map .d)))=true:=fun rs m=>by refine qV _ _ _ _ (qV _ _ _ _ (h.rest rs m) ?_) (qC rs ks);rw[<-C];unfold bT;rw[Az,Az,qC,qC];simp
 generalize h5:(B.set (j+1) (some R)).set j (some ((fc ks).map .d))=B2 at*
 have Y:¬6<=j+1:=by omega
 have I:∀h:0<B2.length,B2[0]'h=some (ce bs pos st):=fun h=>(aU.1 g0).2
 have Q:∀h:A.length*3+2<R.length,R[A.length*3+2]'h= .tsl true j 3 ks.length:=fun h=>(aU.1 P).2
 have y:min r.toNat ks.length=r.toNat:=by omega
 have M:=y6 bs pos st;have s:=y6 bs c st1;have W:=lc bs pos st;have u:=lc bs c st1;generalize ce bs pos st=S0 at*
 refine⟨B2.set 0 (some (ce bs c st1)),ks.take r.toNat,ks.drop (r.toNat+1),(aj ks r.toNat).f,(aj ks r.toNat).v,(aj ks r.toNat).kids,N+(ks.length+T.inners (ks.take r.toNat)+T.inners (ks.drop (r.toNat+1))),?_,?_⟩
 ·have e:ks=ks.take r.toNat++aj ks r.toNat::ks.drop (r.toNat+1):=by
   conv=>lhs;rw[<-List.take_append_drop r.toNat ks,dl g,bg g]
  refine⟨by omega,F,by simp[g2],⟨c,st1,Z,GQ (by omega)⟩,by rw[gh (by omega),K 1 (by omega) (by omega)];exact h.one,fun i S h2=>by rw[gh (by omega),K i (by omega) (by omega)];exact h.free i S (by omega),by rw[gh (by omega),gj];exact mM (some∘some) (Pr g),fun rs m=>qV _ _ _ _ (o rs m) (EN rs m bs c st1),?_,?_,?_⟩
  ·refine Ctx.step F h.ctx (fun i hi=>by rw[gh (by omega),K i (by omega) (by omega)]) (by rw[gh (by omega),g1,<-C];rfl) ?_ h.rg.1 ?_ ?_
   ·have:=mM List.length e
    simp only[ek,de]at this;omega
   ·have:=h.rg.2;rw[T.qg7]at this⊢;exact fun t O=>this t (sF O)
   ·have:=h.rg.2;rw[T.qg7]at this⊢;exact fun t O=>this t (sV O)
  ·have e2:T.inners ks=T.inners (ks.take r.toNat)+((aj ks r.toNat).inner+T.inners (ks.drop (r.toNat+1))):=by
    conv=>lhs;rw[e,xM]
    rfl
   have e3:(T.node (aj ks r.toNat).f (aj ks r.toNat).v (aj ks r.toNat).kids).inner=(aj ks r.toNat).inner:=by cases aj ks r.toNat;rfl
   have e4:(T.node f v ks).inner=ks.length+T.inners ks:=by rw[T.qdz,T.qaD]
   have:=h.siz;omega
  ·have:=h.rg.2
   rw[T.qg7]at this;have h3:=this _ (bV g);generalize aj ks r.toNat=x at h3;cases x;exact h3
 ·generalize ce bs c st1=S1 at*
  simp only[Ik];simp only[nV,Ku,Co,p,a9];simp[Ze,xW,g2,g1,V,M,s,W,u,hc,hr.1,hr.2,hw,Y,aP,Q,y,I,M8]
theorem qQk(bs:aX)(Y:bs.length<=1099511627776):∀(n j k:Nat) (B:ar) (A D:ah) (f v:Int) (ks:ah) (N:Nat),n+2=j->WS bs j k B A D f v ks N->
 ∀s0,aJ 6 [0,2,3,4,5] s0=some ⟨[(0,.ptr 0 0),(2,.ptr 1 0),(3,.ptr 5 0),(4,.ptr j (A.length*3)),(5,aa k)],B⟩->
 ∃(y k':Nat) (B':ar) (A' C:ah) (O v':Int) (o:ah) (N':Nat),WS bs y k' B' A' C O v' o N'/\
  cj XV (XV.lin 161) 6 [0,2,3,4,5] ni s0=some (.exit 0,⟨[(0,.ptr 0 0),(2,.ptr 1 0),(3,.ptr 5 0),(4,.ptr y (A'.length*3)),(5,aa k'),(22,ax false)],B'⟩):=by
 intro n
 induction n with
 |zero=>
  intro j k B A D f v ks N hn h s0 x;refine⟨j,k,B,A,D,f,v,ks,N,h,eF x ?_ (by simp)⟩;have I:=h.jk;have s:¬((k:Int)<3):=by omega
  simp[ni,oT,s]
 |succ n ih=>
  intro j k B A D f v ks N hn h s0 x;have I:=h.jk;have s:(k:Int)<3:=by omega
  have M:=h.at_;have w:=xZ A (aa f) (aa v) (.d (.sl U (ks.map (T.enc U)))) D;generalize hR:bT A (aa f) (aa v) (.d (.sl U (ks.map (T.enc U)))) D=R at*
  have m:A.length*3+2<R.length:=by rw[<-hR,lz];omega
  have g:∀h:A.length*3+2<R.length,R[A.length*3+2]'h= .d (.sl U (ks.map (T.enc U))):=fun h=>(aU.1 w).2
  have p:j<B.length:=by rw[h.len];omega
  have r:∀h:j<B.length,B[j]'h=some R:=fun h=>(aU.1 M).2
  by_cases c:0<ks.length
  ·obtain⟨b,B1,hT,hc⟩:=rX bs Y B 0 h.seed 2 (by omega) (by omega)
   have X:=h.turn hT;cases b with
   |true=>refine⟨j,k,B1,A,D,f,v,ks,N,X,eF x ?_ (by simp)⟩;simp[ni,oT,s,c,hc,p,r,m,g,aP]
   |false=>subst hn;obtain⟨B',A',C,O,v',o,N',Z,W⟩:=OO bs Y X c (by omega);obtain⟨y,k',H,P,K,F,Q,u,V,J,S⟩:=ih (n+2) (k+1) B' A' C O v' o N' rfl Z ⟨[(0,.ptr 0 0),(2,.ptr 1 0),(3,.ptr 5 0),(4,.ptr (n+2) (A'.length*3)),(5,aa ((k+1:Nat):Int))],B'⟩ (gi (e:=[]) (by simp) (by simp[aG];omega) Z.len (by simp));refine⟨y,k',H,P,K,F,Q,u,V,J,?_⟩;rw[<-S];refine fA x ?_;rw[<-W];generalize hG:VCode.seq (.block 1 (.ghost (.focC 4 2 [0,2,3,4,5]) (.region true 0 [0,2,3,4,5] qU))) (.region false 0 [0,2,3,4,5] xW)=G;rw[show ni= .seq (.seq (.region false 0 [0,2,3,4,5,22] oT) (.cond (.t 22) .skip (.exit 0))) G from by rw[<-hG];rfl];simp[oT,s,c,hc,p,r,m,g,aP]
  ·refine⟨j,k,B,A,D,f,v,ks,N,h,eF x ?_ (by simp)⟩
   have z:ks.length=0:=by omega
   simp[ni,oT,s,z,p,r,m,g,aP]
theorem WS.read{bs:aX}{v:Int}(h:WS bs j k B A D f v ks N)(n:B'.length=6)(hi:∀i,j<i->B'[i]?=B[i]?)(u:T)(g:Tag)(X:al)(p:X.map DV.clr=u.kids.map (T.enc .sub))
 (o:B'[j]?=some (some (bT A (aa u.f) (aa u.v) (.d (.sl g X)) D))):
 ∃(m:aA) (c:al) (e:T),B'[5]?=some (some m)/\cQ (AV.frzC (dp 2 B') 6) m=some c/\c.map DV.clr=eD [e]/\e.inner<=N+u.inner/\(u.rng->e.rng):=by
 refine h.ctx B' _ u (fc A++([.int .i64 u.f,.int .i64 u.v,.sl g X]++fc D)) n hi o ?_ ?_
 ·unfold bT
  exact rR _ _ _ (oI _ _ _) (rR _ _ _ (oI _ _ [.int .i64 u.f,.int .i64 u.v,.sl g X]) (oI _ _ _))
 ·rw[c6,c6,tn,tn,HX,sG]
  simp only[bA,cM,DV.clr,DV.qaw,p,dk,dG]
theorem S6(B:ar)(m Z:Option aA)(y u z:AV)(c:B.length=6)(H:B[0]?=some m)(G:B[1]?=some (some [y,u,z]))(r:aE)(I:lk r 2=some (.ptr 1 0))(J:lk r 3=some (.ptr 5 0))(t:T)(p:aA)(h:al)
 (K:B[5]?=some (some p)) (Q:cQ (AV.frzC (dp 2 B) 6) p=some h) (e3:h.map DV.clr=eD [t]):
 ∃C,aO XV (XV.lin 161) (.seq (.ghost (.frzB 3 2 [2]) (.region false 0 [2] vZ)) .ret) ⟨r,B⟩=some (.ret,⟨[(2,.ptr 1 0)],[m,some [aa t.f,aa t.v,.d (ai .sub t.kids)],C]⟩):=by
 have F:keep r [2]=[(2,.ptr 1 0)]:=by simp[keep,I]
 have s:B.take 2=[m,some [y,u,z]]:=by
  match B,c with
  | [V,S,W,X,R,Y],_=>simp at H G⊢;exact⟨H,G⟩
 obtain⟨g,xs,P,rfl,M,O⟩:=DL e3;have n:P=[]:=by simpa[eD]using O
 subst n;have e:=Mw _ _ e3;have w:aT B 5=some p:=by simp only[aT,K]
 refine⟨some [aa t.f,aa t.v,.d (ai .sub t.kids)],?_⟩;have o:xs.map DV.clr=t.kids.map (T.enc .sub):=by rw[<-DV.qaw];exact M
 have x:gp (.frzB 3 2 [2]) ⟨r,B⟩=some ⟨[(3,.ptr 2 0),(2,.ptr 1 0)],[m,some [y,u,z],some [aa t.f,aa t.v,.d (ai .sub t.kids)]]⟩:=by rw[MQ];simp only[J];rw[IE,aw ⟨by omega,by simp,by rw[F];simp[aG],by omega⟩,w,a9,c,Q,a9,aw e,F,s];simp[o]
 simp only[nV,Co,x,a9];simp[vZ,splice,aW,ba,bh,bd,aP]
def yc:VCode:= .seq (.ghost (.frzB 3 2 [2]) (.region false 0 [2] vZ)) .ret
def ku:VCode:= .seq (.region false 0 [0,2,3,4,38] ou) (.block 2 (.seq (.region false 0 [0,2,3,4,38,39] nO) (.cond (.t 39) (.region false 0 [2,3] Fb) (.seq (.region false 0 [0,2,3,4,38,47] oQ) (.cond (.t 47) (.region false 0 [2,3] DW) (.seq (.region false 0 [0,2,3,4,38,55] sS) (.cond (.t 55) (.regionT 0 [2,3] Aa u7) (.seq (.region false 0 [0,2,3,69] BZ) (.cond (.t 69) (.seq (.region false 0 [2] EA) .ret) .skip)))))))))
theorem TD:qM=⟨1,[.cell 2 true 3],.seq (.region false 1 [0,2] DG) (.seq (.region false 4 [0,2,3] Eu) (.seq (.region false 0 [0,2,3,4] Ce) (.seq (.seq (.region false 0 [0,2,3,4,5] Dq) (.block 0 (.loop [0,2,3,4,5] ni))) (.seq ku yc))))⟩:=rfl
def Fv(bs:aX)(B:ar)(n:Nat):Prop:=B.length=6/\qcV bs 0 B/\B[1]?=some (some [aa 0,aa 0,.d (.sl U [])])/\
 ∃(g:aA) (c:al) (e:T),B[5]?=some (some g)/\cQ (AV.frzC (dp 2 B) 6) g=some c/\c.map DV.clr=eD [e]/\e.inner<=n/\e.rng
theorem WS.read5{bs:aX}{v:Int}(h:WS bs j k B A D f v ks N)(u:T)(g:Tag)(X:al)(s:X.map DV.clr=u.kids.map (T.enc .sub))(n:Nat)(F:N+u.inner<=n)(e:u.rng):
 Fv bs (B.set j (some (bT A (aa u.f) (aa u.v) (.d (.sl g X)) D))) n:=by
 have C:=h.j2;have x:=h.jk;have c:=h.len;obtain⟨w,m,o,r,y,e3,G,p⟩:=h.read (B':=B.set j (some (bT A (aa u.f) (aa u.v) (.d (.sl g X)) D))) (by simp[c]) (fun i hi=>by rw[gh (by omega)]) u g X s (by rw[iM (by omega)]);refine⟨by simp[c],?_,by rw[gh (by omega)];exact h.one,w,m,o,r,y,e3,by omega,p e⟩;obtain⟨pos,st,z,t⟩:=h.seed;exact⟨pos,st,z,by simp only[aT];rw[gh (by omega),jC t]⟩
theorem D7(ks:ah):(ks.map (T.enc U)).map DV.clr=ks.map (T.enc .sub):=kn _ _
theorem XB(bs:aX)(hl:bs.length<=1099511627776){v:Int}(h:WS bs j k B A D f v ks N)(x5 x1:DV):
 (∃(r':aE) (B':ar),aO XV (XV.lin 161) ku ⟨[(0,.ptr 0 0),(2,.ptr 1 0),(3,.ptr 5 0),(4,.ptr j (A.length*3)),(5,.d x5),(22,.d x1)],B⟩=some (.normal,⟨r',B'⟩)/\lk r' 2=some (.ptr 1 0)/\lk r' 3=some (.ptr 5 0)/\Fv bs B' 12)\/
 (∃(t:T) (g:Tag) (B':ar),aO XV (XV.lin 161) ku ⟨[(0,.ptr 0 0),(2,.ptr 1 0),(3,.ptr 5 0),(4,.ptr j (A.length*3)),(5,.d x5),(22,.d x1)],B⟩=some (.ret,⟨[(2,.ptr 1 0)],B'⟩)/\qcV bs 0 B'/\B'.length=6/\B'[1]?=some (some [aa t.f,aa t.v,.d (.sl g (t.kids.map (T.enc g)))])/\t.inner<=14/\t.rng):=by
 obtain⟨r,n,hr,hT1,hc⟩:=mV bs hl B 0 h.seed 12 (by omega) (by omega);have w:=h.turn hT1;have F:=w.at_;have hj2:=h.j2;have hjk:=h.jk;have hsz:=h.siz;have V:∀(B':ar),Turned bs 0 n B'->B'[j]?=some (some (bT A (aa f) (aa v) (.d (.sl U (ks.map (T.enc U)))) D)):=fun B' hT=>(w.turn hT).at_
 by_cases c0:r=0
 ·subst c0
  obtain⟨i,hi,J,K,m⟩:=GO bs hl n 0 w.seed [-2,-1,0,5,7] (by simp) (by simp);generalize ([-2,-1,0,5,7]:aX)[i]=x at m;have s:=w.turn K;have C:=s.at_;have u:=s.len;have Q:∀h:j<J.length,J[j]'h=some (bT A (aa f) (aa v) (.d (.sl U (ks.map (T.enc U)))) D):=fun h=>(aU.1 C).2
  have M:=lz A (aa f) (aa v) (.d (.sl U (ks.map (T.enc U)))) D;have H:=Pj A (aa f) (aa v) (.d (.sl U (ks.map (T.enc U)))) (aa x) D;have z:A.length*3+1<=A.length*3+3+D.length*3:=by omega
  have G:j<6:=by omega
  have p:∀a b:Int,(T.node a b ks).inner=(T.node f v ks).inner:=fun a b=>by simp only[T.inner]
  have c:=s.read5 (.node x v ks) U (ks.map (T.enc U)) (D7 ks) 12 (by rw[p];omega) ⟨h.rg.1,h.rg.2⟩;simp only[T.qaO,T.qbT]at c;refine .inl ⟨[(2,.ptr 1 0),(3,.ptr 5 0)],_,?_,rfl,rfl,c⟩;simp only[bA,cM]at m;generalize bT A (aa f) (aa v) (.d (.sl U (ks.map (T.enc U)))) D=R at*
  generalize bT A (aa x) (aa v) (.d (.sl U (ks.map (T.enc U)))) D=R' at*
  simp[ku,ou,nO,Fb,hc,m,u,Q,G,M,H,z,df,List.replicate,aW,bh,bd,gS]
 by_cases c1:r=1
 ·subst c1
  obtain⟨i,hi,J,K,m⟩:=GO bs hl n 0 w.seed [-1,1,99,100] (by simp) (by simp);have hxx:∀y:Int,y∈([-1,1,99,100]:aX)->-9223372036854775808<=y/\y<=9223372036854775807:=fun y hy=>by simp only[bK,nT,nu]at hy;omega
  have x2:=hxx _ (jt hi);generalize ([-1,1,99,100]:aX)[i]=x at m x2;have s:=w.turn K;have C:=s.at_;have u:=s.len;have Q:∀h:j<J.length,J[j]'h=some (bT A (aa f) (aa v) (.d (.sl U (ks.map (T.enc U)))) D):=fun h=>(aU.1 C).2
  have M:=lz A (aa f) (aa v) (.d (.sl U (ks.map (T.enc U)))) D;have H:=Vg A (aa f) (aa v) (.d (.sl U (ks.map (T.enc U)))) (aa x) D;have z:A.length*3+1+1<=A.length*3+3+D.length*3:=by omega
  have G:j<6:=by omega
  have p:∀a b:Int,(T.node a b ks).inner=(T.node f v ks).inner:=fun a b=>by simp only[T.inner]
  have c:=s.read5 (.node f x ks) U (ks.map (T.enc U)) (D7 ks) 12 (by rw[p];omega) ⟨x2,h.rg.2⟩;simp only[T.qaO,T.qbT]at c;refine .inl ⟨[(2,.ptr 1 0),(3,.ptr 5 0)],_,?_,rfl,rfl,c⟩;simp only[bA,cM]at m;generalize bT A (aa f) (aa v) (.d (.sl U (ks.map (T.enc U)))) D=R at*
  generalize bT A (aa f) (aa x) (.d (.sl U (ks.map (T.enc U)))) D=R' at*
  simp[ku,ou,nO,oQ,DW,hc,m,u,Q,G,M,H,z,df,List.replicate,aW,bh,bd,gS]
 have n0:(r==0)=false:=by simpa using c0
 have n1:(r==1)=false:=by simpa using c1
 by_cases c2:r=2
 ·subst c2
  have hs:=w.seed;obtain⟨pos,st,hp,hb0⟩:=hs;obtain⟨o,g2,J,O,⟨e,st2,P,rfl⟩,m⟩:=FH bs hl 1 (by omega) 2 (by omega) [some (ce bs pos st)] 0 ⟨pos,st,hp,rfl⟩;simp only[nE]at m;have s:=w.turn (B':=n.set 0 (some (ce bs e st2))) ⟨e,st2,P,rfl⟩;have x3:=w.len;have hB1:∀h:j<n.length,n[j]'h=some (bT A (aa f) (aa v) (.d (.sl U (ks.map (T.enc U)))) D):=fun h=>(aU.1 F).2
  have hX:(ks.map (T.enc U)++[o.enc g2]).map DV.clr=(T.node f v (ks++[o])).kids.map (T.enc .sub):=by rw[c6,kn,T.qaD,c6];simp
  have p:N+(T.node f v (ks++[o])).inner<=12:=by
   have e1:(T.node f v (ks++[o])).inner=ks.length+1+(T.inners ks+(o.inner+0)):=by rw[T.qdz,T.qaD,xM];simp only[ek,de,iL,T.inners]
   have e2:(T.node f v ks).inner=ks.length+T.inners ks:=by rw[T.qdz,T.qaD]
   omega
  have c:=s.read5 (.node f v (ks++[o])) U _ hX 12 p ⟨h.rg.1,D_ h.rg.2 ⟨O.2,trivial⟩⟩;simp only[T.qaO,T.qbT]at c;have W:(0:Nat)≠j:=by omega
  have hkl:(ks.length+1)*40<=140737488355328:=by
   have e2:(T.node f v ks).inner=ks.length+T.inners ks:=by rw[T.qdz,T.qaD]
   omega
  have ha:cK 3 40 (.sl U (ks.map (T.enc U))) (.sl .sub [o.enc g2])=some (.sl U (ks.map (T.enc U)++[o.enc g2])):=by unfold cK;simp only;rw[aw (by simp[aW,ba])];simp only[gW,bL,if_false];rw[aw ⟨by simpa using hkl,trivial,by simp⟩]
  have M:=lz A (aa f) (aa v) (.d (.sl .sub (ks.map (T.enc .sub)))) D;have a2:=xZ A (aa f) (aa v) (.d (.sl U (ks.map (T.enc U)))) D;have H:=MU A (aa f) (aa v) (.d (.sl .sub (ks.map (T.enc .sub)))) (.d (.sl U (ks.map (T.enc U)++[o.enc g2]))) D;have hRl:A.length*3+2<(bT A (aa f) (aa v) (.d (.sl U (ks.map (T.enc U)))) D).length:=by rw[lz];omega
  have a1:iE n j (A.length*3+2) 1=n.set j (some (bT A (aa f) (aa v) (.d (.sl .sub (ks.map (T.enc .sub)))) D)):=by unfold iE;simp only[aT,F];rw[dl hRl,(aU.1 a2).2];simp only[se,rS,AV.clrs,AV.clr,DV.clr,DV.qaw,kn];rw[MU]
  have hld:aP n false 1 j (A.length*3+2)=some (.d (.sl U (ks.map (T.enc U)))):=by simp only[aP,aT,F,a9,bL,if_false,a2]
  have h4:((n.set j (some (bT A (aa f) (aa v) (.d (.sl .sub (ks.map (T.enc .sub)))) D))).set 0 (some (ce bs e st2))).set j (some (bT A (aa f) (aa v) (.d (.sl U (ks.map (T.enc U)++[o.enc g2]))) D))=(n.set 0 (some (ce bs e st2))).set j (some (bT A (aa f) (aa v) (.d (.sl U (ks.map (T.enc U)++[o.enc g2]))) D)):=by rw[Gu _ _ (Ne.symm W),List.set_set]
  rw[<-h4]at c;have z:A.length*3+2+1<=A.length*3+3+D.length*3:=by omega
  have G:j<6:=by omega
  have b2:¬6<=j:=by omega
  have h5:¬j=0:=by omega
  refine .inl ⟨[(2,.ptr 1 0),(3,.ptr 5 0)],_,?_,rfl,rfl,c⟩;have g0:(n.set j (some (bT A (aa f) (aa v) (.d (.sl .sub (ks.map (T.enc .sub)))) D)))[0]?=some (some (ce bs pos st)):=by rw[gh (Ne.symm W),jC hb0]
  have gl:(n.set j (some (bT A (aa f) (aa v) (.d (.sl .sub (ks.map (T.enc .sub)))) D))).length=6:=by simp[x3]
  have gj:((n.set j (some (bT A (aa f) (aa v) (.d (.sl .sub (ks.map (T.enc .sub)))) D))).set 0 (some (ce bs e st2)))[j]?=some (some (bT A (aa f) (aa v) (.d (.sl .sub (ks.map (T.enc .sub)))) D)):=by rw[gh W,iM (by omega)]
  clear c h4 F V hB1;generalize hR':bT A (aa f) (aa v) (.d (.sl .sub (ks.map (T.enc .sub)))) D=R' at*
  generalize bT A (aa f) (aa v) (.d (.sl U (ks.map (T.enc U)++[o.enc g2]))) D=R'' at*
  generalize hB3:n.set j (some R')=B3 at*
  have g0':∀h:0<B3.length,B3[0]'h=some (ce bs pos st):=fun h=>(aU.1 g0).2
  have b1:=y6 bs pos st;have Y:=y6 bs e st2;have hcl:=lc bs pos st;have Z:=lc bs e st2;generalize ce bs pos st=S0 at*
  generalize ce bs e st2=S1 at*
  have gj':∀h:j<(B3.set 0 (some S1)).length,(B3.set 0 (some S1))[j]'h=some R':=fun h=>(aU.1 gj).2
  have I:ap XV 166 [.ptr 0 0,aa 1,aa 2] [some S0]=some (.d (o.enc g2),[some S1]):=m;simp[ku,ou,nO,oQ,sS,Oz,hc,x3,gl,b2,G,hld,a1,I,g0',b1,Y,hcl,Z,ha,H,M,z,gj',df,List.replicate,aW,ba,bh,bd,gS,-iE,-aP,lk,h5]
 have n2:(r==2)=false:=by simpa using c2
 by_cases c3:r=3
 ·subst c3
  obtain⟨o,g2,J,O,K,m⟩:=FH bs hl 3 (by omega) 3 (by omega) n 0 w.seed;have s:=w.turn K;have u:=s.len;have h21:=s.one;have a3:∀h:1<J.length,J[1]'h=some [aa 0,aa 0,.d (.sl U [])]:=fun h=>(aU.1 h21).2
  obtain⟨f2,X,S⟩:=o;obtain⟨e,st2,P,hb2⟩:=s.seed;have I:ap XV 166 [.ptr 0 0,aa 3,aa 3] n=some (.d ((T.node f2 X S).enc g2),J):=m;refine .inr ⟨.node f2 X S,g2,J.set 1 (some [aa f2,aa X,.d (.sl g2 (S.map (T.enc g2)))]),?_,⟨e,st2,P,by simp only[aT];rw[gh (by omega),jC hb2]⟩,by simp[u],by rw[iM (by omega)];simp,by have:=O.1;simp at this;omega,O.2⟩;simp[ku,ou,nO,oQ,sS,BZ,EA,hc,I,u,a3,splice,aW,ba,bh,bd,gS]
 have n3:(r==3)=false:=by simpa using c3
 have p:Fv bs n 12:=by
  have:=w.read5 (.node f v ks) U (ks.map (T.enc U)) (D7 ks) 12 (by omega) h.rg;simp only[T.qaO,T.qbT]at this;rwa[show n.set j (some (bT A (aa f) (aa v) (.d (.sl U (ks.map (T.enc U)))) D))=n from by
   apply jG;intro i
   by_cases h3:j=i
   ·subst h3;rw[iz,F];simp
   ·rw[dK h3]]at this
 refine .inl ⟨[(0,.ptr 0 0),(2,.ptr 1 0),(3,.ptr 5 0),(69,ax false)],n,?_,rfl,rfl,p⟩;simp[ku,ou,nO,oQ,sS,BZ,hc,n0,n1,n2,n3]
theorem N7(bs:aX)(w:bs.length<=1099511627776)(pos st:Int)(hp:0<=pos/\pos<=bs.length):
 ∃(t:T) (g:Tag) (pos' F:Int),(t.inner<=14/\t.rng)/\(0<=pos'/\pos'<=bs.length)/\ap XV 161 [.ptr 0 0] [some (ce bs pos st)]=some (.d (t.enc g),[some (ce bs pos' F)]):=by
 have I:qcV bs 0 [some (ce bs pos st),some [aa 0,aa 0,.d (.sl U [])],none,none,none,none]:=⟨pos,st,hp,rfl⟩;obtain⟨t0,B1,x,_,⟨c,st1,P,rfl⟩,hc⟩:=yZ bs w 3 (by omega) _ 0 I;simp only[nE]at hc;obtain⟨f,v,ks⟩:=t0;have Z:WS bs 5 0 [some (ce bs c st1),some [aa 0,aa 0,.d (.sl U [])],none,none,none,some [aa f,aa v,.d (.sl U (ks.map (T.enc U)))]] [] [] f v ks 0:=by
  refine⟨rfl,by omega,rfl,⟨c,st1,P,rfl⟩,rfl,fun i h1 h2=> ?_,rfl,fun rs W=> ?_,Ctx.base _,by omega,x.2⟩
  ·rcases i with _|_|_|_|_|i<;>first|omega|rfl
  ·simp[EN rs W bs c st1,rI]
 obtain⟨j,k,R,A,D,f',v',h3,N,K,n⟩:=qQk bs w 3 5 0 _ [] [] f v ks 0 rfl Z ⟨[(0,.ptr 0 0),(2,.ptr 1 0),(3,.ptr 5 0),(4,.ptr 5 0),(5,aa 0)],[some (ce bs c st1),some [aa 0,aa 0,.d (.sl U [])],none,none,none,some [aa f,aa v,.d (.sl U (ks.map (T.enc U)))]]⟩ (by simp[aJ,aG]);have r:=XB bs w K (.int .i64 k) (.bool false);have start:∀q:jV,so 1 [.cell 2 true 3] (aO XV (XV.lin 161) (.seq ku yc) ⟨[(0,.ptr 0 0),(2,.ptr 1 0),(3,.ptr 5 0),(4,.ptr j (A.length*3)),(5,aa k),(22,ax false)],R⟩)=q->ap XV 161 [.ptr 0 0] [some (ce bs pos st)]=q:=by
  intro q hq;rw[qOQ XV _ _ _ qM rfl QF rfl (m:=1) rfl rfl,TD];simp only[Nq,KP,lc];rw[<-hq];simp only[Ik]at n⊢
  generalize VCode.seq ku yc=G;simp[DG,Eu,Ce,Dq,hc,splice,aW,ba,bh,bd];rw[n];simp
 rcases r with⟨r',B',y,e2,e3,o,⟨h,st2,p,z⟩,e,V,J,u,S,q2,Q,q4,Y⟩|⟨t,g,B',y,⟨h,st2,p,z⟩,o,e,hi,O⟩
 ·obtain⟨C,X⟩:=S6 B' (some (ce bs h st2)) none _ _ _ o (jC z) e r' e2 e3 u V J S q2 Q
  refine⟨u,.sub,h,st2,⟨by omega,Y⟩,p,start _ ?_⟩;rw[nV,y];simp only[LJ];unfold yc;rw[X];obtain⟨f2,H,M⟩:=u;simp[aP]
 ·refine⟨t,g,h,st2,⟨hi,O⟩,p,start _ ?_⟩
  rw[nV,y];simp only[LA];obtain⟨f2,H,M⟩:=t
  match B',o with
  | [b0,b1,b2,b3,b4,b5],_=>
   have s:=jC z;simp at s e;subst s;subst e
   simp[aP]
theorem vG(bs:aX)(pos st:Int):aV (ce bs pos st)=some [.sl .sub (bs.map (.int .u8)),.int .i64 pos,.int .i64 st]:=by simp[ce]
def ff:Option aA:=some [aa 0,aa 0,.d (.sl U [])]
def e3(t:T):aA:=[aa t.f,aa t.v,.d (ai U t.kids)]
def li(t:T):aA:=[aa t.f,aa t.v,.d (ai .sub t.kids)]
def kc(l:ah):aA:=(l.map e3).flatten
def oO(cs:List aA):Prop:=∀c,c∈cs->c.length=3
theorem Ck(l:ah):oO (l.map e3):=fun c hc=>by obtain⟨t,_,rfl⟩:=cw.1 hc;rfl
theorem ET{cs:List aA}(h:oO cs)(p:Nat)(x:aA)(e:x.length=3):oO (cs.set p x):=fun c hc=>by
 rcases rY hc with d|d
 ·exact h c d
 ·rw[d,e]
theorem sA:∀{cs:List aA},oO cs->cs.flatten.length=cs.length*3
 | [],_=>rfl
 |c::r,h=>by have:=sA (cs:=r) (fun x d=>h x (by simp[d]));have hc:=h c (by simp);simp only[kH,ek,de,this,hc];omega
theorem wu:∀{cs:List aA} (_:oO cs) (p:Nat) (d:p<cs.length),(cs.flatten.drop (p*3)).take 3=cs[p]
 |c::r,h,0,d=>by have hc:=h c (by simp);simp only[td,gD,kH,List.getElem_cons_zero];rw[NZ (by omega),dE (by omega)]
 |c::r,h,p+1,d=>by have hc:=h c (by simp);have:=wu (cs:=r) (fun x e=>h x (by simp[e])) p (by simpa using d);simp only[kH,List.getElem_cons_succ];rw[uy,oz (by omega),dG,show(p+1)*3-c.length=p*3 by omega];exact this
theorem s_:∀{cs:List aA} (_:oO cs) (p:Nat) (e:p<cs.length) (x:aA) (d:x.length=3),splice cs.flatten (p*3) x=(cs.set p x).flatten
 |c::r,h,0,e,x,d=>by have hc:=h c (by simp);unfold splice;simp only[td,rS,dG,fR,kH,nE];rw[d,uy,oz (by omega),dG,show 3-c.length=0 by omega,gD]
 |c::r,h,p+1,e,x,d=>by
  have hc:=h c (by simp);have:=s_ (cs:=r) (fun y g=>h y (by simp[g])) p (by simpa using e) x d;unfold splice at this⊢
  simp only[kH,List.set_cons_succ];rw[List.take_append,dE (l:=c) (by omega),uy,oz (l:=c) (by omega),dG,show(p+1)*3-c.length=p*3 by omega,show(p+1)*3+x.length-c.length=p*3+x.length by omega,<-this];simp only[cr]
theorem kZ(l:ah):(kc l).length=l.length*3:=by unfold kc;rw[sA (Ck l),eo]
theorem CV:∀l:ah,kc l=CO (l.map (T.enc U))
 | []=>rfl
 |t::r=>by
  have h:=CV r;unfold CO kc at h⊢
  simp[e3,flat]at h⊢
  exact h
def swp(l:ah)(p q:Nat):ah:=(l.set q (aj l p)).set p (aj l q)
theorem yM(l:ah)(p q:Nat)(e:p<l.length)(d:q<l.length)(r:p≠q):∃c1 o h:aA,c1.length=l.length*3/\o.length=l.length*3/\h.length=l.length*3/\
 ((kc l).drop (p*3)).take 3=e3 (aj l p)/\splice (kc l) (p*3) (li (aj l p))=c1/\(c1.drop (q*3)).take 3=e3 (aj l q)/\splice c1 (q*3) (li (aj l q))=o/\splice o (q*3) (e3 (aj l p))=h/\splice h (p*3) (e3 (aj l q))=kc (swp l p q):=by
 have n:=Ck l;have c:=ET n p (li (aj l p)) rfl;have g:=ET c q (li (aj l q)) rfl;have s:=ET g q (e3 (aj l p)) rfl;refine⟨_,_,_,?_,?_,?_,?_,s_ n p (by simpa using e) _ rfl,?_,s_ c q (by simpa using d) _ rfl,s_ g q (by simpa using d) _ rfl,?_⟩
 ·rw[sA c];simp
 ·rw[sA g];simp
 ·rw[sA s];simp
 ·unfold kc;rw[wu n p (by simpa using e)];simp[bg e]
 ·rw[wu c q (by simpa using d),List.getElem_set_ne r];simp[bg d]
 ·rw[s_ s p (by simpa using e) _ rfl]
  unfold kc swp
  congr 1
  rw[List.map_set,List.map_set];apply KW (by simp);intro k u k2;simp only[List.getElem_set,xH]
  by_cases m:p=k
  ·subst m;simp
  ·by_cases t:q=k
   ·subst t;simp[m]
   ·simp[m,t]
theorem mq(t:T):e3 t=[aa t.f,aa t.v,.d (ai U t.kids)]:=rfl
theorem BV(t:T):li t=[aa t.f,aa t.v,.d (ai .sub t.kids)]:=rfl
theorem qPu(l:ah)(i:Nat)(P:l.length<=1099511627776)(F:i+1<l.length)(g h C s:AV)(Q:g.clr=g)(M:h.clr=h):
 aO XV [46,50] (.region true 0 [0,1,2,3,8,9] vY) ⟨[(0,.tsl true 0 3 l.length),(1,g),(2,h),(3,C),(8,s),(9,aa ((i+1:Nat):Int)),(34,ax true)],[some (kc l)]⟩=some (.normal,⟨[(0,.tsl true 0 3 l.length),(1,g),(2,h),(3,C),(8,s),(9,aa ((i+1:Nat):Int))],[some (kc (swp l i (i+1)))]⟩):=by
 have u:IntKind.i64.wrap (((i+1:Nat):Int)-1)=(i:Int):=by rw[show((i+1:Nat):Int)-1=(i:Int)by omega];exact wrap_i64 (by omega) (by omega)
 obtain⟨c1,R,O,K,G,H,f1,f2,f3,f4,w,r⟩:=yM l i (i+1) (by omega) F (by omega);have t:=kZ l;generalize kc (swp l i (i+1))=c4 at r⊢
 generalize kc l=c0 at f1 f2 t⊢
 generalize I:l.length=n at*
 have c:(0:Int)<=((i+1:Nat):Int)/\((i+1:Nat):Int)<n:=⟨by omega,by omega⟩;have d:((i+1:Nat):Int).toNat=i+1:=rfl;have m:(i:Int)<n:=by omega
 have o:i*3+3<=n*3:=by omega
 have p:(i+1)*3+3<=n*3:=by omega
 generalize ((i+1:Nat):Int)=J at u c d⊢
 simp only[mq,BV,ai]at f1 f2 f3 f4 w r;have e:∀x y z:AV,AV.clrs [x,y,z]=[x.clr,y.clr,z.clr]:=fun x y z=>by simp only[AV.clrs]
 simp[Vo,u,c,d,m,t,K,G,H,f1,f2,f3,f4,w,r,o,p,e,bh,aW,ba,bd]
end Go.Proofs.YtpcoohnjllclnaaGreat.VS
