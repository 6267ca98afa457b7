/- Contracts of the program's functions on the evaluator without names, and plain lemmas: part 1. -/
import Derived.Test.YtpcoohnjllclnaaLin
set_option linter.unusedSimpArgs false
set_option linter.unusedVariables false
namespace Go.Proofs.Ytpcoohnjllclnaa.VS
inductive T where
 |node (f v:Int) (kids:List T)
 deriving Inhabited
def T.f:T->Int| .node f _ _=>f
def T.v:T->Int| .node _ v _=>v
def T.kids:T->List T| .node _ _ k=>k
mutual
def T.enc(g:Tag):T->DV
 | .node f v ks=> .agg [.int .i64 f,.int .i64 v,.sl g (T.encs g ks)]
def T.encs(g:Tag):List T->List DV
 | []=>[]
 |t::r=>t.enc g::T.encs g r
end
theorem T.qeQ(g:Tag):∀l:List T,T.encs g l=l.map (T.enc g)
 | []=>by unfold T.encs;rfl
 |t::r=>by unfold T.encs;simp[T.qeQ g r]
abbrev qdO(g:Tag)(l:List T):DV:= .sl g (l.map (T.enc g))
theorem T.qiu(g:Tag)(t:T):t.enc g= .agg [.int .i64 t.f,.int .i64 t.v,qdO g t.kids]:=by
 cases t;simp[T.enc,T.qeQ,qdO,T.f,T.v,T.kids]
@[simp] theorem agg_enc(g:Tag)(f v:Int)(ks:List T):DV.agg [.int .i64 f,.int .i64 v,qdO g ks]=(T.node f v ks).enc g:=by
 simp[T.enc,T.qeQ,qdO]
@[simp] theorem T.eta(t:T):T.node t.f t.v t.kids=t:=by cases t;rfl
@[simp] theorem T.qzf(f v:Int)(k:List T):(T.node f v k).f=f:=rfl
@[simp] theorem T.qze(f v:Int)(k:List T):(T.node f v k).v=v:=rfl
@[simp] theorem T.qj2(f v:Int)(k:List T):(T.node f v k).kids=k:=rfl
@[simp] theorem T.qoM(g:Tag)(t:T):(t.enc g).cells=[.int .i64 t.f,.int .i64 t.v,qdO g t.kids]:=by rw[T.qiu];rfl
@[simp] theorem T.qlJ(g:Tag)(t:T):(AV.d (t.enc g)).cells=[.d (.int .i64 t.f),.d (.int .i64 t.v),.d (qdO g t.kids)]:=by rw[T.qiu];rfl
@[simp] theorem T.qlI(g:Tag)(t:T):(t.enc g).isCell=false:=by rw[T.qiu];rfl
mutual
theorem T.qgp(g:Tag):∀t:T,(t.enc g).clr=t.enc .sub
 | .node f v ks=>by simp only[T.enc,DV.clr,DV.clrs,T.qeS g ks]
theorem T.qeS(g:Tag):∀l:List T,DV.clrs (T.encs g l)=T.encs .sub l
 | []=>by simp only[T.encs,DV.clrs]
 |t::r=>by simp only[T.encs,DV.clrs,T.qgp g t,T.qeS g r]
end
attribute [simp] T.qgp
@[simp high] theorem qor(g:Tag)(l:List T):(l.map (T.enc g)).map DV.clr=l.map (T.enc .sub):=by
 rw[<-T.qeQ,<-T.qeQ,<-DV.qaz,T.qeS]
def tAt(l:List T)(i:Nat):T:=(l[i]?).getD (.node 0 0 [])
theorem qz9{l:List T}{i:Nat}(h:i<l.length):l[i]?=some (tAt l i):=by simp[tAt,h]
@[simp] theorem qCz(g:Tag){l:List T}{i:Nat}(h:i<l.length):(l.map (T.enc g))[i]?=some ((tAt l i).enc g):=by simp[qz9 h]
mutual
def T.inner:T->Nat
 | .node _ _ ks=>ks.length+T.inners ks
def T.inners:List T->Nat
 | []=>0
 |t::r=>t.inner+T.inners r
end
theorem T.qyf(t:T):t.inner=t.kids.length+T.inners t.kids:=by cases t;simp[T.inner]
end Go.Proofs.Ytpcoohnjllclnaa.VS
namespace Go.Proofs.Ytpcoohnjllclnaa.VS
mutual
def T.ok:T->Prop
 | .node _ _ ks=>ks.length<=maxLen/\T.oks ks
def T.oks:List T->Prop
 | []=>True
 |t::r=>t.ok/\T.oks r
end
end Go.Proofs.Ytpcoohnjllclnaa.VS
namespace Go.Proofs.Ytpcoohnjllclnaa.VS
set_option profiler true
set_option profiler.threshold 2000
mutual
def T.cmp:T->T->Int
 | .node f v ks,.node f' v' ks'=>
  if f<f' then-1 else if f>f' then 1 else if v<v' then-1 else if v>v' then 1 else
  if ks.length<ks'.length then-1 else if ks.length>ks'.length then 1 else T.cmps ks ks'
def T.cmps:List T->List T->Int
 |a::as,b::bs=>if T.cmp a b≠0 then T.cmp a b else T.cmps as bs
 |_,_=>0
end
end Go.Proofs.Ytpcoohnjllclnaa.VS
namespace Go.Proofs.Ytpcoohnjllclnaa.VS
end Go.Proofs.Ytpcoohnjllclnaa.VS
namespace Go.Proofs.Ytpcoohnjllclnaa.VS
theorem qgx(k i:Nat):runN (fun(_:Unit) (_:Nat)=>(Sum.inl ():Unit⊕Unit)) k () i= .inl ():=by
 induction k generalizing i with
 |zero=>rfl
 |succ k ih=>simp[runN,ih]
@[simp] theorem qDs(cs:List DV):isAgg (.agg cs)=true:=rfl
@[simp] theorem qDr(k:IntKind)(n:Int):isAgg (.int k n)=false:=rfl
@[simp] theorem qGA(s:SymL):s.enc.cn=s.enc:=by simp[SymL.enc,SymL.cells]
@[simp] theorem qDq(s:SymL):isAgg s.enc=true:=rfl
@[simp] theorem qEU(s:SymL):s.enc.clr=s.enc:=by simp[SymL.enc,SymL.cells]
@[simp] theorem qBS(s:SymL):s.enc.cells=[.str s.name,.int .i64 s.arity,.bool s.ac]:=rfl
@[simp] theorem qBt(s:SymL):(AV.d s.enc).cells=[.d (.str s.name),.d (.int .i64 s.arity),.d (.bool s.ac)]:=rfl
@[simp] theorem qAS(s:SymL):s.enc.isCell=false:=rfl
@[simp] theorem qEX(n:ByteArray)(a:Int)(b:Bool):DV.agg [.str n,.int .i64 a,.bool b]=SymL.enc ⟨n,a,b⟩:=rfl
@[simp high] theorem qD5(l:List SymL):(l.map SymL.enc).map DV.clr=l.map SymL.enc:=by simp[List.map_map,Function.comp_def]
def qAa(l:List SymL)(i:Nat):SymL:=(l[i]?).getD ⟨⟨#[]⟩,0,false⟩
@[simp] theorem qDT(a b:ByteArray):qfq .eql (.str a) (.str b)=some (.bool (qrL a b)):=rfl
@[simp] theorem qDS(a b:ByteArray):qfq .neq (.str a) (.str b)=some (.bool !(qrL a b)):=rfl
def inB(x lo hi:Int):Bool:=decide (lo<=x)&&decide (x<=hi)
theorem qpG(x lo hi:Int):qau XV 30 [.d (.int .i64 x),.d (.int .i64 lo),.d (.int .i64 hi)] []=some (.d (.bool (inB x lo hi)),[]):=by
 rw[qax XV _ _ _ v30 rfl qwW rfl];unfold inB
 by_cases h:lo<=x
 ·have h':x>=lo:=h
  simp[v30,qAv,qAu,h]
 ·have h':¬x>=lo:=h
  simp[v30,qAv,qAu,h]
theorem qvj(x lo hi:Int):qau XV 31 [.d (.int .i64 x),.d (.int .i64 lo),.d (.int .i64 hi)] []=some (.d (.bool (inB x lo hi)),[]):=by
 rw[qax XV _ _ _ v31 rfl qwV rfl];unfold inB
 by_cases h:lo<=x
 ·simp[v31,qAt,qAs,h]
 ·simp[v31,qAt,qAs,h]
def qFy(l:List SymL)(f:Int):Bool:=inB f 0 (l.length-1)
end Go.Proofs.Ytpcoohnjllclnaa.VS
namespace Go.Proofs.Ytpcoohnjllclnaa.VS
abbrev is(l:List Int):DV:= .sl .sub (l.map (.int .i64))
def iAt(l:List Int)(i:Nat):Int:=(l[i]?).getD 0
theorem qaH{l:List Int}{i:Nat}(h:i<l.length):l[i]=iAt l i:=by simp[iAt,h]
theorem qlh(l:List Int):∀x:DV,x∈l.map (.int .i64)->qvW false 1 x:=by
 intro x hx;simp only[List.mem_map]at hx;obtain⟨n,_,rfl⟩:=hx;exact⟨rfl,rfl,fun h=>by simp at h,by simp⟩
@[simp high] theorem qD6(l:List Int):(l.map (DV.int .i64)).map DV.clr=l.map (DV.int .i64):=by simp[List.map_map,Function.comp_def]
end Go.Proofs.Ytpcoohnjllclnaa.VS
namespace Go.Proofs.Ytpcoohnjllclnaa.VS
end Go.Proofs.Ytpcoohnjllclnaa.VS
namespace Go.Proofs.Ytpcoohnjllclnaa.VS
def qaw(q:Nat->Bool):Nat->Nat->Option Nat
 |0,_=>none
 |k+1,i=>if q i then some i else qaw q k (i+1)
def qeW(q:Nat->Bool)(_:Unit)(i:Nat):Unit⊕Nat:=if q i then .inr i else .inl ()
theorem qxm(q:Nat->Bool):∀(k i:Nat),runN (qeW q) k () i=match qaw q k i with|some j=> .inr j|none=> .inl ()
 |0,i=>rfl
 |k+1,i=>by
  simp only[runN,qeW,qaw];cases h:q i
  ·simp[qxm q k (i+1)]
  ·simp
def qiv:Option Nat->Int
 |some j=>j
 |none=> -1
theorem qfn(q:Nat->Bool):∀(k i j:Nat),qaw q k i=some j->i<=j/\j<i+k/\q j=true
 |0,i,j,h=>by simp[qaw]at h
 |k+1,i,j,h=>by
  simp only[qaw]at h;split at h
  ·simp at h;subst h;exact⟨Nat.le_refl _,by omega,by assumption⟩
  ·obtain⟨h1,h2,h3⟩:=qfn q k (i+1) j h;exact⟨by omega,by omega,h3⟩
end Go.Proofs.Ytpcoohnjllclnaa.VS
namespace Go.Proofs.Ytpcoohnjllclnaa.VS
abbrev W(x:Int):Int:=IntKind.i64.wrap x
theorem qGF(x:Int):IntKind.i64.wrap x=if x%18446744073709551616>=9223372036854775808 then x%18446744073709551616-18446744073709551616 else x%18446744073709551616:=by
 simp[IntKind.wrap,IntKind.bits,IntKind.signed]
theorem qGH(x y:Int):W (W x+W y)=W (x+y):=by
 simp only[W,qGF];split<;>split<;>split<;>split<;>omega
theorem qGE(x y:Int):W (W x-W y)=W (x-y):=by
 simp only[W,qGF];split<;>split<;>split<;>split<;>omega
theorem qGG(x y:Int):(W x==W y)=(W (x-y)==0):=by
 have:(W x=W y)↔(W (x-y)=0):=by
  simp only[W,qGF];split<;>split<;>split<;>omega
 rw[Bool.eq_iff_iff];simpa using this
def qcm(a x:List Int)(o:Nat):Nat->Nat->Int
 |_,0=>0
 |i,k+1=>iAt a i*iAt x (o+i)+qcm a x o (i+1) k
def qqh(a x:List Int)(o:Nat)(t:Int)(i:Nat):Int⊕Unit:= .inl (W (t+W (iAt a i*iAt x (o+i))))
def qua(a x:List Int)(o:Nat)(t:Int)(i:Nat):Int⊕Unit:= .inl (W (t-W (iAt a i*iAt x (o+i))))
theorem qAh(a x:List Int)(o:Nat):∀(k i:Nat) (d:Int),runN (qqh a x o) k (W d) i= .inl (W (d+qcm a x o i k))
 |0,i,d=>by simp[runN,qcm]
 |k+1,i,d=>by
  simp only[runN,qqh,qGH,qcm];rw[qAh a x o k (i+1) _]
  congr 2;omega
theorem qCH(a x:List Int)(o:Nat):∀(k i:Nat) (d:Int),runN (qua a x o) k (W d) i= .inl (W (d-qcm a x o i k))
 |0,i,d=>by simp[runN,qcm]
 |k+1,i,d=>by
  simp only[runN,qua,qGE,qcm];rw[qCH a x o k (i+1) _]
  congr 2;omega
theorem qzc:W 0=0:=rfl
theorem qiA(a x:List Int)(o:Nat)(ha:a.length<=1099511627776)(hx:x.length<=2199023255552)(h:o+a.length<=x.length):qau XV 48 [.d (is a),.d (is x),.d (.int .i64 o)] []=some (.d (.int .i64 (W (qcm a x o 0 a.length))),[]):=by
 rw[qax XV _ _ _ v48 rfl qwR rfl];have hloop:=qas (X:=XV) (T:=[]) (L:=0) (live:=[0,1,2,7,8]) (b:=qx6) (n:=a.length) (γ:=Unit) (st:=fun(t:Int) i=>⟨[(0,.d (is a)),(1,.d (is x)),(2,.d (.int .i64 o)),(7,.d (.int .i64 t)),(8,.d (.int .i64 i))],[]⟩) (step:=qqh a x o)
  (F:=fun t=>(.exit 0,⟨[(0,.d (is a)),(1,.d (is x)),(2,.d (.int .i64 o)),(7,.d (.int .i64 t)),(8,.d (.int .i64 a.length)),(12,.d (.bool false))],[]⟩)) (R:=fun _=>(.ret,⟨[],[]⟩))
  (fun _=>⟨by simp,by simp[qx6,quq,qup,qun,qum,qxR,qul,quk]⟩)
  (fun t i hi=>by
   have hw:=qah (n:=i) (by omega);have hw2:IntKind.i64.wrap ((o:Int)+i)=(o:Int)+i:=wrap_i64 (by omega) (by omega);have hp:(0:Int)<=(o:Int)+i:=by omega
   have ht:((o:Int)+i).toNat=o+i:=by omega
   have hx3:(o:Int)+i<x.length:=by omega
   have hx2:o+i<x.length:=by omega
   exact⟨_,by simp[qx6,quq,qup,qun,qum,qxR,qul,quk,hi,hw,hw2,hp,ht,hx2,hx3,cut,qaH hi,qaH hx2];rfl,by simp[qac,qaa]⟩)
  a.length 0 0 ⟨[(0,.d (is a)),(1,.d (is x)),(2,.d (.int .i64 o)),(7,.d (.int .i64 0)),(8,.d (.int .i64 0))],[]⟩ (by omega) (by simp[qac,qaa])
 have hr:=qAh a x o a.length 0 0;rw[qzc,Int.zero_add]at hr;rw[hr]at hloop;simp[v48,quq,qup,qun,qum,qxR,qul,quk];rw[hloop];simp[v48,quq,qup,qun,qum,qxR,qul,quk]
def qgf(x:List Int)(i:Nat):Bool:=decide (iAt x i<0)
def qcK(a b x:List Int):Bool:=
 decide (x.length=a.length+b.length)&&((qaw (qgf x) x.length 0).isNone&&(W (qcm a x 0 0 a.length)==W (qcm b x a.length 0 b.length)))
theorem qlS(a b x:List Int)(ha:a.length<=1099511627776)(hb:b.length<=1099511627776)(hx:x.length<=1099511627776):qau XV 42 [.d (is a),.d (is b),.d (is x)] []=some (.d (.bool (qcK a b x)),[]):=by
 rw[qax XV _ _ _ v42 rfl qwU rfl];have hw:IntKind.i64.wrap ((a.length:Int)+b.length)=(a.length:Int)+b.length:=wrap_i64 (by omega) (by omega);unfold qcK
 by_cases c:x.length=a.length+b.length
 case neg=>
  have c':((x.length:Int) !=(a.length:Int)+b.length)=true:=by simp;omega
  simp[v42,qpl,qpk,qpj,qpi,qr0,qrY,qrX,qrZ,qrW,hw,c,c']
 have c':((x.length:Int) !=(a.length:Int)+b.length)=false:=by simp;omega
 have hloop:=qas (X:=XV) (T:=[]) (L:=0) (live:=[0,1,2,7]) (b:=qwq) (n:=x.length) (γ:=Nat) (st:=fun(_:Unit) i=>⟨[(0,.d (is a)),(1,.d (is b)),(2,.d (is x)),(7,.d (.int .i64 i))],[]⟩) (step:=qeW (qgf x))
  (F:=fun t=>(.exit 0,⟨[(0,.d (is a)),(1,.d (is b)),(2,.d (is x)),(7,.d (.int .i64 x.length)),(19,.d (.bool false))],[]⟩)) (R:=fun _=>(.ret,⟨[(6,.d (.bool false))],[]⟩))
  (fun _=>⟨by simp,by simp[qwq,qpl,qpk,qpj,qpi,qr0,qrY,qrX,qrZ,qrW]⟩)
  (fun t i hi=>by
   have hw:=qah (n:=i) (by omega);unfold qeW qgf
   by_cases hn:iAt x i<0
   ·simp only[hn,decide_true,if_true]
    exact⟨by simp,by simp[qwq,qpl,qpk,qpj,qpi,qr0,qrY,qrX,qrZ,qrW,hi,hw,cut,qaH hi,hn]⟩
   ·simp only[hn,decide_false]
    exact⟨_,by simp[qwq,qpl,qpk,qpj,qpi,qr0,qrY,qrX,qrZ,qrW,hi,hw,cut,qaH hi,hn];rfl,by simp[qac,qaa]⟩)
  x.length () 0 ⟨[(0,.d (is a)),(1,.d (is b)),(2,.d (is x)),(7,.d (.int .i64 0))],[]⟩ (by omega) (by simp[qac,qaa])
 rw[qxm]at hloop;have t1:qau XV 48 [.d (is a),.d (is x),.d (.int .i64 0)] []=some (.d (.int .i64 (W (qcm a x 0 0 a.length))),[]):=qiA a x 0 ha (by omega) (by omega);have t2:=qiA b x a.length hb (by omega) (by omega);simp[v42,qpl,qpk,qpj,qpi,hw,c'];rw[hloop];cases hq:qaw (qgf x) x.length 0 with
 |some j=>simp
 |none=>simp[v42,qpl,qpk,qpj,qpi,qr0,qrY,qrX,qrZ,qrW,t1,t2,c]
theorem qAy(n:Int):qau XV 46 [.d (.int .i64 n)] []=some (.d (.bool (decide (n<0))),[]):=by
 rw[qax XV _ _ _ v46 rfl qwS rfl];simp[v46,qCL,qCK]
theorem qpA(l:List Int)(hl:l.length<=1099511627776):qau XV 47 [.d (is l),.fn 46 []] []=some (.d (.int .i64 (qiv (qaw (qgf l) l.length 0))),[]):=by
 rw[qax XV _ _ _ v47 rfl qp4 rfl];have h:=qas (X:=XV) (T:=XV.lin 47) (L:=0) (live:=[0,1,7,8]) (b:=qmB) (n:=l.length) (γ:=Nat) (st:=fun(_:Unit) i=>⟨[(0,.d (is l)),(1,.fn 46 []),(7,.d (.int .i64 l.length)),(8,.d (.int .i64 i))],[]⟩) (step:=qeW (qgf l))
  (F:=fun _=>(.exit 0,⟨[(0,.d (is l)),(1,.fn 46 []),(7,.d (.int .i64 l.length)),(8,.d (.int .i64 l.length)),(9,.d (.bool false))],[]⟩)) (R:=fun(j:Nat)=>(.ret,⟨[(4,.d (.int .i64 j))],[]⟩))
  (fun _=>⟨by simp,by simp[qmB,qji,qjh,qjg,qjf,qje,qjd,qjc,qjb]⟩)
  (fun _ i hi=>by
   have hw:=qah (n:=i) (by omega);have hc:=qAy (iAt l i);unfold qeW qgf
   by_cases hn:iAt l i<0
   ·simp only[hn,decide_true,if_true]at hc⊢
    exact⟨by simp,by simp[qmB,qji,qjh,qjg,qjf,qje,qjd,qjc,qjb,hi,hw,cut,qaH hi,hc]⟩
   ·simp only[hn,decide_false]at hc⊢
    exact⟨_,by simp[qmB,qji,qjh,qjg,qjf,qje,qjd,qjc,qjb,hi,hw,cut,qaH hi,hc];rfl,by simp[qac,qaa]⟩)
  l.length () 0 ⟨[(0,.d (is l)),(1,.fn 46 []),(7,.d (.int .i64 l.length)),(8,.d (.int .i64 0))],[]⟩ (by omega) (by simp[qac,qaa])
 rw[qxm]at h;simp only[qy0]at h;simp[v47,qji,qjh,qjg,qjf,qje,qjd,qjc,qjb];rw[h];cases hq:qaw (qgf l) l.length 0<;>simp[qiv,v47,qji,qjh,qjg,qjf,qje,qjd,qjc,qjb]
theorem qkl(l:List Int)(hl:l.length<=1099511627776):qau XV 45 [.d (is l),.fn 46 []] []=some (.d (.bool (!(qaw (qgf l) l.length 0).isNone)),[]):=by
 rw[qax XV _ _ _ v45 rfl qp5 rfl];have h:=qpA l hl;cases hq:qaw (qgf l) l.length 0 with
 |none=>rw[hq]at h;simp[v45,qus,qur,h,qiv]
 |some j=>rw[hq]at h;simp[v45,qus,qur,h,qiv]
theorem qdB(a b x:List Int)(ha:a.length<=1099511627776)(hb:b.length<=1099511627776)(hx:x.length<=1099511627776):qau XV 43 [.d (is a),.d (is b),.d (is x)] []=some (.d (.bool (qcK a b x)),[]):=by
 rw[qax XV _ _ _ v43 rfl qwT rfl];have hw:IntKind.i64.wrap ((a.length:Int)+b.length)=(a.length:Int)+b.length:=wrap_i64 (by omega) (by omega);unfold qcK
 by_cases c:x.length=a.length+b.length
 case neg=>
  have c':((x.length:Int) !=(a.length:Int)+b.length)=true:=by simp;omega
  simp[v43,qkh,qkg,qkf,qke,qkd,ql0,qlZ,qlY,qlX,qlW,qgF,qgE,qgD,qgC,qgB,hw,c,c']
 have c':((x.length:Int) !=(a.length:Int)+b.length)=false:=by simp;omega
 have hn:=qkl x hx;cases hq:qaw (qgf x) x.length 0 with
 |some j=>
  rw[hq]at hn;simp[v43,qkh,qkg,qkf,qke,qkd,ql0,qlZ,qlY,qlX,qlW,qgF,qgE,qgD,qgC,qgB,hw,c,c',hn]
 |none=>
  rw[hq]at hn;have l1:=qas (X:=XV) (T:=XV.lin 43) (L:=0) (live:=[0,1,2,7,24,25,26]) (b:=qx8) (n:=a.length) (γ:=Unit) (st:=fun(t:Int) i=>⟨[(0,.d (is a)),(1,.d (is b)),(2,.d (is x)),(7,.d (.int .i64 t)),(24,.d (is a)),(25,.d (.int .i64 a.length)),(26,.d (.int .i64 i))],[]⟩) (step:=qqh a x 0)
   (F:=fun t=>(.exit 0,⟨[(0,.d (is a)),(1,.d (is b)),(2,.d (is x)),(7,.d (.int .i64 t)),(24,.d (is a)),(25,.d (.int .i64 a.length)),(26,.d (.int .i64 a.length)),(27,.d (.bool false))],[]⟩)) (R:=fun _=>(.ret,⟨[],[]⟩))
   (fun _=>⟨by simp,by simp[qx8,qkh,qkg,qkf,qke,qkd,ql0,qlZ,qlY,qlX,qlW,qgF,qgE,qgD,qgC,qgB]⟩)
   (fun t i hi=>by
    have hw:=qah (n:=i) (by omega);have hx2:i<x.length:=by omega
    exact⟨_,by simp[qx8,qkh,qkg,qkf,qke,qkd,ql0,qlZ,qlY,qlX,qlW,qgF,qgE,qgD,qgC,qgB,hi,hw,hx2,cut,qaH hi,qaH hx2];rfl,by simp[qac,qaa]⟩)
   a.length 0 0 ⟨[(0,.d (is a)),(1,.d (is b)),(2,.d (is x)),(7,.d (.int .i64 0)),(24,.d (is a)),(25,.d (.int .i64 a.length)),(26,.d (.int .i64 0))],[]⟩ (by omega) (by simp[qac,qaa])
  have hr:=qAh a x 0 a.length 0 0;rw[qzc,Int.zero_add]at hr;rw[hr]at l1;have l2:=qas (X:=XV) (T:=XV.lin 43) (L:=0) (live:=[0,2,7,40,41,42]) (b:=qx7) (n:=b.length) (γ:=Unit) (st:=fun(t:Int) i=>⟨[(0,.d (is a)),(2,.d (is x)),(7,.d (.int .i64 t)),(40,.d (is b)),(41,.d (.int .i64 b.length)),(42,.d (.int .i64 i))],[]⟩) (step:=qua b x a.length)
   (F:=fun t=>(.exit 2,⟨[(0,.d (is a)),(2,.d (is x)),(7,.d (.int .i64 t)),(40,.d (is b)),(41,.d (.int .i64 b.length)),(42,.d (.int .i64 b.length)),(43,.d (.bool false))],[]⟩)) (R:=fun _=>(.ret,⟨[],[]⟩))
   (fun _=>⟨by simp,by simp[qx7,qkh,qkg,qkf,qke,qkd,ql0,qlZ,qlY,qlX,qlW,qgF,qgE,qgD,qgC,qgB]⟩)
   (fun t i hi=>by
    have hw:=qah (n:=i) (by omega);have hw2:IntKind.i64.wrap ((a.length:Int)+i)=(a.length:Int)+i:=wrap_i64 (by omega) (by omega);have hp:(0:Int)<=(a.length:Int)+i:=by omega
    have ht:((a.length:Int)+i).toNat=a.length+i:=by omega
    have hx2:a.length+i<x.length:=by omega
    have hx3:(a.length:Int)+i<x.length:=by omega
    exact⟨_,by simp[qx7,qkh,qkg,qkf,qke,qkd,ql0,qlZ,qlY,qlX,qlW,qgF,qgE,qgD,qgC,qgB,hi,hw,hw2,hp,ht,hx2,hx3,cut,qaH hi,qaH hx2];rfl,by simp[qac,qaa]⟩)
   b.length (W (qcm a x 0 0 a.length)) 0 ⟨[(0,.d (is a)),(2,.d (is x)),(7,.d (.int .i64 (W (qcm a x 0 0 a.length)))),(40,.d (is b)),(41,.d (.int .i64 b.length)),(42,.d (.int .i64 0))],[]⟩ (by omega) (by simp[qac,qaa])
  rw[qCH]at l2;simp only[qDp]at l1 l2;rw[qGG];simp[v43,qkh,qkg,qkf,qke,qkd,hw,c',hn];rw[l1];simp[v43,qkh,qkg,qkf,qke,qkd,ql0,qlZ,qlY,qlX,qlW,qgF,qgE,qgD,qgC,qgB];rw[l2];simp[v43,qkh,qkg,qkf,qke,qkd,ql0,qlZ,qlY,qlX,qlW,qgF,qgE,qgD,qgC,qgB,c]
end Go.Proofs.Ytpcoohnjllclnaa.VS
namespace Go.Proofs.Ytpcoohnjllclnaa.VS
theorem take_at{α:Type}(B r:List α):(B++r).take B.length=B:=by simp
theorem qfF{L:Nat}{live:List Nat}{s:XS}{r':List (Nat×AV)}{B e:qak}(h:keep s.r live=r')(hs:qaa L r'=true)(hl:B.length=L)(he:s.B=B++e):qac L live s=some ⟨r',B⟩:=by
 unfold qac;rw[h,he,if_pos ⟨hs,by simp;omega⟩,<-hl,take_at]
end Go.Proofs.Ytpcoohnjllclnaa.VS
namespace Go.Proofs.Ytpcoohnjllclnaa.VS
mutual
def T.sum(w:T->Int):T->Int
 | .node f v ks=>w (.node f v ks)+T.sums w ks
def T.sums(w:T->Int):List T->Int
 | []=>0
 |t::r=>T.sum w t+T.sums w r
end
end Go.Proofs.Ytpcoohnjllclnaa.VS
namespace Go.Proofs.Ytpcoohnjllclnaa.VS
def wC(n:Int)(x:T):Int:=if x.f= -1/\x.v=n then 1 else 0
end Go.Proofs.Ytpcoohnjllclnaa.VS
namespace Go.Proofs.Ytpcoohnjllclnaa.VS
theorem qjJ(q:Nat->Bool):∀(k i j:Nat),qaw q k i=none->i<=j->j<i+k->q j=false
 |0,i,j,_,h1,h2=>by omega
 |k+1,i,j,hf,h1,h2=>by
  simp only[qaw]at hf;split at hf
  ·simp at hf
  ·rename_i hq
   by_cases he:j=i
   ·subst he;simpa using hq
   ·exact qjJ q k (i+1) j hf (by omega) (by omega)
section
variable (X:XEnv)
end
end Go.Proofs.Ytpcoohnjllclnaa.VS
namespace Go.Proofs.Ytpcoohnjllclnaa.VS
theorem qBB(l:List Int):(l.map (DV.int .i64)).all (fun e=>decide (e.cells.length=1))=true:=by simp[qes]
theorem qyc(l:List Int):(l.map (DV.int .i64)).all (fun e=>decide (e.cells.length=1/\e.cells.all DV.isCell=true))=true:=by simp[qes,qam]
theorem qec(a b:List Int)(g:Tag)(h:(a.length+b.length)*8<=140737488355328):qaC 1 8 (.sl U (a.map (.int .i64))) (.sl g (b.map (.int .i64)))=some (.sl U ((a++b).map (.int .i64))):=by
 unfold qaC;simp only;rw[if_pos (qyc b)];cases b with
 |nil=>simp
 |cons x r=>
  simp only[List.map_cons,List.isEmpty_cons,Bool.false_eq_true,if_false];rw[if_pos ⟨by simpa using h,trivial,qBB a⟩];simp
end Go.Proofs.Ytpcoohnjllclnaa.VS
namespace Go.Proofs.Ytpcoohnjllclnaa.VS
def cI(l:List Int):List AV:=l.map fun x=> .d (.int .i64 x)
def mk:Nat->Nat->List Int
 |0,_=>[]
 |n+1,k=>(k:Int)::mk n (k+1)
theorem qEa(l:List Int):(cI l).length=l.length:=by simp[cI]
theorem qy3(B:qak)(n:Nat)(v:DV):AV.frzC B n (.d v)=some v:=by cases n<;>simp only[AV.frzC]
end Go.Proofs.Ytpcoohnjllclnaa.VS
namespace Go.Proofs.Ytpcoohnjllclnaa.VS
end Go.Proofs.Ytpcoohnjllclnaa.VS
namespace Go.Proofs.Ytpcoohnjllclnaa.VS
@[simp] theorem qF6(g:Tag)(l:List Int):ints g l= .sl g (l.map (.int .i64)):=rfl
abbrev iss(g:Tag)(ps:List (List Int)):DV:= .sl g (ps.map (ints g))
def rAt(l:List (List Int))(i:Nat):List Int:=(l[i]?).getD []
theorem qaS{l:List (List Int)}{i:Nat}(h:i<l.length):l[i]=rAt l i:=by simp[rAt,h]
@[simp high] theorem qGB(g:Tag)(l:List (List Int)):(l.map (ints g)).map DV.clr=l.map (ints .sub):=by
 simp[List.map_map,Function.comp_def,DV.clr,DV.qaz]
theorem qsc(g:Tag)(l:List (List Int)):∀x:DV,x∈l.map (ints g)->qvW false 1 x:=by
 intro x hx;simp only[List.mem_map]at hx;obtain⟨n,_,rfl⟩:=hx;exact⟨rfl,rfl,fun h=>by simp at h,by simp⟩
end Go.Proofs.Ytpcoohnjllclnaa.VS
namespace Go.Proofs.Ytpcoohnjllclnaa.VS
def qix:List Int->List Int->List Int
 |c::cs,r::rs=>IntKind.i64.wrap (c+r)::qix cs rs
 |cs,_=>cs
theorem qyd(c:List Int):qix c []=c:=by cases c<;>rfl
theorem qds:∀(c r:List Int),(qix c r).length=c.length
 | [],r=>by cases r<;>rfl
 |c::cs,[]=>rfl
 |c::cs,r::rs=>by simp[qix,qds cs rs]
theorem qgn:∀(c r:List Int) (i:Nat),i<c.length->iAt (qix c r) i=if i<r.length then IntKind.i64.wrap (iAt c i+iAt r i)else iAt c i
 | [],r,i,h=>by simp at h
 |c::cs,[],i,h=>by simp[qix]
 |c::cs,r::rs,0,h=>by simp[qix,iAt]
 |c::cs,r::rs,i+1,h=>by
  have:=qgn cs rs i (by simpa using h);simpa[qix,iAt]using this
theorem qvJ(a b:List Int)(hl:a.length=b.length)(h:∀i,i<a.length->iAt a i=iAt b i):a=b:=by
 apply List.ext_getElem hl;intro i h1 h2;rw[qaH h1,qaH h2];exact h i h1
theorem qAT(l:List Int)(i j:Nat)(x:Int)(hi:i<l.length):iAt (l.set i x) j=if i=j then x else iAt l j:=by
 unfold iAt;rw[List.getElem?_set];split
 ·simp[*]
 ·rfl
theorem qiO(l:List Int)(k j:Nat)(h:j<k):iAt (l.take k) j=iAt l j:=by
 unfold iAt;rw[List.getElem?_take];simp[h]
theorem qww(c r:List Int)(i:Nat)(hi:i<c.length)(hr:i<r.length):(qix c (r.take i)).set i (IntKind.i64.wrap (iAt (qix c (r.take i)) i+iAt r i))=qix c (r.take (i+1)):=by
 have h0:iAt (qix c (r.take i)) i=iAt c i:=by rw[qgn _ _ _ hi];simp;omega
 apply qvJ
 ·simp[qds]
 ·intro j hj
  simp[qds]at hj;rw[qAT _ _ _ _ (by rw[qds];exact hi),qgn _ _ j hj,h0,qgn _ _ j hj];simp only[List.length_take]
  by_cases hij:i=j
  ·subst hij;rw[if_pos rfl,if_pos (by omega),qiO _ _ _ (by omega)]
  ·rw[if_neg hij]
   by_cases hlt:j<i
   ·rw[if_pos (by omega),if_pos (by omega),qiO _ _ _ hlt,qiO _ _ _ (by omega)]
   ·rw[if_neg (by omega),if_neg (by omega)]
theorem qye(c r:List Int)(k:Nat)(hk:k=min c.length r.length):qix c (r.take k)=qix c r:=by
 apply qvJ
 ·simp[qds]
 ·intro j hj
  simp[qds]at hj;rw[qgn _ _ j hj,qgn _ _ j hj];simp only[List.length_take]
  by_cases h:j<r.length
  ·rw[if_pos (by omega),if_pos h,qiO _ _ _ (by omega)]
  ·rw[if_neg (by omega),if_neg h]
def qfz(m:Nat)(ps:List (List Int)):Nat->List Int
 |0=>List.replicate m 0
 |j+1=>qix (qfz m ps j) (rAt ps j)
theorem qfy(m:Nat)(ps:List (List Int)):∀j,(qfz m ps j).length=m
 |0=>by simp[qfz]
 |j+1=>by simp[qfz,qds,qfy m ps j]
def qqg(ps:List (List Int))(n:Int):List Int:=if 1<=n/\n<=1000 then qfz n.toNat ps ps.length else []
theorem qxe(ps:List (List Int))(n:Int):(qqg ps n).length<=1000:=by
 unfold qqg;split
 ·rw[qfy];omega
 ·simp
theorem qD8(l:List Int)(i:Nat)(x:Int)(h:i<l.length):splice (cI l) i [.d (.int .i64 x)]=cI (l.set i x):=by
 unfold splice cI;rw[List.set_eq_take_append_cons_drop,if_pos h];simp
theorem qEb(l:List Int)(i:Nat)(h:i<l.length):(cI l)[i]?=some (.d (.int .i64 (iAt l i))):=by
 simp[cI,iAt,h]
theorem qzh(m:Nat):List.map AV.d (List.flatMap DV.cells (List.replicate m (.int .i64 0)))=cI (List.replicate m 0):=by
 induction m with
 |zero=>rfl
 |succ m ih=>simp[List.replicate_succ,cI,qes]at ih⊢;exact ih
theorem qD9(l:List Int):cI l=qlU (l.map (.int .i64)):=by
 unfold qlU
 induction l with
 |nil=>rfl
 |cons x r ih=>simp[cI,flat,qes]at ih⊢;exact ih
theorem qxf(m:Nat)(hm:m<=1000)(ps:List (List Int))(j:Nat)(row c:List Int)(hc:c.length=m)(hr:row.length<=4398046511104):
 qdl XV [4,5,42] 1 [1,5,7,8,14,15,16] qlz ⟨[(1,.d (.int .i64 m)),(5,.bsl [] false 0 1 m),(7,.d (is row)),(8,.d (.int .i64 0)),(14,.d (iss .sub ps)),(15,.d (.int .i64 ps.length)),(16,.d (.int .i64 j))],[some (cI c)]⟩
 =some (.exit 2,⟨[(1,.d (.int .i64 m)),(5,.bsl [] false 0 1 m),(7,.d (is row)),(8,.d (.int .i64 (min m row.length:Nat))),(14,.d (iss .sub ps)),(15,.d (.int .i64 ps.length)),(16,.d (.int .i64 j)),(28,.d (.bool false))],[some (cI (qix c row))]⟩):=by
 have h:=qas (X:=XV) (T:=[4,5,42]) (L:=1) (live:=[1,5,7,8,14,15,16]) (b:=qlz) (n:=min m row.length) (γ:=Unit) (st:=fun(_:Unit) i=>⟨[(1,.d (.int .i64 m)),(5,.bsl [] false 0 1 m),(7,.d (is row)),(8,.d (.int .i64 i)),(14,.d (iss .sub ps)),(15,.d (.int .i64 ps.length)),(16,.d (.int .i64 j))],[some (cI (qix c (row.take i)))]⟩) (step:=fun _ _=> .inl ())
  (F:=fun _=>(.exit 2,⟨[(1,.d (.int .i64 m)),(5,.bsl [] false 0 1 m),(7,.d (is row)),(8,.d (.int .i64 (min m row.length:Nat))),(14,.d (iss .sub ps)),(15,.d (.int .i64 ps.length)),(16,.d (.int .i64 j)),(28,.d (.bool false))],[some (cI (qix c (row.take (min m row.length))))]⟩)) (R:=fun _=>(.ret,⟨[],[]⟩))
  (fun _=>⟨by simp,by
   by_cases hlt:row.length<m
   ·have hk:min m row.length=row.length:=by omega
    rw[hk];simp[qlz,qk6,qk5,qnF,qk4,qk3,qjl,qjk,qjj,qnE,qmv,qnD,qf8,qf7,hlt]
   ·have hk:min m row.length=m:=by omega
    rw[hk];simp[qlz,qk6,qk5,qnF,qk4,qk3,qjl,qjk,qjj,qnE,qmv,qnD,qf8,qf7]⟩)
  (fun _ i hi=>by
   have hw:=qah (n:=i) (by omega);have h1:i<m:=by omega
   have h2:i<row.length:=by omega
   have hs:=qD8 (qix c (row.take i)) i (IntKind.i64.wrap (iAt (qix c (row.take i)) i+iAt row i)) (by rw[qds];omega);rw[qww c row i (by omega) h2]at hs;have hlen:(cI (qix c (row.take i))).length=m:=by rw[qEa,qds,hc]
   have hg:=qEb (qix c (row.take i)) i (by rw[qds];omega);generalize hc1:qix c (row.take i)=c1 at hs hlen hg⊢
   have hle:i+1<=m:=by omega
   generalize hcc:cI c1=cc at hs hlen hg⊢
   have hlt:i<cc.length:=by omega
   have hg2:cc[i]= .d (.int .i64 (iAt c1 i)):=by rw[List.getElem?_eq_getElem hlt]at hg;simpa using hg
   exact⟨⟨[(1,.d (.int .i64 m)),(5,.bsl [] false 0 1 m),(7,.d (is row)),(8,.d (.int .i64 (i+1:Nat))),(14,.d (iss .sub ps)),(15,.d (.int .i64 ps.length)),(16,.d (.int .i64 j))],[some (cI (qix c (row.take (i+1))))]⟩,by simp[qlz,qk6,qk5,qnF,qk4,qk3,qjl,qjk,qjj,qnE,qmv,qnD,qf8,qf7,h1,h2,hw,cut,qaH h2,hlen,hg2,hs,hle],by simp[qac,qaa]⟩)
  (min m row.length) () 0 ⟨[(1,.d (.int .i64 m)),(5,.bsl [] false 0 1 m),(7,.d (is row)),(8,.d (.int .i64 0)),(14,.d (iss .sub ps)),(15,.d (.int .i64 ps.length)),(16,.d (.int .i64 j))],[some (cI c)]⟩ (by omega) (by simp[qac,qaa,qyd])
 rw[qgx,qye c row _ (by rw[hc])]at h;exact h
theorem qsi(ps:List (List Int))(n:Int)(hl:ps.length<=1099511627776)(hb:∀i,i<ps.length->(rAt ps i).length<=1099511627776):qau XV 212 [.d (iss .sub ps),.d (.int .i64 n)] []=some (.d (ints U (qqg ps n)),[]):=by
 rw[qax XV _ _ _ qz4 rfl qtC rfl];have hf:=qpG n 1 1000
 by_cases hn:1<=n/\n<=1000
 ·have hb1:inB n 1 1000=true:=by simp[inB,hn]
  rw[hb1]at hf;have hs:qqg ps n=qfz n.toNat ps ps.length:=by unfold qqg;rw[if_pos hn]
  rw[hs];obtain⟨m,rfl⟩:∃m:Nat,n=m:=⟨n.toNat,by omega⟩;simp only[Int.toNat_natCast];have hm:m<=1000:=by omega
  have hloop:=qas (X:=XV) (T:=[4,5,42]) (L:=1) (live:=[1,5,14,15,16]) (b:=qro) (n:=ps.length) (γ:=Unit) (st:=fun(_:Unit) j=>⟨[(1,.d (.int .i64 m)),(5,.bsl [] false 0 1 m),(14,.d (iss .sub ps)),(15,.d (.int .i64 ps.length)),(16,.d (.int .i64 j))],[some (cI (qfz m ps j))]⟩) (step:=fun _ _=> .inl ())
   (F:=fun _=>(.exit 0,⟨[(1,.d (.int .i64 m)),(5,.bsl [] false 0 1 m),(14,.d (iss .sub ps)),(15,.d (.int .i64 ps.length)),(16,.d (.int .i64 ps.length)),(17,.d (.bool false))],[some (cI (qfz m ps ps.length))]⟩)) (R:=fun _=>(.ret,⟨[],[]⟩))
   (fun _=>⟨by simp,by simp[qro,qjl,qjk,qjj,qf8]⟩)
   (fun _ j hj=>by
    have hw:=qah (n:=j) (by omega);have hin:=qxf m hm ps j (rAt ps j) (qfz m ps j) (qfy m ps j) (by have:=hb j hj;omega);rw[show qix (qfz m ps j) (rAt ps j)=qfz m ps (j+1)from rfl]at hin;exact⟨⟨[(1,.d (.int .i64 m)),(5,.bsl [] false 0 1 m),(14,.d (iss .sub ps)),(15,.d (.int .i64 ps.length)),(16,.d (.int .i64 (j+1:Nat)))],[some (cI (qfz m ps (j+1)))]⟩,by
     simp[qro,qjl,qjk,qjj,qf8,hj,hw,cut,qaS hj];rw[hin];simp[hw],by simp[qac,qaa]⟩)
   ps.length () 0 ⟨[(1,.d (.int .i64 m)),(5,.bsl [] false 0 1 m),(14,.d (iss .sub ps)),(15,.d (.int .i64 ps.length)),(16,.d (.int .i64 0))],[some (cI (qfz m ps 0))]⟩ (by omega) (by simp[qac,qaa])
  rw[qgx]at hloop;have hlen:=qfy m ps ps.length;generalize qfz m ps ps.length=g at hloop hlen⊢
  have hch:=qls (g.map (DV.int .i64)) (qlh g);have hfl:(flat (g.map (DV.int .i64))).length=g.length*1:=by rw[qeb fun x hx=>(qlh g x hx).1];simp
  rw[List.length_map,hlen]at hch;rw[hlen]at hfl;rw[qD9 g]at hloop;have hz:=qzh m;simp only[qfz]at hloop;rw[<-hz]at hloop;have hle:m*8<=140737488355328:=by omega
  have hlt:(m:Int)<9223372036854775808:=by omega
  have hlt2:m<9223372036854775808:=by omega
  simp[qz4,qk6,qk5,qk4,qk3,qf7,hf,hle,hlt]
  try simp at hloop
  rw[hloop];simp[qf7,hch,hfl,hlt2,qv4]
 ·have hb1:inB n 1 1000=false:=by simp[inB];omega
  rw[hb1]at hf;have hs:qqg ps n=[]:=by unfold qqg;rw[if_neg hn]
  rw[hs];simp[qz4,qk6,qk5,qnF,qk4,qk3,qjl,qjk,qjj,qnE,qmv,qnD,qf8,qf7,hf]
end Go.Proofs.Ytpcoohnjllclnaa.VS
namespace Go.Proofs.Ytpcoohnjllclnaa.VS
theorem qAb(m:Nat)(ps:List (List Int))(j i:Nat)(hi:i<m):iAt (qfz m ps (j+1)) i=if i<(rAt ps j).length then IntKind.i64.wrap (iAt (qfz m ps j) i+iAt (rAt ps j) i)else iAt (qfz m ps j) i:=by
 rw[qfz,qgn _ _ _ (by rw[qfy];exact hi)]
theorem qlP(l:List Int)(i:Nat)(h:i<l.length):l.take (i+1)=l.take i++[iAt l i]:=by
 rw[List.take_add_one,List.getElem?_eq_getElem h,qaH h];rfl
theorem qt8(m:Nat)(n:Int)(ps:List (List Int))(acc:DV)(i:Nat)(hi:i<m)(hl:ps.length<=4398046511104):
 qdl XV [4,5,9,41,43,44,45] 0 [0,1,5,6,7,8] qly ⟨[(0,.d (iss .sub ps)),(1,.d (.int .i64 n)),(5,.d acc),(6,.d (.int .i64 i)),(7,.d (.int .i64 0)),(8,.d (.int .i64 0))],[]⟩
 =some (.exit 2,⟨[(0,.d (iss .sub ps)),(1,.d (.int .i64 n)),(5,.d acc),(6,.d (.int .i64 i)),(7,.d (.int .i64 (iAt (qfz m ps ps.length) i))),(8,.d (.int .i64 ps.length)),(22,.d (.bool false))],[]⟩):=by
 have h:=qas (X:=XV) (T:=[4,5,9,41,43,44,45]) (L:=0) (live:=[0,1,5,6,7,8]) (b:=qly) (n:=ps.length) (γ:=Unit) (st:=fun(_:Unit) j=>⟨[(0,.d (iss .sub ps)),(1,.d (.int .i64 n)),(5,.d acc),(6,.d (.int .i64 i)),(7,.d (.int .i64 (iAt (qfz m ps j) i))),(8,.d (.int .i64 j))],[]⟩) (step:=fun _ _=> .inl ())
  (F:=fun _=>(.exit 2,⟨[(0,.d (iss .sub ps)),(1,.d (.int .i64 n)),(5,.d acc),(6,.d (.int .i64 i)),(7,.d (.int .i64 (iAt (qfz m ps ps.length) i))),(8,.d (.int .i64 ps.length)),(22,.d (.bool false))],[]⟩)) (R:=fun _=>(.ret,⟨[],[]⟩))
  (fun _=>⟨by simp,by simp[qly,qk2,qk1,qk0,qie,qic,qib,qqK,qqI,ql1,qqJ,qfe,qid,qfd]⟩)
  (fun _ j hj=>by
   have hw:=qah (n:=j) (by omega);have hs:=qAb m ps j i hi;generalize hx:iAt (qfz m ps j) i=x at hs⊢
   by_cases hr:i<(rAt ps j).length
   ·rw[if_pos hr]at hs
    exact⟨_,by simp[qly,qk2,qk1,qk0,qie,qic,qib,qqK,qqI,ql1,qqJ,qfe,qid,qfd,hj,hw,cut,qaS hj,hr,qaH hr,hx];rfl,by simp[qac,qaa,hs]⟩
   ·rw[if_neg hr]at hs
    exact⟨_,by simp[qly,qk2,qk1,qk0,qie,qic,qib,qqK,qqI,ql1,qqJ,qfe,qid,qfd,hj,hw,cut,qaS hj,hr,hx];rfl,by simp[qac,qaa,hs]⟩)
  ps.length () 0 ⟨[(0,.d (iss .sub ps)),(1,.d (.int .i64 n)),(5,.d acc),(6,.d (.int .i64 i)),(7,.d (.int .i64 (iAt (qfz m ps 0) i))),(8,.d (.int .i64 0))],[]⟩ (by omega) (by simp[qac,qaa])
 rw[qgx]at h;have h0:iAt (qfz m ps 0) i=0:=by simp[qfz,iAt,hi]
 rw[h0]at h;exact h
theorem qrO(ps:List (List Int))(n:Int)(hl:ps.length<=1099511627776):qau XV 213 [.d (iss .sub ps),.d (.int .i64 n)] []=some (.d (ints U (qqg ps n)),[]):=by
 rw[qax XV _ _ _ qz3 rfl qtB rfl]
 by_cases hn:1<=n/\n<=1000
 ·have hs:qqg ps n=qfz n.toNat ps ps.length:=by unfold qqg;rw[if_pos hn]
  rw[hs];obtain⟨m,rfl⟩:∃m:Nat,n=m:=⟨n.toNat,by omega⟩;simp only[Int.toNat_natCast];have hm:m<=1000:=by omega
  have hm2:(m:Int)<=1000:=by omega
  have hlen:=qfy m ps ps.length;have hloop:=qas (X:=XV) (T:=[4,5,9,41,43,44,45]) (L:=0) (live:=[0,1,5,6]) (b:=qjV) (n:=m) (γ:=Unit) (st:=fun(_:Unit) i=>⟨[(0,.d (iss .sub ps)),(1,.d (.int .i64 m)),(5,.d (.sl U (((qfz m ps ps.length).take i).map (.int .i64)))),(6,.d (.int .i64 i))],[]⟩) (step:=fun _ _=> .inl ())
   (F:=fun _=>(.exit 0,⟨[(0,.d (iss .sub ps)),(1,.d (.int .i64 m)),(5,.d (.sl U (((qfz m ps ps.length).take m).map (.int .i64)))),(6,.d (.int .i64 m)),(16,.d (.bool false))],[]⟩)) (R:=fun _=>(.ret,⟨[],[]⟩))
   (fun _=>⟨by simp,by simp[qjV,qie,qid,qic,qib,qfe]⟩)
   (fun _ i hi=>by
    have hw:=qah (n:=i) (by omega);have hcol:=qt8 m m ps (.sl U (((qfz m ps ps.length).take i).map (.int .i64))) i hi (by omega);have happ:=qec ((qfz m ps ps.length).take i) [iAt (qfz m ps ps.length) i] U (by simp;omega);rw[<-qlP _ _ (by omega)]at happ;generalize qfz m ps ps.length=g at hcol happ hlen⊢
    simp only[List.map_cons,List.map_nil]at happ;generalize hx:iAt g i=x at hcol happ;generalize h1:(g.take i).map (DV.int .i64)=l1 at hcol happ⊢
    generalize h2:(g.take (i+1)).map (DV.int .i64)=l2 at happ;exact⟨⟨[(0,.d (iss .sub ps)),(1,.d (.int .i64 m)),(5,.d (.sl U l2)),(6,.d (.int .i64 (i+1:Nat)))],[]⟩,by
     simp[qjV,qie,qid,qic,qib,qfe,hi,hw,hm2];rw[hcol];simp[happ,hw],by simp[qac,qaa,h2]⟩)
   m () 0 ⟨[(0,.d (iss .sub ps)),(1,.d (.int .i64 m)),(5,.d (.sl U [])),(6,.d (.int .i64 0))],[]⟩ (by omega) (by simp[qac,qaa])
  rw[qgx,List.take_of_length_le (by omega)]at hloop;generalize qfz m ps ps.length=g at hloop⊢
  simp[qz3,qk2,qk1,qk0,qfd];rw[hloop];simp[qfd]
 ·have hs:qqg ps n=[]:=by unfold qqg;rw[if_neg hn]
  rw[hs];have hloop:=qas (X:=XV) (T:=[4,5,9,41,43,44,45]) (L:=0) (live:=[0,1,5,6]) (b:=qjV) (n:=0) (γ:=Unit) (st:=fun(_:Unit) i=>⟨[(0,.d (iss .sub ps)),(1,.d (.int .i64 n)),(5,.d (.sl U [])),(6,.d (.int .i64 i))],[]⟩) (step:=fun _ _=> .inl ())
   (F:=fun _=>(.exit 0,⟨[(0,.d (iss .sub ps)),(1,.d (.int .i64 n)),(5,.d (.sl U [])),(6,.d (.int .i64 0)),(16,.d (.bool false))],[]⟩)) (R:=fun _=>(.ret,⟨[],[]⟩))
   (fun _=>⟨by simp,by
    by_cases h0:(0:Int)<n
    ·have h1:¬n<=1000:=by omega
     simp[qjV,qie,qid,qic,qib,qfe,h0,h1]
    ·simp[qjV,qie,qid,qic,qib,qfe,h0]⟩)
   (fun _ i hi=>by omega)
   0 () 0 ⟨[(0,.d (iss .sub ps)),(1,.d (.int .i64 n)),(5,.d (.sl U [])),(6,.d (.int .i64 0))],[]⟩ (by omega) (by simp[qac,qaa])
  rw[qgx]at hloop;simp[qz3,qk2,qk1,qk0,qfd];rw[hloop];simp[qfd]
end Go.Proofs.Ytpcoohnjllclnaa.VS
namespace Go.Proofs.Ytpcoohnjllclnaa.VS
def qqk(l:List Int)(m:Int)(i:Nat):Int⊕Unit:= .inl (if iAt l i>m then iAt l i else m)
def mxF(l:List Int):Nat->Nat->Int->Int
 |_,0,m=>m
 |i,k+1,m=>mxF l (i+1) k (if iAt l i>m then iAt l i else m)
theorem qAi(l:List Int):∀(k i:Nat) (m:Int),runN (qqk l) k m i= .inl (mxF l i k m)
 |0,i,m=>rfl
 |k+1,i,m=>by simp only[runN,qqk,mxF];exact qAi l k (i+1) _
def qgg(l:List Int):Int:=mxF l 1 (l.length-1) (iAt l 0)
def qEk(l:List Int):Int:=mxF l 0 l.length 0
theorem qu5(l:List Int)(hl:l.length<=1099511627776)(h0:0<l.length):qau XV 223 [.d (is l)] []=some (.d (.int .i64 (qgg l)),[]):=by
 rw[qax XV _ _ _ qzX rfl qtt rfl];have h:=qas (X:=XV) (T:=XV.lin 223) (L:=0) (live:=[0,3,4]) (b:=qrk) (n:=l.length) (γ:=Unit) (st:=fun(m:Int) i=>⟨[(0,.d (is l)),(3,.d (.int .i64 m)),(4,.d (.int .i64 i))],[]⟩) (step:=qqk l)
  (F:=fun m=>(.exit 0,⟨[(0,.d (is l)),(3,.d (.int .i64 m)),(4,.d (.int .i64 l.length)),(15,.d (.bool false))],[]⟩)) (R:=fun _=>(.ret,⟨[],[]⟩))
  (fun _=>⟨by simp,by simp[qrk,qno,qnn,qnm,qnl,qnk,qnj,qnh,qni,qng]⟩)
  (fun m i hi=>by
   have hw:=qah (n:=i) (by omega);exact⟨_,by simp[qrk,qno,qnn,qnm,qnl,qnk,qnj,qnh,qni,qng,hi,hw,cut,qaH hi];rfl,by simp[qac,qaa]⟩)
  (l.length-1) (iAt l 0) 1 ⟨[(0,.d (is l)),(3,.d (.int .i64 (iAt l 0))),(4,.d (.int .i64 1))],[]⟩ (by omega) (by simp[qac,qaa])
 rw[qAi]at h;simp only[qAI]at h;have h1:¬((l.length:Int)<1):=by omega
 have h2:(0:Int)<l.length:=by omega
 simp[qzX,qno,qnn,qnm,qnl,qnk,qnj,qnh,qni,qng,h1,h0,h2,cut,qaH h0];rw[h];simp[qzX,qno,qnn,qnm,qnl,qnk,qnj,qnh,qni,qng,qgg]
theorem qxA(x y:Int):qau XV 221 [.d (.int .i64 x),.d (.int .i64 y)] []=some (.d (.int .i64 (if y>x then y else x)),[]):=by
 rw[qax XV _ _ _ qzZ rfl qtv rfl]
 by_cases h:x>y
 ·rw[if_neg (by omega)]
  have:y<x:=h;simp[qzZ,quA,quz,quy,qux,this]
 ·have h':¬y<x:=h
  simp[qzZ,quA,quz,quy,qux,h'];intro;omega
theorem qyn(l:List Int)(hl:l.length<=1099511627776):qau XV 219 [.d (is l)] []=some (.d (.int .i64 (qEk l)),[]):=by
 rw[qax XV _ _ _ qz0 rfl qtw rfl];have h:=qas (X:=XV) (T:=XV.lin 219) (L:=0) (live:=[0,3,4]) (b:=qrm) (n:=l.length) (γ:=Unit) (st:=fun(m:Int) i=>⟨[(0,.d (is l)),(3,.d (.int .i64 m)),(4,.d (.int .i64 i))],[]⟩) (step:=qqk l)
  (F:=fun m=>(.exit 0,⟨[(0,.d (is l)),(3,.d (.int .i64 m)),(4,.d (.int .i64 l.length)),(8,.d (.bool false))],[]⟩)) (R:=fun _=>(.ret,⟨[],[]⟩))
  (fun _=>⟨by simp,by simp[qrm,qnv,qnu,qnt,qns,qnq,qnr,qnp]⟩)
  (fun m i hi=>by
   have hw:=qah (n:=i) (by omega);have hc:=qxA m (iAt l i);exact⟨_,by simp[qrm,qnv,qnu,qnt,qns,qnq,qnr,qnp,hi,hw,cut,qaH hi,hc];rfl,by simp[qac,qaa]⟩)
  l.length 0 0 ⟨[(0,.d (is l)),(3,.d (.int .i64 0)),(4,.d (.int .i64 0))],[]⟩ (by omega) (by simp[qac,qaa])
 rw[qAi]at h;simp only[qAJ]at h;simp[qz0,qnv,qnu,qnt,qns,qnq,qnr,qnp];rw[h];simp[qz0,qnv,qnu,qnt,qns,qnq,qnr,qnp,qEk]
def qjy(l:List Int)(i:Nat):Bool:= !inB (iAt l i) 1 4
def qbD(l:List Int):Bool:=(qaw (qjy l) l.length 0).isNone&&inB l.length 1 5
theorem qAx(n:Int):qau XV 230 [.d (.int .i64 n)] []=some (.d (.bool (!inB n 1 4)),[]):=by
 rw[qax XV _ _ _ qBF rfl qtp rfl];have h:=qpG n 1 4;simp[qBF,qyt,qys,h]
theorem qpz(l:List Int)(hl:l.length<=1099511627776):qau XV 47 [.d (is l),.fn 230 []] []=some (.d (.int .i64 (qiv (qaw (qjy l) l.length 0))),[]):=by
 rw[qax XV _ _ _ v47 rfl qp4 rfl];have h:=qas (X:=XV) (T:=XV.lin 47) (L:=0) (live:=[0,1,7,8]) (b:=qmB) (n:=l.length) (γ:=Nat) (st:=fun(_:Unit) i=>⟨[(0,.d (is l)),(1,.fn 230 []),(7,.d (.int .i64 l.length)),(8,.d (.int .i64 i))],[]⟩) (step:=qeW (qjy l))
  (F:=fun _=>(.exit 0,⟨[(0,.d (is l)),(1,.fn 230 []),(7,.d (.int .i64 l.length)),(8,.d (.int .i64 l.length)),(9,.d (.bool false))],[]⟩)) (R:=fun(j:Nat)=>(.ret,⟨[(4,.d (.int .i64 j))],[]⟩))
  (fun _=>⟨by simp,by simp[qmB,qji,qjh,qjg,qjf,qje,qjd,qjc,qjb]⟩)
  (fun _ i hi=>by
   have hw:=qah (n:=i) (by omega);have hc:=qAx (iAt l i);unfold qeW qjy;cases hn:inB (iAt l i) 1 4 with
   |false=>
    rw[hn]at hc;simp only[Bool.not_false,if_true]at hc⊢
    exact⟨by simp,by simp[qmB,qji,qjh,qjg,qjf,qje,qjd,qjc,qjb,hi,hw,cut,qaH hi,hc]⟩
   |true=>
    rw[hn]at hc;simp only[Bool.not_true]at hc⊢
    exact⟨_,by simp[qmB,qji,qjh,qjg,qjf,qje,qjd,qjc,qjb,hi,hw,cut,qaH hi,hc];rfl,by simp[qac,qaa]⟩)
  l.length () 0 ⟨[(0,.d (is l)),(1,.fn 230 []),(7,.d (.int .i64 l.length)),(8,.d (.int .i64 0))],[]⟩ (by omega) (by simp[qac,qaa])
 rw[qxm]at h;simp only[qy0]at h;simp[v47,qji,qjh,qjg,qjf,qje,qjd,qjc,qjb];rw[h];cases hq:qaw (qjy l) l.length 0<;>simp[qiv,v47,qji,qjh,qjg,qjf,qje,qjd,qjc,qjb]
theorem qkk(l:List Int)(hl:l.length<=1099511627776):qau XV 45 [.d (is l),.fn 230 []] []=some (.d (.bool (!(qaw (qjy l) l.length 0).isNone)),[]):=by
 rw[qax XV _ _ _ v45 rfl qp5 rfl];have h:=qpz l hl;cases hq:qaw (qjy l) l.length 0 with
 |none=>rw[hq]at h;simp[v45,qus,qur,h,qiv]
 |some j=>rw[hq]at h;simp[v45,qus,qur,h,qiv]
theorem qqn(l:List Int)(hl:l.length<=1099511627776):qau XV 222 [.d (is l)] []=some (.d (.bool (qbD l)),[]):=by
 rw[qax XV _ _ _ qzY rfl qtu rfl];have h1:=qpG (l.length:Int) 1 5;have h2:=qkk l hl;unfold qbD;cases hq:inB (l.length:Int) 1 5 with
 |false=>rw[hq]at h1;simp[qzY,quw,quv,h1]
 |true=>rw[hq]at h1;simp[qzY,quw,quv,h1,h2]
theorem qvG(l:List Int)(hl:l.length<=1099511627776):qau XV 217 [.d (is l)] []=some (.d (.bool (qbD l)),[]):=by
 rw[qax XV _ _ _ qz2 rfl qty rfl];have h:=qas (X:=XV) (T:=XV.lin 217) (L:=0) (live:=[0,3]) (b:=qoA) (n:=l.length) (γ:=Nat) (st:=fun(_:Unit) i=>⟨[(0,.d (is l)),(3,.d (.int .i64 i))],[]⟩) (step:=qeW (qjy l))
  (F:=fun _=>(.exit 0,⟨[(0,.d (is l)),(3,.d (.int .i64 l.length)),(7,.d (.bool false))],[]⟩)) (R:=fun(j:Nat)=>(.ret,⟨[(2,.d (.bool false))],[]⟩))
  (fun _=>⟨by simp,by simp[qoA,qkW,qkV,qkU,qkS,qkR,qkT,qkQ]⟩)
  (fun _ i hi=>by
   have hw:=qah (n:=i) (by omega);have hc:=qvj (iAt l i) 1 4;unfold qeW qjy;cases hn:inB (iAt l i) 1 4 with
   |false=>
    rw[hn]at hc;simp only[Bool.not_false,if_true];exact⟨by simp,by simp[qoA,qkW,qkV,qkU,qkS,qkR,qkT,qkQ,hi,hw,cut,qaH hi,hc]⟩
   |true=>
    rw[hn]at hc;simp only[Bool.not_true];exact⟨_,by simp[qoA,qkW,qkV,qkU,qkS,qkR,qkT,qkQ,hi,hw,cut,qaH hi,hc];rfl,by simp[qac,qaa]⟩)
  l.length () 0 ⟨[(0,.d (is l)),(3,.d (.int .i64 0))],[]⟩ (by omega) (by simp[qac,qaa])
 rw[qxm]at h;simp only[qAK]at h;have h1:=qvj (l.length:Int) 1 5;unfold qbD;simp[qz2,qkW,qkV,qkU,qkS,qkR,qkT,qkQ];rw[h];cases hq:qaw (qjy l) l.length 0<;>simp[qz2,qkW,qkV,qkU,qkS,qkR,qkT,qkQ,h1]
end Go.Proofs.Ytpcoohnjllclnaa.VS
namespace Go.Proofs.Ytpcoohnjllclnaa.VS
def ways:Nat->Nat->List (List Int)
 |0,_=>[[]]
 |n+1,m=>(List.range (m+1)).flatMap fun k=>(ways n (m-k)).map fun r=>(k:Int)::r
def qcJ(n m k:Nat):List (List Int):=(List.range k).flatMap fun j=>(ways n (m-j)).map fun r=>(j:Int)::r
theorem qeA(n m k:Nat):qcJ n m (k+1)=qcJ n m k++(ways n (m-k)).map fun r=>(k:Int)::r:=by
 unfold qcJ;rw[List.range_succ,List.flatMap_append];simp
theorem qgk(L:List (List Int))(h g t:Tag)(r:List Int)(hl:(L.length+1)*24<=140737488355328):qaC 1 24 (.sl U (L.map (ints h))) (.sl t [ints g r])=some (.sl U (L.map (ints h)++[ints g r])):=by
 have h2:∀x:DV,x∈L.map (ints h)->x.cells.length=1:=fun x hx=>(qsc h L x hx).1
 have h3:(ints g r).cells=[ints g r]:=rfl;have h4:(ints g r).isCell=true:=rfl;simp only[qaC,List.all_cons,List.all_nil,h3,h4,List.length_map,List.length_cons,List.length_nil];simp[hl]
theorem qwt(k:Int)(r:List Int)(g:Tag)(hr:r.length<=1099511627776):qaC 1 8 (.sl U [.int .i64 k]) (.sl g (r.map (.int .i64)))=some (.sl U ((k::r).map (.int .i64))):=by
 have h:(1+r.length)*8<=140737488355328:=by omega
 simp only[qaC,List.length_map,List.length_cons,List.length_nil];cases r with
 |nil=>simp
 |cons a b=>simp[qes,qam];simp at h;omega
theorem qcI:∀n m,n<=5->m<=4->(ways n m).length<=126:=by
 have:∀n,n<6->∀m,m<5->(ways n m).length<=126:=by decide+kernel
 intro n m h1 h2;exact this n (by omega) m (by omega)
theorem qdA:∀(n m:Nat) (r:List Int),r∈ways n m->r.length=n
 |0,m,r,h=>by simp[ways]at h;subst h;rfl
 |n+1,m,r,h=>by
  simp only[ways,List.mem_flatMap,List.mem_map]at h;obtain⟨k,_,r',h',rfl⟩:=h;simp[qdA n _ r' h']
theorem qku(n m k:Nat)(hn:n<=4)(hm:m<=4)(hk:k<=m+1):(qcJ n m k).length<=126*k:=by
 induction k with
 |zero=>simp[qcJ]
 |succ k ih=>
  rw[qeA,List.length_append,List.length_map];have:=ih (by omega);have:=qcI n (m-k) (by omega) (by omega);omega
def qkB(k:Int)(rows:List (List Int))(acc:List (List Int))(i:Nat):List (List Int)⊕Unit:= .inl (acc++[k::rAt rows i])
theorem qAg(k:Int)(rows:List (List Int)):∀(j:Nat) (acc:List (List Int)),j<=rows.length->runN (qkB k rows) j acc (rows.length-j)= .inl (acc++(rows.drop (rows.length-j)).map fun r=>k::r)
 |0,acc,_=>by simp[runN]
 |j+1,acc,h=>by
  simp only[runN,qkB];have hi:rows.length-(j+1)<rows.length:=by omega
  rw[show rows.length-(j+1)+1=rows.length-j by omega,qAg k rows j _ (by omega),List.drop_eq_getElem_cons hi,qaS hi];rw[show rows.length-(j+1)+1=rows.length-j by omega];simp
def qkA(n m:Nat)(acc:List (List Int))(k:Nat):List (List Int)⊕Unit:= .inl (acc++(ways n (m-k)).map fun r=>(k:Int)::r)
theorem qAf(n m:Nat):∀(j k:Nat),runN (qkA n m) j (qcJ n m k) k= .inl (qcJ n m (k+j))
 |0,k=>rfl
 |j+1,k=>by
  simp only[runN,qkA];rw[<-qeA,qAf n m j (k+1)]
  congr 2;omega
theorem qt6(n m k:Nat)(rows acc:List (List Int))(hr:rows.length<=1000)(ha:acc.length<=1000000)(hrl:∀i,i<rows.length->(rAt rows i).length<=1000):
 qdl XV (XV.lin 224) 0 [0,1,5,6,24,25,26] qoy ⟨[(0,.d (.int .i64 n)),(1,.d (.int .i64 m)),(5,.d (iss U acc)),(6,.d (.int .i64 k)),(24,.d (iss .sub rows)),(25,.d (.int .i64 rows.length)),(26,.d (.int .i64 0))],[]⟩=
  some (.exit 2,⟨[(0,.d (.int .i64 n)),(1,.d (.int .i64 m)),(5,.d (iss U (acc++rows.map fun r=>(k:Int)::r))),(6,.d (.int .i64 k)),(24,.d (iss .sub rows)),(25,.d (.int .i64 rows.length)),(26,.d (.int .i64 rows.length)),(27,.d (.bool false))],[]⟩):=by
 have h:=qbC (X:=XV) (T:=XV.lin 224) (L:=0) (live:=[0,1,5,6,24,25,26]) (b:=qoy) (n:=rows.length) (γ:=Unit) (st:=fun(A:List (List Int)) i=>⟨[(0,.d (.int .i64 n)),(1,.d (.int .i64 m)),(5,.d (iss U A)),(6,.d (.int .i64 k)),(24,.d (iss .sub rows)),(25,.d (.int .i64 rows.length)),(26,.d (.int .i64 i))],[]⟩) (step:=qkB k rows)
  (F:=fun A=>(.exit 2,⟨[(0,.d (.int .i64 n)),(1,.d (.int .i64 m)),(5,.d (iss U A)),(6,.d (.int .i64 k)),(24,.d (iss .sub rows)),(25,.d (.int .i64 rows.length)),(26,.d (.int .i64 rows.length)),(27,.d (.bool false))],[]⟩)) (R:=fun _=>(.ret,⟨[],[]⟩))
  (fun A i=>A.length<=1000000+i)
  (fun A _=>⟨by simp,by simp[qoy,qhQ,qhP,qhO,qhN,qhM,qhL,qhJ,qhI,qhH,qe4,qe3,qhK,qe2]⟩)
  (fun A i hi hinv=>by
   have hw:=qah (n:=i) (by omega);have h1:=qwt k (rAt rows i) .sub (by have:=hrl i hi;omega);have h2:qaC 1 24 (iss U A) (.sl U [.sl U (.int .i64 (k:Int)::(rAt rows i).map (.int .i64))])=some (iss U (A++[(k:Int)::rAt rows i])):=by
    have:=qgk A U U U ((k:Int)::rAt rows i) (by omega);rw[show iss U (A++[(k:Int)::rAt rows i])= .sl U (A.map (ints U)++[ints U ((k:Int)::rAt rows i)])by simp[iss]];exact this
   refine⟨⟨_,by simp[qoy,qhQ,qhP,qhO,qhN,qhM,qhL,qhJ,qhI,qhH,qe4,qe3,qhK,qe2,hi,hw,cut,qaS hi,h1,h2];rfl,by simp[qac,qaa]⟩,fun a' h=>by simp[qkB]at h;subst h;simp;omega⟩)
  rows.length acc 0 ⟨[(0,.d (.int .i64 n)),(1,.d (.int .i64 m)),(5,.d (iss U acc)),(6,.d (.int .i64 k)),(24,.d (iss .sub rows)),(25,.d (.int .i64 rows.length)),(26,.d (.int .i64 0))],[]⟩ (by omega) (by omega) (by simp[qac,qaa])
 have hr':=qAg k rows rows.length acc (Nat.le_refl _);rw[Nat.sub_self]at hr';rw[hr']at h;simpa using h
end Go.Proofs.Ytpcoohnjllclnaa.VS
namespace Go.Proofs.Ytpcoohnjllclnaa.VS
theorem qtW(n m k:Nat)(rows acc:List (List Int))(hr:rows.length<=1000)(ha:acc.length<=1000000)(hrl:∀i,i<rows.length->(rAt rows i).length<=1000):
 qdl XV (XV.lin 220) 0 [0,1,5,6,7,8] qoz ⟨[(0,.d (.int .i64 n)),(1,.d (.int .i64 m)),(5,.d (iss U acc)),(6,.d (.int .i64 k)),(7,.d (iss .sub rows)),(8,.d (.int .i64 0))],[]⟩=
  some (.exit 2,⟨[(0,.d (.int .i64 n)),(1,.d (.int .i64 m)),(5,.d (iss U (acc++rows.map fun r=>(k:Int)::r))),(6,.d (.int .i64 k)),(7,.d (iss .sub rows)),(8,.d (.int .i64 rows.length)),(28,.d (.bool false))],[]⟩):=by
 have h:=qbC (X:=XV) (T:=XV.lin 220) (L:=0) (live:=[0,1,5,6,7,8]) (b:=qoz) (n:=rows.length) (γ:=Unit) (st:=fun(A:List (List Int)) i=>⟨[(0,.d (.int .i64 n)),(1,.d (.int .i64 m)),(5,.d (iss U A)),(6,.d (.int .i64 k)),(7,.d (iss .sub rows)),(8,.d (.int .i64 i))],[]⟩) (step:=qkB k rows)
  (F:=fun A=>(.exit 2,⟨[(0,.d (.int .i64 n)),(1,.d (.int .i64 m)),(5,.d (iss U A)),(6,.d (.int .i64 k)),(7,.d (iss .sub rows)),(8,.d (.int .i64 rows.length)),(28,.d (.bool false))],[]⟩)) (R:=fun _=>(.ret,⟨[],[]⟩))
  (fun A i=>A.length<=1000000+i)
  (fun A _=>⟨by simp,by simp[qoz,qh0,qhZ,qhY,qhX,qhW,qhV,qhT,qhS,qhR,qe6,qe7,qhU,qe5]⟩)
  (fun A i hi hinv=>by
   have hw:=qah (n:=i) (by omega);have h1:=qwt k (rAt rows i) .sub (by have:=hrl i hi;omega);have h2:qaC 1 24 (iss U A) (.sl U [.sl U (.int .i64 (k:Int)::(rAt rows i).map (.int .i64))])=some (iss U (A++[(k:Int)::rAt rows i])):=by
    have:=qgk A U U U ((k:Int)::rAt rows i) (by omega);rw[show iss U (A++[(k:Int)::rAt rows i])= .sl U (A.map (ints U)++[ints U ((k:Int)::rAt rows i)])by simp[iss]];exact this
   refine⟨⟨_,by simp[qoz,qh0,qhZ,qhY,qhX,qhW,qhV,qhT,qhS,qhR,qe6,qe7,qhU,qe5,hi,hw,cut,qaS hi,h1,h2];rfl,by simp[qac,qaa]⟩,fun a' h=>by simp[qkB]at h;subst h;simp;omega⟩)
  rows.length acc 0 ⟨[(0,.d (.int .i64 n)),(1,.d (.int .i64 m)),(5,.d (iss U acc)),(6,.d (.int .i64 k)),(7,.d (iss .sub rows)),(8,.d (.int .i64 0))],[]⟩ (by omega) (by omega) (by simp[qac,qaa])
 have hr':=qAg k rows rows.length acc (Nat.le_refl _);rw[Nat.sub_self]at hr';rw[hr']at h;simpa using h
theorem qiY(n m i:Nat)(hi:i<(ways n m).length):(rAt (ways n m) i).length=n:=by
 rw[<-qaS hi];exact qdA n m _ (List.getElem_mem hi)
theorem qo6:∀(n m:Nat),n<=5->m<=4->qau XV 224 [.d (.int .i64 n),.d (.int .i64 m)] []=some (.d (iss U (ways n m)),[])
 |0,m,_,_=>by
  rw[qax XV _ _ _ qw5 rfl qmM rfl];simp[qw5,qhQ,qhP,qhO,qhN,qhM,qhL,qhJ,qhI,qhH,qe4,qe3,qhK,qe2,ways]
 |n+1,m,hn,hm=>by
  rw[qax XV _ _ _ qw5 rfl qmM rfl];have h:=qbC (X:=XV) (T:=XV.lin 224) (L:=0) (live:=[0,1,5,6]) (b:=qrj) (n:=m+1) (γ:=Unit) (st:=fun(A:List (List Int)) k=>⟨[(0,.d (.int .i64 (n+1:Nat))),(1,.d (.int .i64 m)),(5,.d (iss U A)),(6,.d (.int .i64 k))],[]⟩) (step:=qkA n m)
   (F:=fun A=>(.exit 0,⟨[(0,.d (.int .i64 (n+1:Nat))),(1,.d (.int .i64 m)),(5,.d (iss U A)),(6,.d (.int .i64 (m+1:Nat))),(16,.d (.bool false))],[]⟩)) (R:=fun _=>(.ret,⟨[],[]⟩))
   (fun A k=>A=qcJ n m k)
   (fun A _=>⟨by simp,by
    have:¬((m:Int)+1<=m):=by omega
    simp[qrj,qhQ,qhP,qhO,qhN,qhM,qhL,qhJ,qhI,qhH,qe4,qe3,qhK,qe2,this]⟩)
   (fun A k hk hinv=>by
    subst hinv;have hw:=qah (n:=k) (by omega);have hkm:(k:Int)<=m:=by omega
    have hw1:IntKind.i64.wrap ((m:Int)-k)=((m-k:Nat):Int):=by rw[wrap_i64 (by omega) (by omega)];omega
    have hwn:IntKind.i64.wrap (n:Int)=n:=wrap_i64 (by omega) (by omega);have ih:=qo6 n (m-k) (by omega) (by omega);have hW:=qku n m k (by omega) hm (by omega);have hl:=qcI n (m-k) (by omega) (by omega);have hI:=qt6 (n+1) m k (ways n (m-k)) (qcJ n m k) (by omega) (by omega) (fun i hi=>by rw[qiY n _ i hi];omega);simp only[qvb]at hI
    push_cast at hI
    refine⟨⟨_,by simp[qrj,qhQ,qhP,qhO,qhN,qhM,qhL,qhJ,qhI,qhH,qe4,qe3,qhK,qe2,hw,hw1,hwn,hkm,ih,hI];rfl,by simp[qac,qaa]⟩,fun a' h=>by simp[qkA]at h;subst h;rw[qeA]⟩)
   (m+1) (qcJ n m 0) 0 ⟨[(0,.d (.int .i64 (n+1:Nat))),(1,.d (.int .i64 m)),(5,.d (iss U (qcJ n m 0))),(6,.d (.int .i64 0))],[]⟩ (by omega) rfl (by simp[qac,qaa])
  have hr:=qAf n m (m+1) 0;rw[hr]at h;simp only[qvb]at h;have h0:(((n:Int)+1)==0)=false:=by simp;omega
  have hz:qcJ n m 0=[]:=rfl;rw[hz]at h;have hz2:iss U ([]:List (List Int))=DV.sl U []:=rfl;rw[hz2]at h;simp at h;simp[qw5,qhQ,qhP,qhO,qhN,qhM,qhL,qhJ,qhI,qhH,qe4,qe3,qhK,qe2,h0];rw[h];simp[qw5,qhQ,qhP,qhO,qhN,qhM,qhL,qhJ,qhI,qhH,qe4,qe3,qhK,qe2,ways,qcJ]
theorem qo3:∀(n m:Nat),n<=5->m<=4->qau XV 220 [.d (.int .i64 n),.d (.int .i64 m)] []=some (.d (iss U (ways n m)),[])
 |0,m,_,_=>by
  rw[qax XV _ _ _ qw6 rfl qmN rfl];simp[qw6,qh0,qhZ,qhY,qhX,qhW,qhV,qhT,qhS,qhR,qe6,qe7,qhU,qe5,ways]
 |n+1,m,hn,hm=>by
  rw[qax XV _ _ _ qw6 rfl qmN rfl];have h:=qbC (X:=XV) (T:=XV.lin 220) (L:=0) (live:=[0,1,5,6]) (b:=qrl) (n:=m+1) (γ:=Unit) (st:=fun(A:List (List Int)) k=>⟨[(0,.d (.int .i64 (n+1:Nat))),(1,.d (.int .i64 m)),(5,.d (iss U A)),(6,.d (.int .i64 k))],[]⟩) (step:=qkA n m)
   (F:=fun A=>(.exit 0,⟨[(0,.d (.int .i64 (n+1:Nat))),(1,.d (.int .i64 m)),(5,.d (iss U A)),(6,.d (.int .i64 (m+1:Nat))),(16,.d (.bool false))],[]⟩)) (R:=fun _=>(.ret,⟨[],[]⟩))
   (fun A k=>A=qcJ n m k)
   (fun A _=>⟨by simp,by
    have:¬((m:Int)+1<=m):=by omega
    simp[qrl,qh0,qhZ,qhY,qhX,qhW,qhV,qhT,qhS,qhR,qe6,qe7,qhU,qe5,this]⟩)
   (fun A k hk hinv=>by
    subst hinv;have hw:=qah (n:=k) (by omega);have hkm:(k:Int)<=m:=by omega
    have hw1:IntKind.i64.wrap ((m:Int)-k)=((m-k:Nat):Int):=by rw[wrap_i64 (by omega) (by omega)];omega
    have hwn:IntKind.i64.wrap (n:Int)=n:=wrap_i64 (by omega) (by omega);have ih:=qo3 n (m-k) (by omega) (by omega);have hW:=qku n m k (by omega) hm (by omega);have hl:=qcI n (m-k) (by omega) (by omega);have hI:=qtW (n+1) m k (ways n (m-k)) (qcJ n m k) (by omega) (by omega) (fun i hi=>by rw[qiY n _ i hi];omega);simp only[qvc]at hI
    push_cast at hI
    refine⟨⟨_,by simp[qrl,qh0,qhZ,qhY,qhX,qhW,qhV,qhT,qhS,qhR,qe6,qe7,qhU,qe5,hw,hw1,hwn,hkm,ih,hI];rfl,by simp[qac,qaa]⟩,fun a' h=>by simp[qkA]at h;subst h;rw[qeA]⟩)
   (m+1) (qcJ n m 0) 0 ⟨[(0,.d (.int .i64 (n+1:Nat))),(1,.d (.int .i64 m)),(5,.d (iss U (qcJ n m 0))),(6,.d (.int .i64 0))],[]⟩ (by omega) rfl (by simp[qac,qaa])
  have hr:=qAf n m (m+1) 0;rw[hr]at h;simp only[qvc]at h;have h0:(((n:Int)+1)==0)=false:=by simp;omega
  have hz:qcJ n m 0=[]:=rfl;rw[hz]at h;have hz2:iss U ([]:List (List Int))=DV.sl U []:=rfl;rw[hz2]at h;simp at h;simp[qw6,qh0,qhZ,qhY,qhX,qhW,qhV,qhT,qhS,qhR,qe6,qe7,qhU,qe5,h0];rw[h];simp[qw6,qh0,qhZ,qhY,qhX,qhW,qhV,qhT,qhS,qhR,qe6,qe7,qhU,qe5,ways,qcJ]
end Go.Proofs.Ytpcoohnjllclnaa.VS
namespace Go.Proofs.Ytpcoohnjllclnaa.VS
def qcT(x y:List Int)(b:Bool)(i:Nat):Bool⊕Unit:=if iAt y i<iAt x i then .inr ()else .inl (b||decide (iAt x i<iAt y i))
def qdd(x y:List Int):Bool:=match runN (qcT x y) x.length false 0 with| .inl b=>b| .inr _=>false
theorem qfi(x y:List Int)(hx:x.length<=1099511627776)(hxy:x.length=y.length):qau XV 51 [.d (is x),.d (is y)] []=some (.d (.bool (qdd x y)),[]):=by
 rw[qax XV _ _ _ v51 rfl qp2 rfl];have h:=qas (X:=XV) (T:=XV.lin 51) (L:=0) (live:=[0,1,5,13,14]) (b:=qsZ) (n:=x.length) (γ:=Unit) (st:=fun(b:Bool) i=>⟨[(0,.d (is x)),(1,.d (is y)),(5,.d (.bool b)),(13,.d (.int .i64 x.length)),(14,.d (.int .i64 i))],[]⟩) (step:=qcT x y)
  (F:=fun b=>(.exit 0,⟨[(0,.d (is x)),(1,.d (is y)),(5,.d (.bool b)),(13,.d (.int .i64 x.length)),(14,.d (.int .i64 x.length)),(15,.d (.bool false))],[]⟩)) (R:=fun _=>(.ret,⟨[(4,.d (.bool false))],[]⟩))
  (fun _=>⟨by simp,by simp[qsZ,qnf,qne,qnd,qnc,qnb,qna,qm9,qpO,qm8,qpN,qhG,qhF]⟩)
  (fun b i hi=>by
   have hw:=qah (n:=i) (by omega);have hi2:i<y.length:=by omega
   unfold qcT
   by_cases h1:iAt y i<iAt x i
   ·simp only[h1,if_true]
    exact⟨by simp,by simp[qsZ,qnf,qne,qnd,qnc,qnb,qna,qm9,qpO,qm8,qpN,qhG,qhF,hi,hi2,hw,cut,qaH hi,qaH hi2,h1]⟩
   ·simp only[h1,if_false]
    cases b with
    |true=>exact⟨_,by simp[qsZ,qnf,qne,qnd,qnc,qnb,qna,qm9,qpO,qm8,qpN,qhG,qhF,hi,hi2,hw,cut,qaH hi,qaH hi2,h1];rfl,by simp[qac,qaa]⟩
    |false=>exact⟨_,by simp[qsZ,qnf,qne,qnd,qnc,qnb,qna,qm9,qpO,qm8,qpN,qhG,qhF,hi,hi2,hw,cut,qaH hi,qaH hi2,h1];rfl,by simp[qac,qaa]⟩)
  x.length false 0 ⟨[(0,.d (is x)),(1,.d (is y)),(5,.d (.bool false)),(13,.d (.int .i64 x.length)),(14,.d (.int .i64 0))],[]⟩ (by omega) (by simp[qac,qaa])
 simp only[qDo]at h;unfold qdd;have hne:((x.length:Int) !=y.length)=false:=by simp;omega
 simp[v51,qnf,qne,qnd,qnc,qnb,qna,qm9,qpO,qm8,qpN,qhG,qhF,hne];rw[h];cases runN (qcT x y) x.length false 0<;>simp[v51,qnf,qne,qnd,qnc,qnb,qna,qm9,qpO,qm8,qpN,qhG,qhF]
theorem qeZ(x y:List Int)(hx:x.length<=1099511627776)(hxy:x.length=y.length):qau XV 50 [.d (is x),.d (is y)] []=some (.d (.bool (qdd x y)),[]):=by
 rw[qax XV _ _ _ v50 rfl qp3 rfl];have h:=qas (X:=XV) (T:=XV.lin 50) (L:=0) (live:=[0,1,5,6]) (b:=qiw) (n:=x.length) (γ:=Unit) (st:=fun(b:Bool) i=>⟨[(0,.d (is x)),(1,.d (is y)),(5,.d (.bool b)),(6,.d (.int .i64 i))],[]⟩) (step:=qcT x y)
  (F:=fun b=>(.exit 0,⟨[(0,.d (is x)),(1,.d (is y)),(5,.d (.bool b)),(6,.d (.int .i64 x.length)),(16,.d (.bool false))],[]⟩)) (R:=fun _=>(.ret,⟨[(4,.d (.bool false))],[]⟩))
  (fun _=>⟨by simp,by simp[qiw,qfQ,qfP,qfO,qfN,qgj,qfL,qgi,qfM,qfK]⟩)
  (fun b i hi=>by
   have hw:=qah (n:=i) (by omega);have hi2:i<y.length:=by omega
   unfold qcT
   by_cases h1:iAt y i<iAt x i
   ·simp only[h1,if_true]
    exact⟨by simp,by simp[qiw,qfQ,qfP,qfO,qfN,qgj,qfL,qgi,qfM,qfK,hi,hi2,hw,cut,qaH hi,qaH hi2,h1]⟩
   ·simp only[h1,if_false]
    cases b with
    |true=>exact⟨_,by simp[qiw,qfQ,qfP,qfO,qfN,qgj,qfL,qgi,qfM,qfK,hi,hi2,hw,cut,qaH hi,qaH hi2,h1];rfl,by simp[qac,qaa]⟩
    |false=>exact⟨_,by simp[qiw,qfQ,qfP,qfO,qfN,qgj,qfL,qgi,qfM,qfK,hi,hi2,hw,cut,qaH hi,qaH hi2,h1];rfl,by simp[qac,qaa]⟩)
  x.length false 0 ⟨[(0,.d (is x)),(1,.d (is y)),(5,.d (.bool false)),(6,.d (.int .i64 0))],[]⟩ (by omega) (by simp[qac,qaa])
 simp only[qyZ]at h;unfold qdd;have hne:((x.length:Int)==y.length)=true:=by simp;omega
 simp[v50,qfQ,qfP,qfO,qfN,qgj,qfL,qgi,qfM,qfK];rw[h];cases hq:runN (qcT x y) x.length false 0 with
 |inr u=>simp[v50,qfQ,qfP,qfO,qfN,qgj,qfL,qgi,qfM,qfK]
 |inl b=>cases b<;>simp[v50,qfQ,qfP,qfO,qfN,qgj,qfL,qgi,qfM,qfK,hne]
end Go.Proofs.Ytpcoohnjllclnaa.VS
namespace Go.Proofs.Ytpcoohnjllclnaa.VS
theorem qpv(g:Tag)(y z:List Int)(hy:y.length<=1099511627776)(hyz:y.length=z.length):qau XV 226 [.d (is y),.ptr 0 0] [some [.d (.sl g (z.map (.int .i64)))]]=some (.d (.bool (qdd y z)),[some [.d (.sl g (z.map (.int .i64)))]]):=by
 rw[qax XV _ _ _ qBG rfl qts rfl];have h:=qfi y z hy hyz;simp[qBG,qyv,qyu,h,qai]
def qcC(rows:List (List Int))(z:List Int)(i:Nat):Bool:=qdd (rAt rows i) z
def qdm(rows:List (List Int))(z:List Int):Bool:=(qaw (qcC rows z) rows.length 0).isNone
theorem qn9(g:Tag)(rows:List (List Int))(z:List Int)(hr:rows.length<=1099511627776)(hz:z.length<=1099511627776)(hl:∀i,i<rows.length->(rAt rows i).length=z.length):
 qau XV 228 [.d (iss .sub rows),.fn 226 [.ptr 0 0]] [some [.d (.sl g (z.map (.int .i64)))]]=some (.d (.int .i64 (qiv (qaw (qcC rows z) rows.length 0))),[some [.d (.sl g (z.map (.int .i64)))]]):=by
 rw[qax XV _ _ _ qzV rfl qtq rfl];have h:=qas (X:=XV) (T:=XV.lin 228) (L:=1) (live:=[0,1,7,8]) (b:=qox) (n:=rows.length) (γ:=Nat) (st:=fun(_:Unit) i=>⟨[(0,.d (iss .sub rows)),(1,.fn 226 [.ptr 0 0]),(7,.d (.int .i64 rows.length)),(8,.d (.int .i64 i))],[some [.d (.sl g (z.map (.int .i64)))]]⟩) (step:=qeW (qcC rows z))
  (F:=fun _=>(.exit 0,⟨[(0,.d (iss .sub rows)),(1,.fn 226 [.ptr 0 0]),(7,.d (.int .i64 rows.length)),(8,.d (.int .i64 rows.length)),(9,.d (.bool false))],[some [.d (.sl g (z.map (.int .i64)))]]⟩)) (R:=fun(j:Nat)=>(.ret,⟨[(4,.d (.int .i64 j))],[some [.d (.sl g (z.map (.int .i64)))]]⟩))
  (fun _=>⟨by simp,by simp[qox,qkP,qkO,qkN,qkM,qkL,qkK,qkJ,qkI]⟩)
  (fun _ i hi=>by
   have hw:=qah (n:=i) (by omega);have hc:=qpv g (rAt rows i) z (by rw[hl i hi];omega) (hl i hi);unfold qeW qcC;cases hq:qdd (rAt rows i) z with
   |true=>
    rw[hq]at hc;simp only[if_true];exact⟨by simp,by simp[qox,qkP,qkO,qkN,qkM,qkL,qkK,qkJ,qkI,hi,hw,cut,qaS hi,hc]⟩
   |false=>
    rw[hq]at hc;exact⟨_,by simp[qox,qkP,qkO,qkN,qkM,qkL,qkK,qkJ,qkI,hi,hw,cut,qaS hi,hc];rfl,by simp[qac,qaa]⟩)
  rows.length () 0 ⟨[(0,.d (iss .sub rows)),(1,.fn 226 [.ptr 0 0]),(7,.d (.int .i64 rows.length)),(8,.d (.int .i64 0))],[some [.d (.sl g (z.map (.int .i64)))]]⟩ (by omega) (by simp[qac,qaa])
 rw[qxm]at h;simp only[qAH]at h;simp[qzV,qkP,qkO,qkN,qkM,qkL,qkK,qkJ,qkI];rw[h];cases hq:qaw (qcC rows z) rows.length 0<;>simp[qiv,qzV,qkP,qkO,qkN,qkM,qkL,qkK,qkJ,qkI]
theorem qjS(g:Tag)(rows:List (List Int))(z:List Int)(hr:rows.length<=1099511627776)(hz:z.length<=1099511627776)(hl:∀i,i<rows.length->(rAt rows i).length=z.length):
 qau XV 227 [.d (iss .sub rows),.fn 226 [.ptr 0 0]] [some [.d (.sl g (z.map (.int .i64)))]]=some (.d (.bool (!qdm rows z)),[some [.d (.sl g (z.map (.int .i64)))]]):=by
 rw[qax XV _ _ _ qzW rfl qtr rfl];have h:=qn9 g rows z hr hz hl;unfold qdm;cases hq:qaw (qcC rows z) rows.length 0 with
 |none=>rw[hq]at h;simp[qzW,quu,qut,h,qiv]
 |some j=>rw[hq]at h;simp[qzW,quu,qut,h,qiv]
def qbg(rows:List (List Int))(k:Nat):List (List Int):=(rows.take k).filter (qdm rows)
theorem qmi(rows:List (List Int))(k:Nat)(hk:k<rows.length):qbg rows (k+1)=qbg rows k++(if qdm rows (rAt rows k)then [rAt rows k]else []):=by
 unfold qbg;rw[List.take_add_one,List.filter_append]
 congr 1
 rw[List.getElem?_eq_getElem hk,qaS hk];simp[List.filter];split<;>simp_all
def qkC(rows acc:List (List Int))(k:Nat):List (List Int)⊕Unit:= .inl (acc++(if qdm rows (rAt rows k)then [rAt rows k]else []))
theorem qAj(rows:List (List Int)):∀(j k:Nat),k+j<=rows.length->runN (qkC rows) j (qbg rows k) k= .inl (qbg rows (k+j))
 |0,k,_=>rfl
 |j+1,k,h=>by
  simp only[runN,qkC];rw[<-qmi rows k (by omega),qAj rows j (k+1) (by omega)]
  congr 2;omega
def qi2(rows:List (List Int))(i:Nat):List DV:=(rows.take i).map (ints .sub)++(rows.drop i).map (ints U)
theorem qCy(rows:List (List Int))(i:Nat)(hi:i<rows.length):(qi2 rows i)[i]?=some (.sl U ((rAt rows i).map (.int .i64))):=by
 unfold qi2;have h:((rows.take i).map (ints .sub)).length=i:=by simp;omega
 rw[List.getElem?_append_right (by omega),h,Nat.sub_self,List.getElem?_map,List.getElem?_drop,Nat.add_zero,List.getElem?_eq_getElem hi,qaS hi];rfl
theorem qCx(rows:List (List Int))(i:Nat)(hi:i<rows.length):(qi2 rows i).set i (.sl .sub ((rAt rows i).map (.int .i64)))=qi2 rows (i+1):=by
 unfold qi2;have h:((rows.take i).map (ints .sub)).length=i:=by simp;omega
 rw[List.set_append_right _ _ (by omega),h,Nat.sub_self,List.drop_eq_getElem_cons hi,qaS hi,List.map_cons,List.set_cons_zero,List.take_add_one,List.getElem?_eq_getElem hi,qaS hi];simp
theorem qz7(rows:List (List Int)):qi2 rows 0=rows.map (ints U):=by simp[qi2]
theorem qmj(rows:List (List Int))(n:Nat)(hr:rows.length<=1000000)(hn:n<=1000)(hl:∀i,i<rows.length->(rAt rows i).length=n):
 qdl XV (XV.lin 207) 0 [6,13,66,67,68] qlC ⟨[(6,.d (iss .sub rows)),(13,.d (.sl U [])),(66,.d (iss U rows)),(67,.d (.int .i64 rows.length)),(68,.d (.int .i64 0))],[]⟩=
  some (.exit 4,⟨[(6,.d (iss .sub rows)),(13,.d (.sl U ((qbg rows rows.length).map (ints U)))),(66,.d (.sl U (qi2 rows rows.length))),(67,.d (.int .i64 rows.length)),(68,.d (.int .i64 rows.length)),(69,.d (.bool false))],[]⟩):=by
 have h:=qbC (X:=XV) (T:=XV.lin 207) (L:=0) (live:=[6,13,66,67,68]) (b:=qlC) (n:=rows.length) (γ:=Unit) (st:=fun(A:List (List Int)) i=>⟨[(6,.d (iss .sub rows)),(13,.d (.sl U (A.map (ints U)))),(66,.d (.sl U (qi2 rows i))),(67,.d (.int .i64 rows.length)),(68,.d (.int .i64 i))],[]⟩) (step:=qkC rows)
  (F:=fun A=>(.exit 4,⟨[(6,.d (iss .sub rows)),(13,.d (.sl U (A.map (ints U)))),(66,.d (.sl U (qi2 rows rows.length))),(67,.d (.int .i64 rows.length)),(68,.d (.int .i64 rows.length)),(69,.d (.bool false))],[]⟩)) (R:=fun _=>(.ret,⟨[],[]⟩))
  (fun A i=>A.length<=i)
  (fun A _=>⟨by simp,by simp[qlC,qdc,qdb,qda,qc9,qc8,qc7,qc6,qc5,qc4,qc3,qbX,qbW,qbV,qbU,qbT,qbS,qbR,qbQ,qbP,qbO,qbN,qbM,qbL,qbK,qbJ,qbI]⟩)
  (fun A i hi hinv=>by
   have hw:=qah (n:=i) (by omega);have hc:=qjS U rows (rAt rows i) (by omega) (by rw[hl i hi];omega) (fun j hj=>by rw[hl j hj,hl i hi]);have h2:qaC 1 24 (.sl U (A.map (ints U))) (.sl U [.sl U ((rAt rows i).map (.int .i64))])=some (.sl U ((A++[rAt rows i]).map (ints U))):=by
    have:=qgk A U U U (rAt rows i) (by omega);rw[List.map_append];exact this
   have tg:=qCy rows i hi;have ts:=qCx rows i hi;unfold qkC;generalize qi2 rows i=tr at tg ts⊢
   cases hq:qdm rows (rAt rows i)with
   |true=>
    rw[hq]at hc;refine⟨⟨_,by simp[qlC,qdc,qdb,qda,qc9,qc8,qc7,qc6,qc5,qc4,qc3,qbX,qbW,qbV,qbU,qbT,qbS,qbR,qbQ,qbP,qbO,qbN,qbM,qbL,qbK,qbJ,qbI,hi,hw,cut,tg,ts,hc,h2,qai,qaD,qaG,qa8,splice];rfl,by simp[qac,qaa]⟩,fun a' h=>by simp at h;subst h;simp;omega⟩
   |false=>
    rw[hq]at hc;refine⟨⟨_,by simp[qlC,qdc,qdb,qda,qc9,qc8,qc7,qc6,qc5,qc4,qc3,qbX,qbW,qbV,qbU,qbT,qbS,qbR,qbQ,qbP,qbO,qbN,qbM,qbL,qbK,qbJ,qbI,hi,hw,cut,tg,ts,hc,h2,qai,qaD,qaG,qa8,splice];rfl,by simp[qac,qaa]⟩,fun a' h=>by simp at h;subst h;omega⟩)
  rows.length [] 0 ⟨[(6,.d (iss .sub rows)),(13,.d (.sl U [])),(66,.d (iss U rows)),(67,.d (.int .i64 rows.length)),(68,.d (.int .i64 0))],[]⟩ (by omega) (by simp) (by rw[qz7];simp[qac,qaa])
 have hr':=qAj rows rows.length 0 (by omega);have h0:qbg rows 0=[]:=by simp[qbg]
 rw[h0,Nat.zero_add]at hr';rw[hr']at h;exact h
end Go.Proofs.Ytpcoohnjllclnaa.VS
namespace Go.Proofs.Ytpcoohnjllclnaa.VS
theorem qjF(rows:List (List Int))(D:AV)(hD:D.safe 0=true)(z:Nat)(n:Nat)(hr:rows.length<=1000000)(hn:n<=1000)(hz:z<rows.length)(hl:∀i,i<rows.length->(rAt rows i).length=n):∀(j k:Nat),k+j=rows.length->
 ∃k':Int,qdl XV (XV.lin 208) 0 [6,7,8,9,10] qg5 ⟨[(6,D),(7,.d (iss .sub rows)),(8,.d (.int .i64 z)),(9,.d (.bool true)),(10,.d (.int .i64 k))],[]⟩=
  some (.exit 2,⟨[(6,D),(7,.d (iss .sub rows)),(8,.d (.int .i64 z)),(9,.d (.bool ((qaw (qcC rows (rAt rows z)) j k).isNone))),(10,.d (.int .i64 k')),(36,.d (.bool false))],[]⟩)
 |0,k,h=>by
  have hk:k=rows.length:=by omega
  subst hk;refine⟨rows.length,qco (s0:=⟨[(6,D),(7,.d (iss .sub rows)),(8,.d (.int .i64 z)),(9,.d (.bool true)),(10,.d (.int .i64 rows.length))],[]⟩) (by simp[qac,qaa,hD]) ?_ (by simp)⟩;simp[qg5,qdZ,qdY,qdX,qdW,qdV,qdU,qdT,qdR,qdQ,qcA,qcP,qcz,qcy,qcx,qdS,qcw,qcv,qcu,qaw]
 |j+1,k,h=>by
  have hk:k<rows.length:=by omega
  have hw:=qah (n:=k) (by omega);have hc:=qeZ (rAt rows k) (rAt rows z) (by rw[hl k hk];omega) (by rw[hl k hk,hl z hz]);have h0:qac 0 [6,7,8,9,10] ⟨[(6,D),(7,.d (iss .sub rows)),(8,.d (.int .i64 z)),(9,.d (.bool true)),(10,.d (.int .i64 k))],[]⟩=some ⟨[(6,D),(7,.d (iss .sub rows)),(8,.d (.int .i64 z)),(9,.d (.bool true)),(10,.d (.int .i64 k))],[]⟩:=by simp[qac,qaa,hD]
  cases hq:qdd (rAt rows k) (rAt rows z)with
  |false=>
   rw[hq]at hc;obtain⟨k',ih⟩:=qjF rows D hD z n hr hn hz hl j (k+1) (by omega);refine⟨k',?_⟩;have hb:qaN XV (XV.lin 208) qg5 ⟨[(6,D),(7,.d (iss .sub rows)),(8,.d (.int .i64 z)),(9,.d (.bool true)),(10,.d (.int .i64 k))],[]⟩=some (.normal,⟨[(6,D),(7,.d (iss .sub rows)),(8,.d (.int .i64 z)),(9,.d (.bool true)),(10,.d (.int .i64 (k+1:Nat)))],[]⟩):=by
    simp[qg5,qdZ,qdY,qdX,qdW,qdV,qdU,qdT,qdR,qdQ,qcA,qcP,qcz,qcy,qcx,qdS,qcw,qcv,qcu,hk,hz,hw,cut,qaS hk,qaS hz,hc]
   rw[qfE h0 hb,ih];have:qaw (qcC rows (rAt rows z)) (j+1) k=qaw (qcC rows (rAt rows z)) j (k+1):=by simp[qaw,qcC,hq]
   rw[this]
  |true=>
   rw[hq]at hc;refine⟨(k+1:Nat),?_⟩;have hb:qaN XV (XV.lin 208) qg5 ⟨[(6,D),(7,.d (iss .sub rows)),(8,.d (.int .i64 z)),(9,.d (.bool true)),(10,.d (.int .i64 k))],[]⟩=some (.normal,⟨[(6,D),(7,.d (iss .sub rows)),(8,.d (.int .i64 z)),(9,.d (.bool false)),(10,.d (.int .i64 (k+1:Nat)))],[]⟩):=by
    simp[qg5,qdZ,qdY,qdX,qdW,qdV,qdU,qdT,qdR,qdQ,qcA,qcP,qcz,qcy,qcx,qdS,qcw,qcv,qcu,hk,hz,hw,cut,qaS hk,qaS hz,hc]
   rw[qfE h0 hb];have hf:qaw (qcC rows (rAt rows z)) (j+1) k=some k:=by simp[qaw,qcC,hq]
   rw[hf];refine qco (s0:=⟨[(6,D),(7,.d (iss .sub rows)),(8,.d (.int .i64 z)),(9,.d (.bool false)),(10,.d (.int .i64 (k+1:Nat)))],[]⟩) (by simp[qac,qaa,hD]) ?_ (by simp)
   by_cases h1:k+1<rows.length
   ·have h2:(k:Int)+1<rows.length:=by omega
    simp[qg5,qdZ,qdY,qdX,qdW,qdV,qdU,qdT,qdR,qdQ,qcA,qcP,qcz,qcy,qcx,qdS,qcw,qcv,qcu,h2]
   ·have h2:¬(k:Int)+1<rows.length:=by omega
    simp[qg5,qdZ,qdY,qdX,qdW,qdV,qdU,qdT,qdR,qdQ,qcA,qcP,qcz,qcy,qcx,qdS,qcw,qcv,qcu,h2]
theorem qlT(rows:List (List Int))(n:Nat)(hr:rows.length<=1000000)(hn:n<=1000)(hl:∀i,i<rows.length->(rAt rows i).length=n):
 qdl XV (XV.lin 208) 0 [6,7,8] qlB ⟨[(6,.d (.sl U [])),(7,.d (iss .sub rows)),(8,.d (.int .i64 0))],[]⟩=
  some (.exit 0,⟨[(6,.d (.sl U ((qbg rows rows.length).map (ints .sub)))),(7,.d (iss .sub rows)),(8,.d (.int .i64 rows.length)),(27,.d (.bool false))],[]⟩):=by
 have h:=qbC (X:=XV) (T:=XV.lin 208) (L:=0) (live:=[6,7,8]) (b:=qlB) (n:=rows.length) (γ:=Unit) (st:=fun(A:List (List Int)) i=>⟨[(6,.d (.sl U (A.map (ints .sub)))),(7,.d (iss .sub rows)),(8,.d (.int .i64 i))],[]⟩) (step:=qkC rows)
  (F:=fun A=>(.exit 0,⟨[(6,.d (.sl U (A.map (ints .sub)))),(7,.d (iss .sub rows)),(8,.d (.int .i64 rows.length)),(27,.d (.bool false))],[]⟩)) (R:=fun _=>(.ret,⟨[],[]⟩))
  (fun A i=>A.length<=i)
  (fun A _=>⟨by simp,by simp[qlB,qdZ,qdY,qdX,qdW,qdV,qdU,qdT,qdR,qdQ,qcA,qcP,qcz,qcy,qcx,qdS,qcw,qcv,qcu]⟩)
  (fun A i hi hinv=>by
   have hw:=qah (n:=i) (by omega);obtain⟨k',hI⟩:=qjF rows (.d (.sl U (A.map (ints .sub)))) rfl i n hr hn hi hl rows.length 0 (by omega);have h2:qaC 1 24 (.sl U (A.map (ints .sub))) (.sl U [.sl .sub ((rAt rows i).map (.int .i64))])=some (.sl U ((A++[rAt rows i]).map (ints .sub))):=by
    have:=qgk A .sub .sub U (rAt rows i) (by omega);rw[List.map_append];exact this
   unfold qkC;have hle:qdm rows (rAt rows i)=(qaw (qcC rows (rAt rows i)) rows.length 0).isNone:=rfl;rw[<-hle]at hI;simp only[qve]at hI;simp at hI;cases hq:qdm rows (rAt rows i)with
   |true=>
    rw[hq]at hI;refine⟨⟨_,by simp[qlB,qdZ,qdY,qdX,qdW,qdV,qdU,qdT,qdR,qdQ,qcA,qcP,qcz,qcy,qcx,qdS,qcw,qcv,qcu,hi,hw,cut,qaS hi,hI,h2];rfl,by simp[qac,qaa]⟩,fun a' h=>by simp at h;subst h;simp;omega⟩
   |false=>
    rw[hq]at hI;refine⟨⟨_,by simp[qlB,qdZ,qdY,qdX,qdW,qdV,qdU,qdT,qdR,qdQ,qcA,qcP,qcz,qcy,qcx,qdS,qcw,qcv,qcu,hi,hw,cut,qaS hi,hI,h2];rfl,by simp[qac,qaa]⟩,fun a' h=>by simp at h;subst h;omega⟩)
  rows.length [] 0 ⟨[(6,.d (.sl U [])),(7,.d (iss .sub rows)),(8,.d (.int .i64 0))],[]⟩ (by omega) (by simp) (by simp[qac,qaa])
 have hr':=qAj rows rows.length 0 (by omega);have h0:qbg rows 0=[]:=by simp[qbg]
 rw[h0,Nat.zero_add]at hr';rw[hr']at h;exact h
end Go.Proofs.Ytpcoohnjllclnaa.VS
namespace Go.Proofs.Ytpcoohnjllclnaa.VS
theorem qwa(g g1 g2:Tag)(x y:List Int)(B:qak)(hx:x≠[])(hy:y≠[])(hl:x.length+y.length<=1099511627776):
 qau XV 225 [.d (.sl g [.sl g1 (x.map (.int .i64)),.sl g2 (y.map (.int .i64))])] B=some (.d (.sl U ((x++y).map (.int .i64))),B):=by
 rw[qwl XV 225 _ _ qef rfl];have h:(x.length+y.length)*8<=140737488355328:=by omega
 simp[qat,qef,qbp,qho,hx,hy,h];rfl
def qff(a b z:List Int):Bool:=decide (0<qgg z)&&qcK a b z
def qb2(a b x:List Int)(right:List (List Int))(k:Nat):List (List Int):=((right.take k).map (x++·)).filter (qff a b)
theorem qeB(a b x:List Int)(right:List (List Int))(k:Nat)(hk:k<right.length):qb2 a b x right (k+1)=qb2 a b x right k++(if qff a b (x++rAt right k)then [x++rAt right k]else []):=by
 unfold qb2;rw[List.take_add_one,List.map_append,List.filter_append]
 congr 1
 rw[List.getElem?_eq_getElem hk,qaS hk];simp[List.filter];split<;>simp_all
theorem qrS(a b x:List Int)(right:List (List Int))(k:Nat):(qb2 a b x right k).length<=k:=by
 unfold qb2;have:=List.length_filter_le (qff a b) ((right.take k).map (x++·));rw[List.length_map,List.length_take]at this;omega
def qqj(a b x:List Int)(right acc:List (List Int))(k:Nat):List (List Int)⊕Unit:= .inl (acc++(if qff a b (x++rAt right k)then [x++rAt right k]else []))
theorem qCG(a b x:List Int)(right acc:List (List Int)):∀(j k:Nat),k+j<=right.length->runN (qqj a b x right) j (acc++qb2 a b x right k) k= .inl (acc++qb2 a b x right (k+j))
 |0,k,_=>rfl
 |j+1,k,h=>by
  simp only[runN,qqj];rw[List.append_assoc,<-qeB a b x right k (by omega),qCG a b x right acc j (k+1) (by omega)]
  congr 3;omega
theorem qpB(a b x:List Int)(right acc:List (List Int))(L:AV)(hL:L.safe 0=true)(n i:Int)(ha:a.length<=1000)(hb:b.length<=1000)(hx:x.length=a.length)(hx0:0<x.length)(hr:right.length<=1000)(hacc:acc.length<=1000000)
 (hrl:∀i,i<right.length->(rAt right i).length=b.length) (hb0:0<b.length):
 qdl XV (XV.lin 207) 0 [0,1,6,7,9,34,35,36,40,41,42] qjW ⟨[(0,.d (is a)),(1,.d (is b)),(6,.d (iss U acc)),(7,.d (iss .sub right)),(9,.d (is x)),(34,L),(35,.d (.int .i64 n)),(36,.d (.int .i64 i)),(40,.d (iss .sub right)),(41,.d (.int .i64 right.length)),(42,.d (.int .i64 0))],[]⟩=
  some (.exit 2,⟨[(0,.d (is a)),(1,.d (is b)),(6,.d (iss U (acc++qb2 a b x right right.length))),(7,.d (iss .sub right)),(9,.d (is x)),(34,L),(35,.d (.int .i64 n)),(36,.d (.int .i64 i)),(40,.d (iss .sub right)),(41,.d (.int .i64 right.length)),(42,.d (.int .i64 right.length)),(43,.d (.bool false))],[]⟩):=by
 have h:=qbC (X:=XV) (T:=XV.lin 207) (L:=0) (live:=[0,1,6,7,9,34,35,36,40,41,42]) (b:=qjW) (n:=right.length) (γ:=Unit) (st:=fun(A:List (List Int)) j=>⟨[(0,.d (is a)),(1,.d (is b)),(6,.d (iss U A)),(7,.d (iss .sub right)),(9,.d (is x)),(34,L),(35,.d (.int .i64 n)),(36,.d (.int .i64 i)),(40,.d (iss .sub right)),(41,.d (.int .i64 right.length)),(42,.d (.int .i64 j))],[]⟩) (step:=qqj a b x right)
  (F:=fun A=>(.exit 2,⟨[(0,.d (is a)),(1,.d (is b)),(6,.d (iss U A)),(7,.d (iss .sub right)),(9,.d (is x)),(34,L),(35,.d (.int .i64 n)),(36,.d (.int .i64 i)),(40,.d (iss .sub right)),(41,.d (.int .i64 right.length)),(42,.d (.int .i64 right.length)),(43,.d (.bool false))],[]⟩)) (R:=fun _=>(.ret,⟨[],[]⟩))
  (fun A j=>A.length<=1000000+j)
  (fun A _=>⟨by simp,by simp[qjW,qdc,qdb,qda,qc9,qc8,qc7,qc6,qc5,qc4,qc3,qbX,qbW,qbV,qbU,qbT,qbS,qbR,qbQ,qbP,qbO,qbN,qbM,qbL,qbK,qbJ,qbI]⟩)
  (fun A j hj hinv=>by
   have hw:=qah (n:=j) (by omega);have hyl:=hrl j hj;generalize hy:rAt right j=y at*
   have hg:right[j]=y:=by rw[qaS hj,hy]
   have hxn:x≠[]:=fun h=>by rw[h]at hx0;simp at hx0
   have hyn:y≠[]:=fun h=>by rw[h]at hyl;simp at hyl;omega
   have h1:=qwa .sub .sub .sub x y [] hxn hyn (by omega);have hzl:(x++y).length=a.length+b.length:=by rw[List.length_append];omega
   have h2:=qu5 (x++y) (by omega) (by omega);have h3:=qdB a b (x++y) (by omega) (by omega) (by omega);have h4:qaC 1 24 (iss U A) (.sl U [.sl U ((x++y).map (.int .i64))])=some (iss U (A++[x++y])):=by
    have:=qgk A U U U (x++y) (by omega);rw[show iss U (A++[x++y])= .sl U (A.map (ints U)++[ints U (x++y)])by simp[iss]];exact this
   unfold qqj;rw[hy];generalize hz:x++y=z at*
   by_cases hm:0<qgg z
   ·cases hq:qcK a b z with
    |true=>
     rw[hq]at h3;have hp:qff a b z=true:=by simp[qff,hm,hq]
     simp only[hp,if_true];refine⟨⟨_,by simp[qjW,qdc,qdb,qda,qc9,qc8,qc7,qc6,qc5,qc4,qc3,qbX,qbW,qbV,qbU,qbT,qbS,qbR,qbQ,qbP,qbO,qbN,qbM,qbL,qbK,qbJ,qbI,hj,hw,cut,hg,h1,h2,h3,h4,hm];rfl,by simp[qac,qaa,hL]⟩,fun a' h=>by simp at h;subst h;simp;omega⟩
    |false=>
     rw[hq]at h3;have hp:qff a b z=false:=by simp[qff,hm,hq]
     simp only[hp];refine⟨⟨_,by simp[qjW,qdc,qdb,qda,qc9,qc8,qc7,qc6,qc5,qc4,qc3,qbX,qbW,qbV,qbU,qbT,qbS,qbR,qbQ,qbP,qbO,qbN,qbM,qbL,qbK,qbJ,qbI,hj,hw,cut,hg,h1,h2,h3,h4,hm];rfl,by simp[qac,qaa,hL]⟩,fun a' h=>by simp at h;subst h;omega⟩
   ·have hp:qff a b z=false:=by simp[qff,hm]
    simp only[hp];refine⟨⟨_,by simp[qjW,qdc,qdb,qda,qc9,qc8,qc7,qc6,qc5,qc4,qc3,qbX,qbW,qbV,qbU,qbT,qbS,qbR,qbQ,qbP,qbO,qbN,qbM,qbL,qbK,qbJ,qbI,hj,hw,cut,hg,h1,h2,h4,hm];rfl,by simp[qac,qaa,hL]⟩,fun a' h=>by simp at h;subst h;omega⟩)
  right.length acc 0 ⟨[(0,.d (is a)),(1,.d (is b)),(6,.d (iss U acc)),(7,.d (iss .sub right)),(9,.d (is x)),(34,L),(35,.d (.int .i64 n)),(36,.d (.int .i64 i)),(40,.d (iss .sub right)),(41,.d (.int .i64 right.length)),(42,.d (.int .i64 0))],[]⟩ (by omega) (by omega) (by simp[qac,qaa,hL])
 have hr':=qCG a b x right acc right.length 0 (by omega);have h0:qb2 a b x right 0=[]:=by simp[qb2]
 rw[h0,Nat.zero_add,List.append_nil]at hr';rw[hr']at h;exact h
end Go.Proofs.Ytpcoohnjllclnaa.VS
namespace Go.Proofs.Ytpcoohnjllclnaa.VS
theorem qaZ{l:List Int}(h:qbD l=true):1<=l.length/\l.length<=5:=by
 unfold qbD inB at h;simp at h;omega
theorem qd1{l:List Int}(h:qbD l=true)(i:Nat)(hi:i<l.length):1<=iAt l i/\iAt l i<=4:=by
 unfold qbD at h;simp only[Bool.and_eq_true,Option.isNone_iff_eq_none]at h;have:=qjJ _ _ _ i h.1 (Nat.zero_le _) (by omega);unfold qjy inB at this;simp at this;omega
theorem qu3(l:List Int)(lo hi:Int):∀(k i:Nat) (m:Int),i+k<=l.length->(∀j,j<l.length->lo<=iAt l j/\iAt l j<=hi)->lo<=m->m<=hi->lo<=mxF l i k m/\mxF l i k m<=hi
 |0,i,m,_,_,h1,h2=>⟨h1,h2⟩
 |k+1,i,m,hk,h,h1,h2=>by
  simp only[mxF];have:=h i (by omega);split
  ·exact qu3 l lo hi k (i+1) _ (by omega) h this.1 this.2
  ·exact qu3 l lo hi k (i+1) _ (by omega) h h1 h2
theorem qbe{l:List Int}(h:qbD l=true):1<=qgg l/\qgg l<=4:=by
 have h1:=qaZ h;have h0:=qd1 h 0 (by omega);exact qu3 l 1 4 _ _ _ (by omega) (fun j hj=>qd1 h j hj) h0.1 h0.2
theorem qqd{l:List Int}(h:qbD l=true):qEk l=qgg l:=by
 have h1:=qaZ h;have h0:=qd1 h 0 (by omega);unfold qEk qgg;obtain⟨k,hk⟩:∃k,l.length=k+1:=⟨l.length-1,by omega⟩;rw[hk];simp only[mxF,Nat.zero_add,Nat.add_sub_cancel];rw[if_pos (by omega)]
def qay(a b:List Int):List (List Int):=ways a.length (qgg b).toNat
def qap(a b:List Int):List (List Int):=ways b.length (qgg a).toNat
def qd7(a b:List Int)(k:Nat):List (List Int):=((qay a b).take k).flatMap fun x=>qb2 a b x (qap a b) (qap a b).length
def qfu(a b:List Int):List (List Int):=qd7 a b (qay a b).length
theorem qet(a b:List Int)(k:Nat)(hk:k<(qay a b).length):qd7 a b (k+1)=qd7 a b k++qb2 a b (rAt (qay a b) k) (qap a b) (qap a b).length:=by
 unfold qd7;rw[List.take_add_one,List.flatMap_append,List.getElem?_eq_getElem hk,qaS hk];simp
theorem qg7(a b:List Int)(hR:(qap a b).length<=126):∀k,k<=(qay a b).length->(qd7 a b k).length<=126*k
 |0,_=>by simp[qd7]
 |k+1,h=>by
  rw[qet a b k (by omega),List.length_append];have:=qg7 a b hR k (by omega);have:=qrS a b (rAt (qay a b) k) (qap a b) (qap a b).length;omega
theorem qxi{m:Nat}(a b x:List Int)(right:List (List Int))(k:Nat)(n:Nat)(hx:x.length+n=m)(h:∀r,r∈right->r.length=n):∀z,z∈qb2 a b x right k->z.length=m:=by
 intro z hz;unfold qb2 at hz;obtain⟨y,hy,rfl⟩:=List.mem_map.1 (List.mem_filter.1 hz).1;rw[List.length_append,h y (List.mem_of_mem_take hy)];exact hx
theorem qgl(a b:List Int)(k:Nat):∀z,z∈qd7 a b k->z.length=a.length+b.length:=by
 intro z hz;unfold qd7 at hz;obtain⟨x,hx,hz⟩:=List.mem_flatMap.1 hz;have:=qdA _ _ x (List.mem_of_mem_take hx);exact qxi a b x _ _ b.length (by omega) (fun r hr=>qdA _ _ r hr) z hz
theorem qdi{l:List (List Int)}{i:Nat}(h:i<l.length):rAt l i∈l:=by rw[<-qaS h];exact List.getElem_mem h
def qqm(a b:List Int)(acc:List (List Int))(k:Nat):List (List Int)⊕Unit:= .inl (acc++qb2 a b (rAt (qay a b) k) (qap a b) (qap a b).length)
theorem qCJ(a b:List Int):∀(j k:Nat),k+j<=(qay a b).length->runN (qqm a b) j (qd7 a b k) k= .inl (qd7 a b (k+j))
 |0,k,_=>rfl
 |j+1,k,h=>by
  simp only[runN,qqm];rw[<-qet a b k (by omega),qCJ a b j (k+1) (by omega)]
  congr 2;omega
theorem qsj(a b:List Int)(ha:qbD a=true)(hb:qbD b=true):
 qdl XV (XV.lin 207) 0 [0,1,6,7,34,35,36] qoC ⟨[(0,.d (is a)),(1,.d (is b)),(6,.d (iss U [])),(7,.d (iss .sub (qap a b))),(34,.d (iss .sub (qay a b))),(35,.d (.int .i64 (qay a b).length)),(36,.d (.int .i64 0))],[]⟩=
  some (.exit 0,⟨[(0,.d (is a)),(1,.d (is b)),(6,.d (iss U (qfu a b))),(7,.d (iss .sub (qap a b))),(34,.d (iss .sub (qay a b))),(35,.d (.int .i64 (qay a b).length)),(36,.d (.int .i64 (qay a b).length)),(37,.d (.bool false))],[]⟩):=by
 have la:=qaZ ha;have lb:=qaZ hb;have ma:=qbe ha;have mb:=qbe hb;have hR:(qap a b).length<=126:=qcI _ _ (by omega) (by omega);have hL:(qay a b).length<=126:=qcI _ _ (by omega) (by omega);have hRr:∀i,i<(qap a b).length->(rAt (qap a b) i).length=b.length:=fun i hi=>qdA _ _ _ (qdi hi)
 have hLr:∀i,i<(qay a b).length->(rAt (qay a b) i).length=a.length:=fun i hi=>qdA _ _ _ (qdi hi)
 have h:=qbC (X:=XV) (T:=XV.lin 207) (L:=0) (live:=[0,1,6,7,34,35,36]) (b:=qoC) (n:=(qay a b).length) (γ:=Unit) (st:=fun(A:List (List Int)) j=>⟨[(0,.d (is a)),(1,.d (is b)),(6,.d (iss U A)),(7,.d (iss .sub (qap a b))),(34,.d (iss .sub (qay a b))),(35,.d (.int .i64 (qay a b).length)),(36,.d (.int .i64 j))],[]⟩) (step:=qqm a b)
  (F:=fun A=>(.exit 0,⟨[(0,.d (is a)),(1,.d (is b)),(6,.d (iss U A)),(7,.d (iss .sub (qap a b))),(34,.d (iss .sub (qay a b))),(35,.d (.int .i64 (qay a b).length)),(36,.d (.int .i64 (qay a b).length)),(37,.d (.bool false))],[]⟩)) (R:=fun _=>(.ret,⟨[],[]⟩))
  (fun A j=>A=qd7 a b j)
  (fun A _=>⟨by simp,by simp[qoC,qdc,qdb,qda,qc9,qc8,qc7,qc6,qc5,qc4,qc3,qbX,qbW,qbV,qbU,qbT,qbS,qbR,qbQ,qbP,qbO,qbN,qbM,qbL,qbK,qbJ,qbI]⟩)
  (fun A j hj hinv=>by
   subst hinv;have hw:=qah (n:=j) (by omega);have hA:=qg7 a b hR j (by omega);have hI:=qpB a b (rAt (qay a b) j) (qap a b) (qd7 a b j) (.d (iss .sub (qay a b))) rfl (qay a b).length j (by omega) (by omega) (hLr j hj) (by rw[hLr j hj];omega) (by omega) (by omega) hRr (by omega);simp only[qvf]at hI;generalize hq:qd7 a b j++qb2 a b (rAt (qay a b) j) (qap a b) (qap a b).length=q at hI;generalize hg:rAt (qay a b) j=x at*
   have hgx:(qay a b)[j]=x:=by rw[qaS hj,hg]
   unfold qqm;rw[hg,hq];refine⟨⟨_,by simp[qoC,qdc,qdb,qda,qc9,qc8,qc7,qc6,qc5,qc4,qc3,qbX,qbW,qbV,qbU,qbT,qbS,qbR,qbQ,qbP,qbO,qbN,qbM,qbL,qbK,qbJ,qbI,hj,hw,cut,hgx,hI];rfl,by simp[qac,qaa]⟩,fun a' h=>by simp at h;subst h;rw[qet a b j hj,hg,hq]⟩)
  (qay a b).length (qd7 a b 0) 0 ⟨[(0,.d (is a)),(1,.d (is b)),(6,.d (iss U (qd7 a b 0))),(7,.d (iss .sub (qap a b))),(34,.d (iss .sub (qay a b))),(35,.d (.int .i64 (qay a b).length)),(36,.d (.int .i64 0))],[]⟩ (by omega) rfl (by simp[qac,qaa])
 rw[qCJ a b _ 0 (by omega),Nat.zero_add]at h;have h0:qd7 a b 0=[]:=by simp[qd7]
 rw[h0]at h;exact h
def qar(a b:List Int):List (List Int):=qbg (qfu a b) (qfu a b).length
theorem qob(a b:List Int)(la:a.length<=1099511627776)(lb:b.length<=1099511627776):
 qau XV 207 [.d (is a),.d (is b)] []=some (.d (.tup (if qbD a=true/\qbD b=true/\(qar a b).length<=60 then [.sl U ((qar a b).map (ints U)),.bool true]else [.sl U [],.bool false])),[]):=by
 rw[qax XV _ _ _ qrJ rfl qtG rfl];have f1:=qqn a la;have f2:=qqn b lb;cases ha:qbD a with
 |false=>rw[ha]at f1;simp[qrJ,qdc,qdb,qda,qc9,qc8,qc7,qc6,qc5,qc4,qc3,qbX,qbW,qbV,qbU,qbT,qbS,qbR,qbQ,qbP,qbO,qbN,qbM,qbL,qbK,qbJ,qbI,f1]
 |true=>
  rw[ha]at f1;cases hb:qbD b with
  |false=>rw[hb]at f2;simp[qrJ,qdc,qdb,qda,qc9,qc8,qc7,qc6,qc5,qc4,qc3,qbX,qbW,qbV,qbU,qbT,qbS,qbR,qbQ,qbP,qbO,qbN,qbM,qbL,qbK,qbJ,qbI,f1,f2]
  |true=>
   rw[hb]at f2;have la:=qaZ ha;have lb:=qaZ hb;have ma:=qbe ha;have mb:=qbe hb;have hR:(qap a b).length<=126:=qcI _ _ (by omega) (by omega);have hL:(qay a b).length<=126:=qcI _ _ (by omega) (by omega);have hA:=qg7 a b hR (qay a b).length (Nat.le_refl _);have x1:=qu5 a (by omega) (by omega);have x2:=qu5 b (by omega) (by omega);have s1:=qo6 b.length (qgg a).toNat (by omega) (by omega);have s2:=qo6 a.length (qgg b).toNat (by omega) (by omega);rw[Int.toNat_of_nonneg (by omega)]at s1 s2;have hI:=qsj a b ha hb;have hJ:=qmj (qfu a b) (a.length+b.length) (by unfold qfu;omega) (by omega) (fun i hi=>qgl a b _ _ (qdi hi));simp only[qvf]at hI hJ;have e1:ways b.length (qgg a).toNat=qap a b:=rfl;have e2:ways a.length (qgg b).toNat=qay a b:=rfl;rw[e1]at s1;rw[e2]at s2;have eB:qbg (qfu a b) (qfu a b).length=qar a b:=rfl;rw[eB]at hJ;have hz2:iss U ([]:List (List Int))=DV.sl U []:=rfl;rw[hz2]at hI;generalize qfu a b=al at*
   generalize qay a b=lf at*
   generalize qap a b=rt at*
   by_cases h60:(qar a b).length<=60
   ·have h61:¬(60:Int)<(qar a b).length:=by omega
    generalize qar a b=bl at*
    simp[qrJ,qdc,qdb,qda,qc9,qc8,qc7,qc6,qc5,qc4,qc3,qbX,qbW,qbV,qbU,qbT,qbS,qbR,qbQ,qbP,qbO,qbN,qbM,qbL,qbK,qbJ,qbI,f1,f2,x1,x2,s1,s2];rw[hI];simp[qrJ,qdc,qdb,qda,qc9,qc8,qc7,qc6,qc5,qc4,qc3,qbX,qbW,qbV,qbU,qbT,qbS,qbR,qbQ,qbP,qbO,qbN,qbM,qbL,qbK,qbJ,qbI];rw[hJ];simp[qrJ,qdc,qdb,qda,qc9,qc8,qc7,qc6,qc5,qc4,qc3,qbX,qbW,qbV,qbU,qbT,qbS,qbR,qbQ,qbP,qbO,qbN,qbM,qbL,qbK,qbJ,qbI,h60,h61]
   ·have h61:(60:Int)<(qar a b).length:=by omega
    generalize qar a b=bl at*
    simp[qrJ,qdc,qdb,qda,qc9,qc8,qc7,qc6,qc5,qc4,qc3,qbX,qbW,qbV,qbU,qbT,qbS,qbR,qbQ,qbP,qbO,qbN,qbM,qbL,qbK,qbJ,qbI,f1,f2,x1,x2,s1,s2];rw[hI];simp[qrJ,qdc,qdb,qda,qc9,qc8,qc7,qc6,qc5,qc4,qc3,qbX,qbW,qbV,qbU,qbT,qbS,qbR,qbQ,qbP,qbO,qbN,qbM,qbL,qbK,qbJ,qbI];rw[hJ];simp[qrJ,qdc,qdb,qda,qc9,qc8,qc7,qc6,qc5,qc4,qc3,qbX,qbW,qbV,qbU,qbT,qbS,qbR,qbQ,qbP,qbO,qbN,qbM,qbL,qbK,qbJ,qbI,h60,h61]
end Go.Proofs.Ytpcoohnjllclnaa.VS
