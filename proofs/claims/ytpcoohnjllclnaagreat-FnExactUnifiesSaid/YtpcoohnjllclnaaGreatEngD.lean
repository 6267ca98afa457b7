/- The engine, part 3: a call of the program answers what an evaluator of values without memory answers, for the functions whose code is the one that the evaluator is given. -/
import Derived.Test.YtpcoohnjllclnaaGreatEngB
import Derived.Orders
import Derived.ChangeAt
import Derived.Below
import Derived.WideShapes
import Derived.ChangeArms
import Derived.DataReads
import Derived.WalkKit
import Derived.ProofKit
import Derived.OpenShut
import Derived.ChangeOld
import Derived.SizedLaws
set_option linter.unusedSimpArgs false
set_option linter.unusedVariables false
namespace Go.Proofs.YtpcoohnjllclnaaGreat.VS
section
variable {P:Program} {fid:Nat->FuncId}
def rest(vs:ak)(listed:Array Bool):List (Nat×VOper):=((List.range' 0 vs.length).zip vs).filter fun q=> !listed.getD q.1 true
end
section
variable {P:Program} {fid:Nat->FuncId}
end
section
variable {P:Program} {fid:Nat->FuncId}
end
section
variable {P:Program} {fid:Nat->FuncId}
end
variable{a:Act}{w:World}{N:Nat}
section
variable {P:Program} {fid:Nat->FuncId}
def Sc(p:Id)(c c':Nat)(x:Id):Prop:=∃q j,c<=j/\j<c'/\x=q++j::p
structure Reach(fid:Nat->FuncId)(p:Id)(N:Nat)(g:Gh)(w:World)(s:St)(a:Act)(g':Gh)(w':World)(s':St)(a':Act):Prop where
 core:Core fid g' w' s'.B s'.A
 boxes:Boxes g w g'
 step:Step (Sc p s.c s'.c) g w s.A g' w' s'.A
 regs:qPr fid g' w' s'.r a'.tmps
 size:a'.tmps.size=N
 defers:a'.defers=a.defers
 le:s.c<=s'.c
theorem Reach.trans{p:Id}{g g' d:Gh}{w' c:World}{s s' k:St}{a' b:Act}(h:Reach fid p N g w s a g' w' s' a')(h':Reach fid p N g' w' s' a' d c k b):Reach fid p N g w s a d c k b:=by have u:=h.le;have r:=h'.le;exact⟨h'.core,h.boxes.trans h.step.size h'.boxes,(h.step.weaken fun x ⟨q,j,m,o,l⟩=>⟨q,j,m,by omega,l⟩).trans h.boxes (h'.step.weaken fun x ⟨q,j,m,o,l⟩=>⟨q,j,by omega,o,l⟩),h'.regs,h'.size,h'.defers.trans h.defers,by omega⟩
theorem Reach.refl{p:Id}{g:Gh}{s:St}(hc:Core fid g w s.B s.A)(b:qPr fid g w s.r a.tmps)(c:a.tmps.size=N):Reach fid p N g w s a g w s a:=⟨hc,.refl _ _,.refl _ _ _ _,b,c,rfl,bI _⟩
section
variable {g:Gh} {w:World} {B:az} {A:Ids} {L:Nat} {ex:bi}
end
end
section
variable {P:Program} {fid:Nat->FuncId}
end
section
variable {P:Program} {fid:Nat->FuncId}
def iY(P:Program)(fid:Nat->FuncId)(k:Nat)(f:Id->aG->r9):Prop:=
 rb P (fid k)/\∀p args v A,(bd args).isSome->f p args=some (v,A)->∀g w (us:ee),us.size=args.length->(∀(j:Nat) (v:AV) (u:Value),args[j]?=some v->us[j]?=some u->AVR fid g w v u)->
  Core fid g w [] Ids.none->Eu g p 0->Calls P (fid k) us w fun e w'=>∃u g',e= .returned u/\Post fid (from_ p 0) g w Ids.none ⟨.d v,A,[]⟩ u g' w'
def Hm(P:Program)(fid:Nat->FuncId)(k:Nat)(sf:SFn):Prop:=∀call n,q3t P fid call->iY P fid k (fun p args=>(bd args).bind (p8 call n p sf))
structure EnvOK(P:Program)(fid:Nat->FuncId)(E:Env):Prop where
 code:∀k vf,E.nat k=none->E.code k=some vf->∃fn,P.funcs[fid k]?=some fn/\Ir P fid fn vf=true
 nat:∀k f,E.nat k=some f->iY P fid k f
 spec:∀k sf,E.spec k=some sf->Hm P fid k sf
 mixed:P.follows .mixedOrders=true
 base:∀k vf,E.code k=some vf->Lt (E.base k) vf.code=true
end
section
variable {P:Program} {fid:Nat->FuncId}
end
section
variable {P:Program} {fid:Nat->FuncId}
end
section
variable {P:Program} {fid:Nat->FuncId}
end
section
variable {P:Program} {fid:Nat->FuncId}
end
section
variable {P:Program} {fid:Nat->FuncId}
end
section
open Go.WideShapes
def start(w:World)(M:Nat):Gh:=⟨fun b=>if b<w.heap.size then M else 0,fun _=>none,fun _=>none⟩
variable {P:Program}
def m8(P:Program)(t:TypeId)(cs:aw):DV:=
 match P.underlying t with
 |some (.struct _)=> .agg cs
 |_=>cs.headD (.bool false)
inductive Shape(P:Program):TypeId->aw->Prop where
 |int {t:TypeId} {k:IntKind} {n:Int}:P.underlying t=some (.int k)->(Lit.int k n).wf=true->Shape P t [.int k n]
 |bool {t:TypeId} {b:Bool}:P.underlying t=some .bool->Shape P t [.bool b]
 |str {t:TypeId} {s:ByteArray}:P.underlying t=some .string->s.size<=maxLen->Shape P t [.str s]
 |nil {t e:TypeId}:P.underlying t=some (.slice e)->Shape P t [.sl .nil []]
 |row {t e:TypeId} {xs:aw}:P.underlying t=some (.slice e)->xs.length<=maxLen->(∀x:DV,x∈xs->x=m8 P e x.cells)->(∀x:DV,x∈xs->Shape P e x.cells)->Shape P t [.sl .sub xs]
 |struct {t:TypeId} {fs:Array Field} {cs:aw}:P.underlying t=some (.struct fs)->cs.length=P.cellsOf t->(∀f:Field,f∈fs.toList->Shape P f.type ((cs.drop f.offset).take (P.cellsOf f.type)))->Shape P t cs
def VRs(w:World)(b:Nat)(ds:aw)(cs:cX):Prop:=ds.length=cs.length/\(∀v:DV,v∈ds->v.isCell=true)/\∀M,b<=M->∀(j:Nat) (v:DV) (u:Value),ds[j]?=some v->cs[j]?=some u->VR (start w M) w v u
theorem VRs.one{d:Nat}{v:DV}{u:Value}(hc:v.isCell=true)(h:∀M,d<=M->VR (start w M) w v u):VRs w d [v] [u]:=
 ⟨rfl,fun x hx=>by simp at hx;subst hx;exact hc,fun M k j x y b c=>by
  cases j with
  |zero=>simp at b c;subst b;subst c;exact h M k
  |succ j=>simp at b⟩
theorem bound(f:Nat->Nat):∀n,∃M,∀i,i<n->f i<=M
 |0=>⟨0,fun i h=>by omega⟩
 |n+1=>by
  obtain⟨M,h⟩:=bound f n;refine⟨max M (f n),fun i hi=> ?_⟩;rcases lP i n with b|b
  ·exact eG (h i b) (rk _ _)
  ·have:i=n:=by omega
   subst this;exact pw _ _
end
variable{x:aw}{t e:TypeId}{fs:Array Field}
section
open Go.ChangeShapes Go.WideShapes Go.ChangeAt Go.RowKit
def xI(P:Program):List TypeId->List aw->Prop
 | [],[]=>True
 |t::ts,x::xs=>(x.length=P.cellsOf t/\Shape P t x)/\xI P ts xs
 |_,_=>False
def E3(P:Program):List TypeId->List aw->aG
 |t::ts,x::xs=> .d (m8 P t x)::E3 P ts xs
 |_,_=>[]
variable {P:Program} {fid:Nat->FuncId}
theorem FR{k:IntKind}(b:P.underlying t=some (.int k))(h:Shape P t x):∃n,x=[.int k n]/\(Lit.int k n).wf=true:=by
 cases h with
 |int h c=>rw[b]at h;simp at h;subst h;exact⟨_,rfl,c⟩
 |bool h=>rw[b]at h;simp at h
 |str h=>rw[b]at h;simp at h
 |nil h=>rw[b]at h;simp at h
 |row h=>rw[b]at h;simp at h
 |struct h=>rw[b]at h;simp at h
theorem qBy(c:P.underlying t=some .bool)(h:Shape P t x):∃b,x=[.bool b]:=by
 cases h with
 |int h d=>rw[c]at h;simp at h
 |bool h=>exact⟨_,rfl⟩
 |str h=>rw[c]at h;simp at h
 |nil h=>rw[c]at h;simp at h
 |row h=>rw[c]at h;simp at h
 |struct h=>rw[c]at h;simp at h
theorem qFm(b:P.underlying t=some .string)(h:Shape P t x):∃s:ByteArray,x=[.str s]/\s.size<=maxLen:=by
 cases h with
 |int h c=>rw[b]at h;simp at h
 |bool h=>rw[b]at h;simp at h
 |str h c=>exact⟨_,rfl,c⟩
 |nil h=>rw[b]at h;simp at h
 |row h=>rw[b]at h;simp at h
 |struct h=>rw[b]at h;simp at h
theorem MI(b:P.underlying t=some (.slice e))(h:Shape P t x):∃g xs,x=[.sl g xs]/\xs.length<=maxLen/\(g= .nil->xs=[])/\(∀y:DV,y∈xs->y=m8 P e y.cells)/\∀y:DV,y∈xs->Shape P e y.cells:=by
 cases h with
 |int h c=>rw[b]at h;simp at h
 |bool h=>rw[b]at h;simp at h
 |str h c=>rw[b]at h;simp at h
 |nil h=>exact⟨.nil,[],rfl,by simp,fun _=>rfl,by simp,by simp⟩
 |row h d k j=>rw[b]at h;simp at h;subst h;exact⟨.sub,_,rfl,d,by simp,k,j⟩
 |struct h=>rw[b]at h;simp at h
theorem JU(b:P.underlying t=some (.struct fs))(h:Shape P t x):x.length=P.cellsOf t/\∀f:Field,f∈fs.toList->Shape P f.type ((x.drop f.offset).take (P.cellsOf f.type)):=by
 cases h with
 |int h c=>rw[b]at h;simp at h
 |bool h=>rw[b]at h;simp at h
 |str h c=>rw[b]at h;simp at h
 |nil h=>rw[b]at h;simp at h
 |row h=>rw[b]at h;simp at h
 |struct h d j=>rw[b]at h;simp at h;subst h;exact⟨d,j⟩
end
attribute [simp] Zt qYj WC Ym qOw W_ q2b SC Rp q6l bn qJ9 YP qJ1 qJ3 Qi qJ5 VK qJ8 RF RL qCK Ri qxN VV Zh bb aY a6 qxg Zz ba Oz ix WG eP De t_ VL SX Wu qKM P8 XL Ve Vi
def eR(s:ByteArray)(i:Nat):Int:=((s[i]?).map fun b=>(b.toNat:Int)).getD 0
variable{i:Nat}
theorem Ec{s:ByteArray}(h:i<s.size):rW s i=some (eR s i):=by simp[rW,eR,h]
@[simp] theorem q4I(A:Ids):Ids.or Ids.none A=A:=by funext x;simp[Ids.or,Ids.none]
variable{n:Nat}
theorem Dt(h:n<9223372036854775808):IntKind.i64.wrap (n:Int)=n:=wrap_i64 (by omega) (by omega)
theorem aV(h:n+1<9223372036854775808):IntKind.i64.wrap ((n:Int)+1)=((n+1:Nat):Int):=by have:=Dt h;rw[<-this];congr 1
def ints(g:Tag)(l:ax):DV:= .sl g (l.map (.int .i64))
def fq(es:aw):aG:=(flat es).map .d
variable{es:aw}{sz:Nat}
theorem Mt(h:∀x:DV,x∈es->x.cells.length=sz):(fq es).length=es.length*sz:=by simp[fq,vM h]
theorem NQ{e:DV}(h:∀x:DV,x∈es->x.cells.length=sz)(b:e.cells.length=sz)(hi:i<es.length):
 splice (fq es) (i*sz) (e.cells.map .d)=fq (es.set i e):=by
 unfold fq;rw[MZ i e h b hi];simp[splice,yJ,E5]
theorem Mg:∀(l:aw),bd (l.map .d)=some l
 | []=>rfl
 |v::r=>by simp[bd,Mg r]
theorem CO(es:aw):bd (fq es)=some (flat es):=Mg _
def wc(agg:Bool)(sz:Nat)(x:DV):Prop:=x.cells.length=sz/\x.cells.all DV.isCell=true/\(agg=true->∃cs,x= .agg cs)/\(agg=false->x.cells=[x])
theorem vd{agg:Bool}:∀(es:aw),(∀x:DV,x∈es->wc agg sz x)->chunks agg sz es.length (flat es)=some es
 | [],_=>rfl
 |x::r,h=>by
  obtain⟨c,o,j,k⟩:=h x (by simp);have m:=vd r fun y hy=>h y (by simp[hy])
  have d:flat (x::r)=x.cells++flat r:=rfl;have b:cut agg sz (flat (x::r))=some x:=by
   rw[d];cases agg with
   |true=>
    obtain⟨cs,rfl⟩:=j rfl;simp only[DV.cells]at c⊢
    simp[cut,<-c]
   |false=>have:=k rfl;rw[this];simp[cut]
  have l:(flat (x::r)).drop sz=flat r:=by rw[d,<-c];simp
  simp only[c7,chunks,b,bO,c,o,xY,if_true,l,m,b9]
def filled(es:aw)(z:DV)(i:Nat):aw:=es.take i++List.replicate (es.length-i) z
theorem B_(es:aw)(z:DV)(i:Nat):(filled es z i).length=es.length:=by simp[filled];omega
theorem O_(es:aw)(z:DV)(i:Nat)(h:i<es.length):(filled es z i).set i es[i]=filled es z (i+1):=by
 unfold filled;have b:es.length-i=(es.length-(i+1))+1:=by omega
 have c:(es.take i).length=i:=by simp;omega
 rw[ye _ _ (by omega),c,mO,b,mo,wI,List.take_succ_eq_append_getElem h,bX];rfl
theorem No(es:aw)(z:DV):filled es z 0=List.replicate es.length z:=by simp[filled]
theorem OD(es:aw)(z:DV):filled es z es.length=es:=by simp[filled]
theorem Df{z:DV}(h:∀x:DV,x∈es->x.cells.length=sz)(b:z.cells.length=sz)(i:Nat):∀x:DV,x∈filled es z i->x.cells.length=sz:=by
 intro x hx;rcases bw.1 hx with hx|hx
 ·exact h x (pT hx)
 ·rw[(List.mem_replicate.1 hx).2];exact b
variable {P:Program}
theorem wf_i64{n:Int}(h:(Lit.int .i64 n).wf=true): -9223372036854775808<=n/\n<=9223372036854775807:=by simp[Lit.wf,IntKind.min,IntKind.max,IntKind.signed,IntKind.bits]at h;omega
structure SymL where
 name:ByteArray
 arity:Int
 ac:Bool
abbrev aD:=List SymL
def SymL.cells(s:SymL):aw:=[.str s.name,.int .i64 s.arity,.bool s.ac]
def SymL.enc(s:SymL):DV:= .agg s.cells
def SymL.ok(s:SymL):Prop:=s.name.size<=maxLen/\-9223372036854775808<=s.arity/\s.arity<=9223372036854775807
def Bc(g:Tag)(l:aD):DV:= .sl g (l.map SymL.enc)
def wQ(fs:Array Field):List (TypeId×Nat):=fs.toList.map fun f=>(f.type,f.offset)
theorem uy(h:∀f:Field,f∈fs.toList->Shape P f.type ((x.drop f.offset).take (P.cellsOf f.type))){o:Nat}(b:(t,o)∈wQ fs):Shape P t ((x.drop o).take (P.cellsOf t)):=by simp only[wQ,cC]at b;obtain⟨f,d,c⟩:=b;simp at c;obtain⟨rfl,rfl⟩:=c;exact h f d
variable{ti tb:TypeId}
theorem Zu{ts:TypeId}(F:P.underlying t=some (.struct fs))(l:wQ fs=[(ts,0),(ti,1),(tb,2)])(z:P.underlying ts=some .string)(G:P.underlying ti=some (.int .i64))(C:P.underlying tb=some .bool)
 (hc:P.cellsOf t=3/\P.cellsOf ts=1/\P.cellsOf ti=1/\P.cellsOf tb=1) (h:Shape P t x):∃s:SymL,x=s.cells/\s.ok:=by
 obtain⟨r,d⟩:=JU F h;rw[hc.1]at r
 match x,r with
 | [a,b,c],_=>
  have j:=uy d (t:=ts) (o:=0) (by simp[l]);have k:=uy d (t:=ti) (o:=1) (by simp[l]);have e3:=uy d (t:=tb) (o:=2) (by simp[l]);rw[hc.2.1]at j;rw[hc.2.2.1]at k;rw[hc.2.2.2]at e3
  simp at j k e3;obtain⟨s,q,y⟩:=qFm z j;obtain⟨n,m,u⟩:=FR G k;obtain⟨D,p⟩:=qBy C e3;simp at q m p;subst q;subst m;subst p
  have:=wf_i64 u;exact⟨⟨s,n,D⟩,rfl,y,this.1,this.2⟩
theorem qBx{ts:TypeId}(F:P.underlying t=some (.slice e))(p:P.underlying e=some (.struct fs))(C:wQ fs=[(ts,0),(ti,1),(tb,2)])(q:P.underlying ts=some .string)(u:P.underlying ti=some (.int .i64))(G:P.underlying tb=some .bool)
 (hc:P.cellsOf e=3/\P.cellsOf ts=1/\P.cellsOf ti=1/\P.cellsOf tb=1) (h:Shape P t x):∃g l,x=[Bc g l]/\l.length<=maxLen/\∀s,s∈l->s.ok:=by
 obtain⟨g,xs,rfl,b,j,H,D⟩:=MI F h;have key:∀xs:aw,(∀y:DV,y∈xs->y=m8 P e y.cells)->(∀y:DV,y∈xs->Shape P e y.cells)->∃l:aD,xs=l.map SymL.enc/\∀s,s∈l->s.ok:=by
  intro xs
  induction xs with
  |nil=>intro _ _;exact⟨[],rfl,by simp⟩
  |cons y r I=>
   intro b j;obtain⟨l,rfl,d⟩:=I (fun z c=>b z (by simp[c])) (fun z c=>j z (by simp[c]));obtain⟨s,J,o⟩:=Zu p C q u G hc (j y (by simp));have hy:=b y (by simp);rw[J]at hy;simp[m8,p]at hy;subst hy;refine⟨s::l,rfl,fun m k=> ?_⟩;rcases cE.1 k with rfl|k
   ·exact o
   ·exact d m k
 obtain⟨l,rfl,d⟩:=key xs H D;exact⟨g,l,rfl,by simpa using b,d⟩
inductive TT where
 |node (f v:Int) (g:Tag) (kids:List TT)
abbrev nU:=List TT
mutual
def TT.cells:TT->aw
 | .node f v g ks=>[.int .i64 f,.int .i64 v,.sl g (TT.encs ks)]
def TT.encs:nU->aw
 | []=>[]
 |t::r=> .agg t.cells::TT.encs r
end
def TT.enc(t:TT):DV:= .agg t.cells
theorem TT.qeO:∀l:nU,TT.encs l=l.map TT.enc
 | []=>by unfold TT.encs;rfl
 |t::r=>by unfold TT.encs;simp[TT.enc,TT.qeO r]
mutual
def TT.ok:TT->Prop
 | .node f v g ks=>(-9223372036854775808<=f/\f<=9223372036854775807)/\(-9223372036854775808<=v/\v<=9223372036854775807)/\ks.length<=maxLen/\TT.oks ks
def TT.oks:nU->Prop
 | []=>True
 |t::r=>t.ok/\TT.oks r
end
theorem TT.qsc:∀l:nU,TT.oks l↔∀t,t∈l->t.ok
 | []=>by simp[TT.oks]
 |t::r=>by simp[TT.oks,TT.qsc r]
theorem Gq{q:TypeId}(p:P.underlying t=some (.struct fs))(C:wQ fs=[(ti,0),(ti,1),(q,2)])(F:P.underlying ti=some (.int .i64))(O:P.underlying q=some (.slice t))
 (hc:P.cellsOf t=3/\P.cellsOf ti=1/\P.cellsOf q=1):∀(n:Nat) (x:aw),SizeOf.sizeOf x<n->Shape P t x->∃s:TT,x=s.cells/\s.ok
 |0,x,V,_=>by omega
 |n+1,x,V,h=>by
  obtain⟨u,d⟩:=JU p h;rw[hc.1]at u
  match x,u with
  | [a,b,c],_=>
   have G:=uy d (t:=ti) (o:=0) (by simp[C]);have J:=uy d (t:=ti) (o:=1) (by simp[C]);have e3:=uy d (t:=q) (o:=2) (by simp[C]);rw[hc.2.1]at G J;rw[hc.2.2]at e3
   simp at G J e3;obtain⟨f,X,q2⟩:=FR F G;obtain⟨v,Q,Z⟩:=FR F J;obtain⟨g,xs,R,q6,q7,q8,q9⟩:=MI O e3;simp at X Q R;subst X;subst Q;subst R
   have key:∀j:aw,(∀y:DV,y∈j->SizeOf.sizeOf y<n+1)->(∀y:DV,y∈j->y=m8 P t y.cells)->(∀y:DV,y∈j->Shape P t y.cells)->∃l:nU,j=TT.encs l/\TT.oks l:=by
    intro j
    induction j with
    |nil=>intro _ _ _;exact⟨[],by simp[TT.encs],by simp[TT.oks]⟩
    |cons y r ih=>
     intro K M S;obtain⟨l,rfl,u⟩:=ih (fun z k=>K z (by simp[k])) (fun z k=>M z (by simp[k])) (fun z k=>S z (by simp[k]));have hy:=M y (by simp);have m:=K y (by simp);have H:SizeOf.sizeOf y.cells<n:=by rw[hy]at m;simp[m8,p]at m;omega
     obtain⟨s,hs,I⟩:=Gq p C F O hc n y.cells H (S y (by simp));refine⟨s::l,?_,by simp[TT.oks,I,u]⟩;rw[hs]at hy;simp[m8,p]at hy;simp[TT.encs,hy]
   obtain⟨l,rfl,D⟩:=key xs (fun y hy=>by have:=ed hy;simp at V;omega) q8 q9
   have Y:=wf_i64 q2;have w2:=wf_i64 Z;refine⟨.node f v g l,by simp[TT.cells],?_⟩;simp only[TT.ok];refine⟨Y,w2,?_,D⟩;simpa[TT.qeO]using q6
end Go.Proofs.YtpcoohnjllclnaaGreat.VS
