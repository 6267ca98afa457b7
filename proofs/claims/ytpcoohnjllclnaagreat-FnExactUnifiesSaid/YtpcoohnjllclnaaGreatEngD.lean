/- The engine, part 3: a call of the program answers what an evaluator of values without memory answers, for the functions whose code is the one that the evaluator is given. -/
import Derived.Test.YtpcoohnjllclnaaGreatEngB
import Derived.Orders
import Derived.ChangeAt
import Derived.Below
import Derived.WideShapes
import Derived.ChangeArms
import Derived.DataReads
import Derived.WalkKit
import Derived.ProofKit
import Derived.OpenShut
import Derived.ChangeOld
import Derived.SizedLaws
set_option linter.unusedSimpArgs false
set_option linter.unusedVariables false
namespace Go.Proofs.YtpcoohnjllclnaaGreat.VS
section
variable {P:Program} {fid:Nat->FuncId}
def rest(vs:aj)(listed:Array Bool):List (Nat×VOper):=((List.range' 0 vs.length).zip vs).filter fun q=> !listed.getD q.1 true
end
section
variable {P:Program} {fid:Nat->FuncId}
end
section
variable {P:Program} {fid:Nat->FuncId}
end
section
variable {P:Program} {fid:Nat->FuncId}
end
variable{a:Act}{w:World}{N:Nat}
section
variable {P:Program} {fid:Nat->FuncId}
def UC(p:Id)(c c':Nat)(x:Id):Prop:=∃q j,c<=j/\j<c'/\x=q++j::p
structure Reach(fid:Nat->FuncId)(p:Id)(N:Nat)(g:Gh)(w:World)(s:St)(a:Act)(g':Gh)(w':World)(s':St)(a':Act):Prop where
 core:Core fid g' w' s'.B s'.A
 boxes:Boxes g w g'
 step:Step (UC p s.c s'.c) g w s.A g' w' s'.A
 regs:qO8 fid g' w' s'.r a'.tmps
 size:a'.tmps.size=N
 defers:a'.defers=a.defers
 le:s.c<=s'.c
theorem Reach.trans{p:Id}{g g' k:Gh}{w' b:World}{s s' c:St}{a' d:Act}(h:Reach fid p N g w s a g' w' s' a')(h':Reach fid p N g' w' s' a' k b c d):Reach fid p N g w s a k b c d:=by have r:=h.le;have u:=h'.le;exact⟨h'.core,h.boxes.trans h.step.size h'.boxes,(h.step.weaken fun x ⟨q,j,m,o,l⟩=>⟨q,j,m,by omega,l⟩).trans h.boxes (h'.step.weaken fun x ⟨q,j,m,o,l⟩=>⟨q,j,by omega,o,l⟩),h'.regs,h'.size,h'.defers.trans h.defers,by omega⟩
theorem Reach.refl{p:Id}{g:Gh}{s:St}(hc:Core fid g w s.B s.A)(c:qO8 fid g w s.r a.tmps)(b:a.tmps.size=N):Reach fid p N g w s a g w s a:=⟨hc,.refl _ _,.refl _ _ _ _,c,b,rfl,bN _⟩
section
variable {g:Gh} {w:World} {B:az} {A:Ids} {L:Nat} {ex:bq}
end
end
section
variable {P:Program} {fid:Nat->FuncId}
end
section
variable {P:Program} {fid:Nat->FuncId}
def jm(P:Program)(fid:Nat->FuncId)(k:Nat)(f:Id->aH->uh):Prop:=
 qK P (fid k)/\∀p args v A,(bd args).isSome->f p args=some (v,A)->∀g w (us:fp),us.size=args.length->(∀(j:Nat) (v:AV) (u:Value),args[j]?=some v->us[j]?=some u->AVR fid g w v u)->
  Core fid g w [] Ids.none->OS g p 0->Calls P (fid k) us w fun e w'=>∃u g',e= .returned u/\Post fid (from_ p 0) g w Ids.none ⟨.d v,A,[]⟩ u g' w'
def ES(P:Program)(fid:Nat->FuncId)(k:Nat)(sf:SFn):Prop:=∀call n,q28 P fid call->jm P fid k (fun p args=>(bd args).bind (pX call n p sf))
structure EnvOK(P:Program)(fid:Nat->FuncId)(E:Env):Prop where
 code:∀k vf,E.nat k=none->E.code k=some vf->∃fn,P.funcs[fid k]?=some fn/\D9 P fid fn vf=true
 nat:∀k f,E.nat k=some f->jm P fid k f
 spec:∀k sf,E.spec k=some sf->ES P fid k sf
 mixed:P.follows .mixedOrders=true
 base:∀k vf,E.code k=some vf->Nu (E.base k) vf.code=true
end
section
variable {P:Program} {fid:Nat->FuncId}
end
section
variable {P:Program} {fid:Nat->FuncId}
end
section
variable {P:Program} {fid:Nat->FuncId}
end
section
variable {P:Program} {fid:Nat->FuncId}
end
section
variable {P:Program} {fid:Nat->FuncId}
end
section
open Go.WideShapes
def start(w:World)(M:Nat):Gh:=⟨fun b=>if b<w.heap.size then M else 0,fun _=>none,fun _=>none⟩
variable {P:Program}
def nK(P:Program)(t:TypeId)(cs:aw):DV:=
 match P.underlying t with
 |some (.struct _)=> .agg cs
 |_=>cs.headD (.bool false)
inductive Shape(P:Program):TypeId->aw->Prop where
 |int {t:TypeId} {k:IntKind} {n:Int}:P.underlying t=some (.int k)->(Lit.int k n).wf=true->Shape P t [.int k n]
 |bool {t:TypeId} {b:Bool}:P.underlying t=some .bool->Shape P t [.bool b]
 |str {t:TypeId} {s:ByteArray}:P.underlying t=some .string->s.size<=maxLen->Shape P t [.str s]
 |nil {t e:TypeId}:P.underlying t=some (.slice e)->Shape P t [.sl .nil []]
 |row {t e:TypeId} {xs:aw}:P.underlying t=some (.slice e)->xs.length<=maxLen->(∀x:DV,x∈xs->x=nK P e x.cells)->(∀x:DV,x∈xs->Shape P e x.cells)->Shape P t [.sl .sub xs]
 |struct {t:TypeId} {fs:Array Field} {cs:aw}:P.underlying t=some (.struct fs)->cs.length=P.cellsOf t->(∀f:Field,f∈fs.toList->Shape P f.type ((cs.drop f.offset).take (P.cellsOf f.type)))->Shape P t cs
def VRs(w:World)(b:Nat)(ds:aw)(cs:dF):Prop:=ds.length=cs.length/\(∀v:DV,v∈ds->v.isCell=true)/\∀M,b<=M->∀(j:Nat) (v:DV) (u:Value),ds[j]?=some v->cs[j]?=some u->VR (start w M) w v u
theorem VRs.one{c:Nat}{v:DV}{u:Value}(hc:v.isCell=true)(h:∀M,c<=M->VR (start w M) w v u):VRs w c [v] [u]:=
 ⟨rfl,fun x hx=>by simp at hx;subst hx;exact hc,fun M k j x y b d=>by
  cases j with
  |zero=>simp at b d;subst b;subst d;exact h M k
  |succ j=>simp at b⟩
theorem bound(f:Nat->Nat):∀n,∃M,∀i,i<n->f i<=M
 |0=>⟨0,fun i h=>by omega⟩
 |n+1=>by
  obtain⟨M,h⟩:=bound f n;refine⟨max M (f n),fun i hi=> ?_⟩;rcases mh i n with b|b
  ·exact eo (h i b) (qo _ _)
  ·have:i=n:=by omega
   subst this;exact pD _ _
end
variable{x:aw}{t e:TypeId}{fs:Array Field}
section
open Go.ChangeShapes Go.WideShapes Go.ChangeAt Go.RowKit
def wE(P:Program):List TypeId->List aw->Prop
 | [],[]=>True
 |t::ts,x::xs=>(x.length=P.cellsOf t/\Shape P t x)/\wE P ts xs
 |_,_=>False
def HH(P:Program):List TypeId->List aw->aH
 |t::ts,x::xs=> .d (nK P t x)::HH P ts xs
 |_,_=>[]
variable {P:Program} {fid:Nat->FuncId}
theorem IA{k:IntKind}(b:P.underlying t=some (.int k))(h:Shape P t x):∃n,x=[.int k n]/\(Lit.int k n).wf=true:=by
 cases h with
 |int h c=>rw[b]at h;simp at h;subst h;exact⟨_,rfl,c⟩
 |bool h=>rw[b]at h;simp at h
 |str h=>rw[b]at h;simp at h
 |nil h=>rw[b]at h;simp at h
 |row h=>rw[b]at h;simp at h
 |struct h=>rw[b]at h;simp at h
theorem Vz(c:P.underlying t=some .bool)(h:Shape P t x):∃b,x=[.bool b]:=by
 cases h with
 |int h d=>rw[c]at h;simp at h
 |bool h=>exact⟨_,rfl⟩
 |str h=>rw[c]at h;simp at h
 |nil h=>rw[c]at h;simp at h
 |row h=>rw[c]at h;simp at h
 |struct h=>rw[c]at h;simp at h
theorem W6(b:P.underlying t=some .string)(h:Shape P t x):∃s:ByteArray,x=[.str s]/\s.size<=maxLen:=by
 cases h with
 |int h c=>rw[b]at h;simp at h
 |bool h=>rw[b]at h;simp at h
 |str h c=>exact⟨_,rfl,c⟩
 |nil h=>rw[b]at h;simp at h
 |row h=>rw[b]at h;simp at h
 |struct h=>rw[b]at h;simp at h
theorem NO(b:P.underlying t=some (.slice e))(h:Shape P t x):∃g xs,x=[.sl g xs]/\xs.length<=maxLen/\(g= .nil->xs=[])/\(∀y:DV,y∈xs->y=nK P e y.cells)/\∀y:DV,y∈xs->Shape P e y.cells:=by
 cases h with
 |int h j=>rw[b]at h;simp at h
 |bool h=>rw[b]at h;simp at h
 |str h j=>rw[b]at h;simp at h
 |nil h=>exact⟨.nil,[],rfl,by simp,fun _=>rfl,by simp,by simp⟩
 |row h d k c=>rw[b]at h;simp at h;subst h;exact⟨.sub,_,rfl,d,by simp,k,c⟩
 |struct h=>rw[b]at h;simp at h
theorem OK(b:P.underlying t=some (.struct fs))(h:Shape P t x):x.length=P.cellsOf t/\∀f:Field,f∈fs.toList->Shape P f.type ((x.drop f.offset).take (P.cellsOf f.type)):=by
 cases h with
 |int h d=>rw[b]at h;simp at h
 |bool h=>rw[b]at h;simp at h
 |str h d=>rw[b]at h;simp at h
 |nil h=>rw[b]at h;simp at h
 |row h=>rw[b]at h;simp at h
 |struct h c j=>rw[b]at h;simp at h;subst h;exact⟨c,j⟩
end
attribute [simp] qXX YF XP q3Y qOd qI9 Tu qUg q5Z ZB bA qJS RG V6 XX TK Xn Z7 qJR Wh Pw Z9 UG Wk qCr SI bb aY a6 XK qBO ba NE ic qMJ eL y8 si WS Rm SX qKv YE qBP Q5 Wo
def eR(s:ByteArray)(i:Nat):Int:=((s[i]?).map fun b=>(b.toNat:Int)).getD 0
variable{i:Nat}
theorem BD{s:ByteArray}(h:i<s.size):ul s i=some (eR s i):=by simp[ul,eR,h]
@[simp] theorem q4n(A:Ids):Ids.or Ids.none A=A:=by funext x;simp[Ids.or,Ids.none]
variable{n:Nat}
theorem Cs(h:n<9223372036854775808):IntKind.i64.wrap (n:Int)=n:=wrap_i64 (by omega) (by omega)
theorem aV(h:n+1<9223372036854775808):IntKind.i64.wrap ((n:Int)+1)=((n+1:Nat):Int):=by have:=Cs h;rw[<-this];congr 1
def ints(g:Tag)(l:ax):DV:= .sl g (l.map (.int .i64))
def f7(es:aw):aH:=(flat es).map .d
variable{es:aw}{sz:Nat}
theorem Ls(h:∀x:DV,x∈es->x.cells.length=sz):(f7 es).length=es.length*sz:=by simp[f7,we h]
theorem LN{e:DV}(h:∀x:DV,x∈es->x.cells.length=sz)(b:e.cells.length=sz)(hi:i<es.length):
 splice (f7 es) (i*sz) (e.cells.map .d)=f7 (es.set i e):=by
 unfold f7;rw[Lo i e h b hi];simp[splice,BS,HF]
theorem KL:∀(l:aw),bd (l.map .d)=some l
 | []=>rfl
 |v::r=>by simp[bd,KL r]
theorem Ds(es:aw):bd (f7 es)=some (flat es):=KL _
def xj(agg:Bool)(sz:Nat)(x:DV):Prop:=x.cells.length=sz/\x.cells.all DV.isCell=true/\(agg=true->∃cs,x= .agg cs)/\(agg=false->x.cells=[x])
theorem xM{agg:Bool}:∀(es:aw),(∀x:DV,x∈es->xj agg sz x)->chunks agg sz es.length (flat es)=some es
 | [],_=>rfl
 |x::r,h=>by
  obtain⟨c,k,m,j⟩:=h x (by simp);have o:=xM r fun y hy=>h y (by simp[hy])
  have d:flat (x::r)=x.cells++flat r:=rfl;have b:cut agg sz (flat (x::r))=some x:=by
   rw[d];cases agg with
   |true=>
    obtain⟨cs,rfl⟩:=m rfl;simp only[DV.cells]at c⊢
    simp[cut,<-c]
   |false=>have:=j rfl;rw[this];simp[cut]
  have l:(flat (x::r)).drop sz=flat r:=by rw[d,<-c];simp
  simp only[cY,chunks,b,bO,c,k,xu,if_true,l,o,b7]
def filled(es:aw)(z:DV)(i:Nat):aw:=es.take i++List.replicate (es.length-i) z
theorem BG(es:aw)(z:DV)(i:Nat):(filled es z i).length=es.length:=by simp[filled];omega
theorem IE(es:aw)(z:DV)(i:Nat)(h:i<es.length):(filled es z i).set i es[i]=filled es z (i+1):=by
 unfold filled;have c:es.length-i=(es.length-(i+1))+1:=by omega
 have b:(es.take i).length=i:=by simp;omega
 rw[vP _ _ (by omega),b,m_,c,me,wh,List.take_succ_eq_append_getElem h,bW];rfl
theorem Jy(es:aw)(z:DV):filled es z 0=List.replicate es.length z:=by simp[filled]
theorem ND(es:aw)(z:DV):filled es z es.length=es:=by simp[filled]
theorem Co{z:DV}(h:∀x:DV,x∈es->x.cells.length=sz)(b:z.cells.length=sz)(i:Nat):∀x:DV,x∈filled es z i->x.cells.length=sz:=by
 intro x hx;rcases bu.1 hx with hx|hx
 ·exact h x (pI hx)
 ·rw[(List.mem_replicate.1 hx).2];exact b
variable {P:Program}
theorem wf_i64{n:Int}(h:(Lit.int .i64 n).wf=true): -9223372036854775808<=n/\n<=9223372036854775807:=by simp[Lit.wf,IntKind.min,IntKind.max,IntKind.signed,IntKind.bits]at h;omega
structure SymL where
 name:ByteArray
 arity:Int
 ac:Bool
abbrev aC:=List SymL
def SymL.cells(s:SymL):aw:=[.str s.name,.int .i64 s.arity,.bool s.ac]
def SymL.enc(s:SymL):DV:= .agg s.cells
def SymL.ok(s:SymL):Prop:=s.name.size<=maxLen/\-9223372036854775808<=s.arity/\s.arity<=9223372036854775807
def Cc(g:Tag)(l:aC):DV:= .sl g (l.map SymL.enc)
def vj(fs:Array Field):List (TypeId×Nat):=fs.toList.map fun f=>(f.type,f.offset)
theorem rk(h:∀f:Field,f∈fs.toList->Shape P f.type ((x.drop f.offset).take (P.cellsOf f.type))){o:Nat}(c:(t,o)∈vj fs):Shape P t ((x.drop o).take (P.cellsOf t)):=by simp only[vj,cE]at c;obtain⟨f,d,b⟩:=c;simp at b;obtain⟨rfl,rfl⟩:=b;exact h f d
variable{ti tb:TypeId}
theorem RQ{ts:TypeId}(u:P.underlying t=some (.struct fs))(k:vj fs=[(ts,0),(ti,1),(tb,2)])(y:P.underlying ts=some .string)(D:P.underlying ti=some (.int .i64))(F:P.underlying tb=some .bool)
 (hc:P.cellsOf t=3/\P.cellsOf ts=1/\P.cellsOf ti=1/\P.cellsOf tb=1) (h:Shape P t x):∃s:SymL,x=s.cells/\s.ok:=by
 obtain⟨m,d⟩:=OK u h;rw[hc.1]at m
 match x,m with
 | [a,b,c],_=>
  have j:=rk d (t:=ts) (o:=0) (by simp[k]);have l:=rk d (t:=ti) (o:=1) (by simp[k]);have e3:=rk d (t:=tb) (o:=2) (by simp[k]);rw[hc.2.1]at j;rw[hc.2.2.1]at l;rw[hc.2.2.2]at e3
  simp at j l e3;obtain⟨s,p,G⟩:=W6 y j;obtain⟨n,r,z⟩:=IA D l;obtain⟨C,q⟩:=Vz F e3;simp at p r q;subst p;subst r;subst q
  have:=wf_i64 z;exact⟨⟨s,n,C⟩,rfl,G,this.1,this.2⟩
theorem Ww{ts:TypeId}(G:P.underlying t=some (.slice e))(p:P.underlying e=some (.struct fs))(J:vj fs=[(ts,0),(ti,1),(tb,2)])(q:P.underlying ts=some .string)(u:P.underlying ti=some (.int .i64))(I:P.underlying tb=some .bool)
 (hc:P.cellsOf e=3/\P.cellsOf ts=1/\P.cellsOf ti=1/\P.cellsOf tb=1) (h:Shape P t x):∃g l,x=[Cc g l]/\l.length<=maxLen/\∀s,s∈l->s.ok:=by
 obtain⟨g,xs,rfl,b,o,C,H⟩:=NO G h;have key:∀xs:aw,(∀y:DV,y∈xs->y=nK P e y.cells)->(∀y:DV,y∈xs->Shape P e y.cells)->∃l:aC,xs=l.map SymL.enc/\∀s,s∈l->s.ok:=by
  intro xs
  induction xs with
  |nil=>intro _ _;exact⟨[],rfl,by simp⟩
  |cons y r D=>
   intro b o;obtain⟨l,rfl,d⟩:=D (fun z j=>b z (by simp[j])) (fun z j=>o z (by simp[j]));obtain⟨s,F,k⟩:=RQ p J q u I hc (o y (by simp));have hy:=b y (by simp);rw[F]at hy;simp[nK,p]at hy;subst hy;refine⟨s::l,rfl,fun m c=> ?_⟩;rcases cC.1 c with rfl|c
   ·exact k
   ·exact d m c
 obtain⟨l,rfl,d⟩:=key xs C H;exact⟨g,l,rfl,by simpa using b,d⟩
inductive TT where
 |node (f v:Int) (g:Tag) (kids:List TT)
abbrev nI:=List TT
mutual
def TT.cells:TT->aw
 | .node f v g ks=>[.int .i64 f,.int .i64 v,.sl g (TT.encs ks)]
def TT.encs:nI->aw
 | []=>[]
 |t::r=> .agg t.cells::TT.encs r
end
def TT.enc(t:TT):DV:= .agg t.cells
theorem TT.qeH:∀l:nI,TT.encs l=l.map TT.enc
 | []=>by unfold TT.encs;rfl
 |t::r=>by unfold TT.encs;simp[TT.enc,TT.qeH r]
mutual
def TT.ok:TT->Prop
 | .node f v g ks=>(-9223372036854775808<=f/\f<=9223372036854775807)/\(-9223372036854775808<=v/\v<=9223372036854775807)/\ks.length<=maxLen/\TT.oks ks
def TT.oks:nI->Prop
 | []=>True
 |t::r=>t.ok/\TT.oks r
end
theorem TT.qr1:∀l:nI,TT.oks l↔∀t,t∈l->t.ok
 | []=>by simp[TT.oks]
 |t::r=>by simp[TT.oks,TT.qr1 r]
theorem FR{C:TypeId}(q:P.underlying t=some (.struct fs))(u:vj fs=[(ti,0),(ti,1),(C,2)])(D:P.underlying ti=some (.int .i64))(O:P.underlying C=some (.slice t))
 (hc:P.cellsOf t=3/\P.cellsOf ti=1/\P.cellsOf C=1):∀(n:Nat) (x:aw),SizeOf.sizeOf x<n->Shape P t x->∃s:TT,x=s.cells/\s.ok
 |0,x,R,_=>by omega
 |n+1,x,R,h=>by
  obtain⟨p,d⟩:=OK q h;rw[hc.1]at p
  match x,p with
  | [a,b,c],_=>
   have I:=rk d (t:=ti) (o:=0) (by simp[u]);have G:=rk d (t:=ti) (o:=1) (by simp[u]);have e3:=rk d (t:=C) (o:=2) (by simp[u]);rw[hc.2.1]at I G;rw[hc.2.2]at e3
   simp at I G e3;obtain⟨f,S,q2⟩:=IA D I;obtain⟨v,Q,q4⟩:=IA D G;obtain⟨g,xs,K,q6,q7,q8,Y⟩:=NO O e3;simp at S Q K;subst S;subst Q;subst K
   have key:∀j:aw,(∀y:DV,y∈j->SizeOf.sizeOf y<n+1)->(∀y:DV,y∈j->y=nK P t y.cells)->(∀y:DV,y∈j->Shape P t y.cells)->∃l:nI,j=TT.encs l/\TT.oks l:=by
    intro j
    induction j with
    |nil=>intro _ _ _;exact⟨[],by simp[TT.encs],by simp[TT.oks]⟩
    |cons y r ih=>
     intro X V M;obtain⟨l,rfl,p⟩:=ih (fun z m=>X z (by simp[m])) (fun z m=>V z (by simp[m])) (fun z m=>M z (by simp[m]));have hy:=V y (by simp);have k:=X y (by simp);have F:SizeOf.sizeOf y.cells<n:=by rw[hy]at k;simp[nK,q]at k;omega
     obtain⟨s,hs,J⟩:=FR q u D O hc n y.cells F (M y (by simp));refine⟨s::l,?_,by simp[TT.oks,J,p]⟩;rw[hs]at hy;simp[nK,q]at hy;simp[TT.encs,hy]
   obtain⟨l,rfl,H⟩:=key xs (fun y hy=>by have:=d9 hy;simp at R;omega) q8 Y
   have w1:=wf_i64 q2;have Z:=wf_i64 q4;refine⟨.node f v g l,by simp[TT.cells],?_⟩;simp only[TT.ok];refine⟨w1,Z,?_,H⟩;simpa[TT.qeH]using q6
end Go.Proofs.YtpcoohnjllclnaaGreat.VS
