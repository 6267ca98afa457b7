/- Contracts of the program's functions on the evaluator without names, and plain lemmas: part 5. -/
import Derived.Test.YtfiakfiocdfpbaaXP4
import Derived.Test.YtfiakfiocdfpbaaNat1
import Derived.Test.YtfiakfiocdfpbaaEngC
import Derived.Shelf.Spec.SlicesInsertGrow
import Derived.Laws.AppendOwn
set_option linter.unusedSimpArgs false
set_option linter.unusedVariables false
namespace Go.Proofs.Ytfiakfiocdfpbaa.VS
end Go.Proofs.Ytfiakfiocdfpbaa.VS
namespace Go.Proofs.Ytfiakfiocdfpbaa.VS
theorem qhQ:∀i,i<qdk.length->(qaG qdk i).name.size<=1099511627776:=fun i hi=>by have:=qLg.nm 9 (by omega) i hi;omega
end Go.Proofs.Ytfiakfiocdfpbaa.VS
namespace Go.Proofs.Ytfiakfiocdfpbaa.VS
theorem qJP{u:List Bd}(h:∀b,b∈u->BdD b):∀i,i<u.length->(bAt u i).t.inner<=1099511627776:=fun i hi=>by have:=(h _ (qsL hi)).inner;omega
theorem qjB(bs:List Int)(hl:bs.length<=maxLen):∃B,qad XV 176 [.d (.sl .sub (bs.map (.int .u8)))] []=some (.d (.bool true),B):=by
 rw[qap XV _ _ _ qDU rfl qx1 rfl];have hbig:=qOo bs
 by_cases h1:1048576<bs.length
 ·simp only[h1,decide_true]at hbig
  simp[qDU,qpC,qpB,qpA,qpz,qpy,qpx,quJ,quI,qpw,hbig]
 have hls:bs.length<=1099511627776:=by omega
 simp only[h1,decide_false]at hbig;obtain⟨a,b,⟨ha,_⟩,⟨hb,_⟩,d1⟩:=qmo bs hls;obtain⟨u,g,ds,t,⟨hu,hud,hds⟩,_,d2⟩:=qqL bs hls;have g1:=qf9 qdk (by decide) qhQ a b (by omega) (by omega);have g2:=qml qdk (by decide) qhQ a b (by omega) (by omega);have o1:=qqr qdk u (by decide) qhQ (by omega) (qJP hud);have hM:∀i,i<u.length->(bAt u i).t.inner<=14:=fun i hi=>(hud _ (qsL hi)).inner
 have ia:(qbO u a).inner<=300:=by
  have:=qgr u 14 hM a;have:(a.inner+1)*(14+1)<=15*15:=Nat.mul_le_mul (by omega) (by omega);omega
 have ib:(qbO u b).inner<=300:=by
  have:=qgr u 14 hM b;have:(b.inner+1)*(14+1)<=15*15:=Nat.mul_le_mul (by omega) (by omega);omega
 have a1:=qi6 qdk (by decide) u a (by omega) (qJP hud) (by omega) (by omega);have a2:=qi6 qdk (by decide) u b (by omega) (qJP hud) (by omega) (by omega);have na:=qdd qdk (qbO u a);have nb:=qdd qdk (qbO u b);have hst:=qoz qdk u a b;have k1:=qcZ qdk (by decide) qhQ ((qbO u a).norm qdk) (by omega);have k2:=qcZ qdk (by decide) qhQ ((qbO u b).norm qdk) (by omega);have k3:=qf9 qdk (by decide) qhQ ((qbO u a).norm qdk) ((qbO u b).norm qdk) (by omega) (by omega);rw[show qu5 qdk u a=(qbO u a).norm qdk from rfl]at a1;rw[show qu5 qdk u b=(qbO u b).norm qdk from rfl]at a2;generalize (qbO u a).norm qdk=x at*
 generalize (qbO u b).norm qdk=y at*
 simp only[sg,binds]at g1 g2 o1 a1 a2 k1 k2 k3;generalize hq:qdk.map SymL.enc=sq at*
 have hqc:sq.map DV.clr=sq:=by rw[<-hq];exact qfA _
 have huc:(u.map (Bd.enc .sub)).map DV.clr=u.map (Bd.enc .sub):=by simp
 generalize u.map (Bd.enc .sub)=uq at*
 generalize qc1 qdk a b=ga at*
 generalize qmD qdk u=so at*
 generalize qaT qdk x=tx at*
 generalize qaT qdk y=ty at*
 generalize qc1 qdk x y=gx at*
 obtain⟨af,av,ak⟩:=a;obtain⟨bf,bv,bk⟩:=b;obtain⟨xf,xv,xk⟩:=x;obtain⟨yf,yv,yk⟩:=y;obtain⟨tf,tv,tk⟩:=t;refine⟨[],?_⟩;cases ga with
 |false=>simp[qDU,qpC,qpB,qpA,qpz,qpy,qpx,quJ,quI,qpw,hbig,d1,d2,hds,huc,g1,g2,hqc,splice,qaa,qac,qaf,qar,qae]
 |true=>
  cases so with
  |false=>simp[qDU,qpC,qpB,qpA,qpz,qpy,qpx,quJ,quI,qpw,hbig,d1,d2,hds,huc,g1,g2,o1,hqc,splice,qaa,qac,qaf,qar,qae]
  |true=>
   cases tx<;>cases ty<;>cases gx<;>first
    |(simp at hst;done)
    |(simp[qDU,qpC,qpB,qpA,qpz,qpy,qpx,quJ,quI,qpw,hbig,d1,d2,hds,huc,g1,g2,o1,a1,a2,k1,k2,k3,hqc,splice,qaa,qac,qaf,qar,qae];done)
end Go.Proofs.Ytfiakfiocdfpbaa.VS
namespace Go.Proofs.Ytfiakfiocdfpbaa.VS
mutual
def TT.erase:TT->T
 | .node f v g ks=> .node f v (TT.erases ks)
def TT.erases:List TT->List T
 | []=>[]
 |t::r=>t.erase::TT.erases r
end
mutual
theorem TT.qc7:∀t:TT,DV.clrs t.cells=[.int .i64 t.erase.f,.int .i64 t.erase.v,qai .sub t.erase.kids]
 | .node f v g ks=>by
  simp only[TT.cells,DV.clrs,DV.clr,TT.erase,T.qbv,T.qcS,T.qaH,qai];rw[TT.qeW ks]
theorem TT.qeW:∀l:List TT,DV.clrs (TT.encs l)=(TT.erases l).map (T.enc .sub)
 | []=>by simp[TT.encs,DV.clrs,TT.erases]
 |t::r=>by
  simp only[TT.encs,DV.clrs,DV.clr,TT.erases,List.map_cons];rw[TT.qc7 t,TT.qeW r,T.qbP]
end
theorem TT.qfI(t:TT):t.enc.clr=t.erase.enc .sub:=by
 simp only[TT.enc,DV.clr];rw[TT.qc7,T.qbP]
theorem qwm(hX:XOK XV){k:Nat}{vs:List DV}(h:∃B,qad XV k ((DV.clrs vs).map .d) []=some (.d (.bool true),B)):∃A B,qxm E [] k (vs.map .d) [] Ids.none=some ⟨.d (.bool true),A,B⟩:=by
 obtain⟨B,h⟩:=h;obtain⟨u,A,Bv,h1,h2⟩:=qEO hX (DV.qcJ vs) (DV.qcI vs) (d:= .bool true) (by simp[DV.clr]) h;simp only[DV.fit]at h2;subst h2
 exact⟨A,Bv,h1⟩
theorem qSy{P:Program}{a:TypeId}:∀{xs:List (List DV)},qKs P [a] xs->∃x,xs=[x]
 | [x],_=>⟨x,rfl⟩
 | [],h=>h.elim
 |_::_::_,h=>h.2.elim
end Go.Proofs.Ytfiakfiocdfpbaa.VS
namespace Go.Proofs.Ytfiakfiocdfpbaa.VS
structure L where
 p:Bool
 a:T
 b:T
def L.enc(g:Tag)(x:L):DV:= .agg [.bool x.p,.int .i64 x.a.f,.int .i64 x.a.v,qai g x.a.kids,.int .i64 x.b.f,.int .i64 x.b.v,qai g x.b.kids]
def L.ok(x:L):Prop:=x.a.ok/\x.b.ok
@[simp] theorem L.qre(g:Tag)(x:L):(x.enc g).cells=[.bool x.p,.int .i64 x.a.f,.int .i64 x.a.v,qai g x.a.kids,.int .i64 x.b.f,.int .i64 x.b.v,qai g x.b.kids]:=rfl
@[simp] theorem L.qnu(g:Tag)(x:L):(AV.d (x.enc g)).cells=[.d (.bool x.p),.d (.int .i64 x.a.f),.d (.int .i64 x.a.v),.d (qai g x.a.kids),.d (.int .i64 x.b.f),.d (.int .i64 x.b.v),.d (qai g x.b.kids)]:=rfl
@[simp] theorem L.qnt(g:Tag)(x:L):(x.enc g).isCell=false:=rfl
@[simp] theorem L.qfI(g:Tag)(x:L):(x.enc g).clr=x.enc .sub:=by
 simp only[L.enc,DV.clr,DV.clrs,qai,DV.qav,qb2]
theorem L.agg_enc(g:Tag)(x:L):DV.agg [.bool x.p,.int .i64 x.a.f,.int .i64 x.a.v,qai g x.a.kids,.int .i64 x.b.f,.int .i64 x.b.v,qai g x.b.kids]=x.enc g:=rfl
def L.cmp(x y:L):Int:=if !x.p&&y.p then-1 else if x.p&& !y.p then 1 else if T.cmp x.a y.a≠0 then T.cmp x.a y.a else T.cmp x.b y.b
def L.same(x y:L):Bool:=x.p==y.p&&(T.cmp x.a y.a==0)&&(T.cmp x.b y.b==0)
theorem L.cmp_zero(x y:L):(L.cmp x y==0)=L.same x y:=by
 obtain⟨p,a,b⟩:=x;obtain⟨q,a',b'⟩:=y;unfold L.cmp L.same;cases p<;>cases q<;>by_cases c:T.cmp a a'=0<;>simp[c]
end Go.Proofs.Ytfiakfiocdfpbaa.VS
namespace Go.Proofs.Ytfiakfiocdfpbaa.VS
variable {P:Program}
structure LL where
 p:Bool
 a:TT
 b:TT
def LL.cells(x:LL):List DV:= .bool x.p::(x.a.cells++x.b.cells)
def LL.enc(x:LL):DV:= .agg x.cells
def LL.ok(x:LL):Prop:=x.a.ok/\x.b.ok
def LL.erase(x:LL):L:=⟨x.p,x.a.erase,x.b.erase⟩
theorem LL.qfI(x:LL):x.enc.clr=x.erase.enc .sub:=by
 have ha:=TT.qc7 x.a;have hb:=TT.qc7 x.b;rw[DV.qav]at ha hb;simp only[LL.enc,LL.cells,DV.clr,DV.qav,List.map_cons,List.map_append,ha,hb,LL.erase,L.enc];rfl
theorem qpq{α:Type}(c:α->List DV)(ok:α->Prop){t e:TypeId}{x:List DV}(hu:P.underlying t=some (.slice e))(hE:∀y:List DV,Shape P e y->∃s:α,y=c s/\ok s)(h:Shape P t x):
 ∃(g:Tag) (l:List α),x=[.sl g (l.map fun s=>qb0 P e (c s))]/\l.length<=maxLen/\∀s,s∈l->ok s:=by
 obtain⟨g,xs,rfl,q1,q2,q3,q4⟩:=qrH hu h;have key:∀xs:List DV,(∀y:DV,y∈xs->y=qb0 P e y.cells)->(∀y:DV,y∈xs->Shape P e y.cells)->∃l:List α,xs=(l.map fun s=>qb0 P e (c s))/\∀s,s∈l->ok s:=by
  intro xs
  induction xs with
  |nil=>intro _ _;exact⟨[],rfl,by simp⟩
  |cons y r ih=>
   intro p1 p2;obtain⟨l,rfl,hl⟩:=ih (fun z hz=>p1 z (by simp[hz])) (fun z hz=>p2 z (by simp[hz]));obtain⟨s,hs,hok⟩:=hE _ (p2 y (by simp));refine⟨s::l,?_,by simpa[hok]using hl⟩;have:=p1 y (by simp);rw[hs]at this;rw[List.map_cons,<-this]
 obtain⟨l,rfl,hl⟩:=key xs q3 q4;exact⟨g,l,rfl,by simpa using q1,hl⟩
structure BB where
 v:Int
 t:TT
def BB.cells(x:BB):List DV:= .int .i64 x.v::x.t.cells
def BB.enc(x:BB):DV:= .agg x.cells
def BB.ok(x:BB):Prop:=(-9223372036854775808<=x.v/\x.v<=9223372036854775807)/\x.t.ok
def BB.erase(x:BB):Bd:=⟨x.v,x.t.erase⟩
theorem BB.qfI(x:BB):x.enc.clr=x.erase.enc .sub:=by
 have ha:=TT.qc7 x.t;rw[DV.qav]at ha;simp only[BB.enc,BB.cells,DV.clr,DV.qav,List.map_cons,ha,BB.erase,Bd.enc]
def qqU(g:Tag)(l:List Int):DV:= .sl g (l.map (.int .u8))
theorem qxa(g:Tag)(l:List Int):(qqU g l).clr= .sl .sub (l.map (.int .u8)):=by
 simp only[qqU,qHa,List.map_map,Function.comp_def,qsH]
theorem qrI{t e:TypeId}{x:List DV}(hu:P.underlying t=some (.slice e))(he:P.underlying e=some (.int .u8))(h:Shape P t x):∃g l,x=[qqU g l]/\l.length<=maxLen:=by
 obtain⟨g,l,rfl,h1,_⟩:=qpq (fun n:Int=>[DV.int .u8 n]) (fun _=>True) hu (fun y hy=>by
  obtain⟨n,rfl,_⟩:=qy9 he hy;exact⟨n,rfl,trivial⟩) h
 exact⟨g,l,by simp[qqU,qb0,he],h1⟩
end Go.Proofs.Ytfiakfiocdfpbaa.VS
namespace Go.Proofs.Ytfiakfiocdfpbaa.VS
open Go.RowKit
variable {P:Program} {fid:Nat->FuncId}
theorem qCo{X:XEnv}(hX:XOK X)(hE:EnvOK P fid X.env){f:Nat}{xs:List AV}{B:qal}{v':AV}{B':qal}(h:qad X f xs B=some (v',B')){vs:List AV}{Bv:qal}(hf:AV.fits xs vs)(hb:qa6 B Bv)
 (ho:∀ℓ,qag (qaj 0 xs) B (qaj 0 vs) Bv ℓ=[]) {g:Gh} {w:World} {us:Array Value} (hus:us.size=vs.length) (hrel:∀(j:Nat) (v:AV) (u:Value),vs[j]?=some v->us[j]?=some u->AVR fid g w v u)
 (hc:Core fid g w Bv Ids.none) (hfr:qf8 g [] 0):Calls P (fid f) us w fun e w'=>∃u g' vv A' Bv',e= .returned u/\v'.fit vv/\qa6 B' Bv'/\Post fid (from_ [] 0) g w Ids.none ⟨vv,A',Bv'⟩ u g' w':=by
 obtain⟨n,hn⟩:=qbz.1 h;obtain⟨v,Bv',A',h1,h2,h3,_⟩:=qo4 hX n f _ _ _ _ hn [] vs Bv Ids.none (fun _=>False) hf hb
  ⟨fun ℓ=>by rw[ho];simp,fun ℓ ℓ' a ha=>by rw[ho]at ha;simp at ha,fun ℓ a ha=>by rw[ho]at ha;simp at ha,fun a ha=>by simp at ha⟩ (fun j _=>ho (.reg j)) (fun a ha=>by simp[Ids.none]at ha)
 obtain⟨_,hcc⟩:=quR hE n [] f vs Bv Ids.none _ h1;exact(hcc g w us hus hrel hc hfr).mono fun e w' ⟨u,g',he,hp⟩=>⟨u,g',v,A',Bv',he,h2,h3,hp⟩
structure IntsAt(w:World)(base:Option Addr)(n c:Nat)(xs:List Int):Prop where
 len:xs.length=n
 cap:n<=c
 lim:(n+1)*8<=140737488355328
 capm:c<=maxLen
 nil:base=none->n=0/\c=0
 cell:∀ad,base=some ad->0<n->ad.spot=none/\∀(j:Nat) (x:Int),xs[j]?=some x->w.cell? ⟨ad.block,ad.off+j,none⟩=some (.int .i64 x)
theorem qJN{w:World}{b o:Nat}{v:Value}(h:w.cell? ⟨b,o,none⟩=some v):b<w.heap.size:=by
 unfold World.cell? at h;split at h
 ·rename_i h1;exact(Array.getElem?_eq_some_iff.1 h1).1
 ·simp at h
theorem IntsAt.lt{w:World}{base:Option Addr}{n c:Nat}{xs:List Int}(h:IntsAt w base n c xs){ad:Addr}(hb:base=some ad)(hn:0<n):ad.block<w.heap.size:=by
 have h0:xs[0]?=some xs[0]!:=by have:=h.len;cases xs with|nil=>simp at this;omega|cons a r=>simp
 exact qJN ((h.cell ad hb hn).2 0 _ h0)
def qic(base:Option Addr)(n:Nat)(bx:Nat->Option Nat):Gh:=
 {K:=fun b=>match base with|some ad=>if b=ad.block/\0<n then ad.off+n else 0|none=>0,row:=fun _=>none,bx:=bx}
def qyX(base:Option Addr):Tag:=match base with|some _=> .sub|none=> .nil
theorem qA3{w:World}{base:Option Addr}{n c:Nat}{xs:List Int}(h:IntsAt w base n c xs)(bx:Nat->Option Nat):VR (qic base n bx) w (.sl (qyX base) (xs.map (.int .i64))) (.slice base n c):=by
 cases base with
 |none=>
  obtain⟨rfl,rfl⟩:=h.nil rfl;have:xs=[]:=List.length_eq_zero_iff.1 h.len;subst this;exact .nil
 |some ad=>
  have key:VR (qic (some ad) n bx) w (.sl .sub (xs.map (.int .i64))) (.slice (some ad) (xs.map (DV.int .i64)).length c):=by
   refine .row _ _ ad c 1 (fun k=> .int .i64 (xs.getD k 0)) (by simp) (by simpa[h.len]using h.cap) h.capm (fun k hk=> ?_) ?_ (fun i x hx=> ?_) (fun i x j v hi hj=> ?_) (fun a sz ht=>by simp at ht)
   ·have hk':k<xs.length:=by simpa using hk
    obtain⟨h1,h2⟩:=h.cell ad rfl (by have:=h.len;omega);have:ad.add k=⟨ad.block,ad.off+k,none⟩:=by
     obtain⟨bk,o,sp⟩:=ad;simp only at h1;subst h1;unfold Addr.add;split<;>simp_all
    rw[this,h2 k xs[k] (by simp[hk'])];simp[List.getD,hk']
   ·by_cases hn:0<n
    ·right
     simp only[qic];rw[if_pos ⟨trivial,hn⟩];simp[h.len]
    ·left;have:=h.len;simp;cases xs with|nil=>rfl|cons _ _=>simp at this;omega
   ·simp only[List.getElem?_map,Option.map_eq_some_iff]at hx
    obtain⟨y,_,rfl⟩:=hx;exact⟨rfl,fun v hv=>by simp[DV.cells]at hv;subst hv;rfl⟩
   ·simp only[List.getElem?_map,Option.map_eq_some_iff]at hi
    obtain⟨y,hy,rfl⟩:=hi;cases j with
    |succ j=>simp[DV.cells]at hj
    |zero=>
     simp[DV.cells]at hj;subst hj
     simp only[Nat.mul_one,Nat.add_zero,List.getD,hy,Option.getD_some];exact .int _ _
  rw[List.length_map,h.len]at key;exact key
theorem qum{w:World}{base:Option Addr}{n c:Nat}{xs:List Int}(h:IntsAt w base n c xs)(bx:Nat->Option Nat)(b:Nat)(hb:w.heap.size<=b):(qic base n bx).K b=0:=by
 cases base with
 |none=>rfl
 |some ad=>
  simp only[qic];rw[if_neg]
  rintro⟨rfl,hn⟩
  have:=h.lt rfl hn;omega
theorem qGU(t:Tag)(xs:List Int):(AV.d (is xs)).fit (.d (.sl t (xs.map (.int .i64)))):=by
 simp only[AV.fit,is,DV.fit];refine⟨_,rfl,_,_,rfl,?_,.inl rfl⟩;rw[DV.qbd];refine⟨rfl,fun i x y hx hy=> ?_⟩;rw[hx]at hy;simp only[Option.some.injEq]at hy;subst hy;simp only[List.getElem?_map,Option.map_eq_some_iff]at hx;obtain⟨z,_,rfl⟩:=hx;simp only[DV.fit]
theorem qGT(t:Tag)(xs:List Int):(AV.d (is xs)).own (.d (.sl t (xs.map (.int .i64))))=[]:=by
 have hs:(.sub:Tag)≠U:=by decide
 simp only[AV.own,is,DV.own,hs,false_and,if_false,List.nil_append];have:∀(l:List Int) (m:List DV),DV.owns (l.map (.int .i64)) m=[]:=by
  intro l
  induction l with
  |nil=>intro m;simp[DV.owns]
  |cons a r ih=>intro m;cases m<;>simp[DV.owns,DV.own,ih]
 exact this xs _
theorem qr9{X:XEnv}(hX:XOK X)(hE:EnvOK P fid X.env){k:Nat}(hq:∀(l:List Int) (n:Int),l.length<=140737488355328->qad X k [.d (is l),.d (.int .i64 n)] []=some (.d (.bool (l.contains n)),[]))
 {w:World} {base:Option Addr} {n c:Nat} {xs:List Int} (h:IntsAt w base n c xs) (m:Int):
 Calls P (fid k) #[.slice base n c,.int .i64 m] w fun e w'=>e= .returned (.bool (xs.contains m))/\Below w.heap.size w w':=by
 have hlim:=h.lim;have hown:∀ℓ,qag (qaj 0 [.d (is xs),.d (.int .i64 m)]) [] (qaj 0 [.d (.sl (qyX base) (xs.map (.int .i64))),.d (.int .i64 m)]) [] ℓ=[]:=by
  intro ℓ;cases ℓ with
  |box j=>simp[qag,qbH,qa3]
  |reg t=>
   simp only[qag,qb9,qaj,lk]
   by_cases h0:t=0
   ·subst h0;simp only[if_true];exact qGT _ _
   ·by_cases h1:t=0+1
    ·subst h1;simp[AV.own,DV.own]
    ·simp[h0]
     split<;>simp_all
 refine(qCo (P:=P) (fid:=fid) hX hE (hq xs m (by rw[h.len];omega)) (vs:=[.d (.sl (qyX base) (xs.map (.int .i64))),.d (.int .i64 m)]) (Bv:=[]) ?_ ⟨rfl,by simp⟩ hown (g:=qic base n (fun _=>none)) (w:=w) rfl ?_ ?_ (fun q j _=>rfl)).mono ?_
 ·simp only[AV.fits]
  exact⟨_,_,rfl,qGU _ _,_,_,rfl,by simp only[AV.fit,DV.fit];exact⟨_,rfl,rfl⟩,rfl⟩
 ·intro j v u hj hu
  match j with
  |0=>simp at hj hu;subst hj;subst hu;exact .d _ _ (qA3 h _)
  |1=>simp at hj hu;subst hj;subst hu;exact .d _ _ (.int _ _)
  |j+2=>simp at hj
 ·exact⟨fun i b hb=>by simp[qic]at hb,fun i j b hb=>by simp[qic]at hb,fun a ha=>by simp[Ids.none]at ha,fun a a' b x x' ha=>by simp[Ids.none]at ha,qum h _⟩
 ·rintro e w' ⟨u,g',vv,A',Bv',rfl,hfit,_,hp⟩
  simp only[AV.fit,DV.fit]at hfit;obtain⟨y,rfl,rfl⟩:=hfit;have hu:=qc5 hp.val;subst hu;exact⟨rfl,hp.step.os,hp.step.tape,hp.step.output,hp.step.size,fun b hb=>(hp.step.keep b hb (fun i h=>by simp[qic]at h) (fun a h=>by simp[Ids.none]at h)).1⟩
theorem qoC{X:XEnv}(hX:XOK X)(hE:EnvOK P fid X.env){k kc:Nat}(hq:∀(l:List Int) (n:Int),l.length<=140737488355328->qad X k [.d (is l),.fn kc [.ptr 0 0]] [some [.d (.int .i64 n)]]=some (.d (.int .i64 (qdA (qao (fun i=>decide (iAt l i>n)) l.length 0))),[some [.d (.int .i64 n)]]))
 {w:World} {base:Option Addr} {n c:Nat} {xs:List Int} (h:IntsAt w base n c xs) (m:Int) (pb:Nat) (ty:TypeId) (hpb:w.heap[pb]?=some (.cells #[.int .i64 m] ty (0,0))) (hne:∀ad,base=some ad->0<n->ad.block≠pb):
 Calls P (fid k) #[.slice base n c,.func (.func (fid kc)) #[] #[.pointer (some ⟨pb,0,none⟩)]] w fun e w'=>e= .returned (.int .i64 (qdA (qao (fun i=>decide (iAt xs i>m)) xs.length 0)))/\
  w'.os=w.os/\w'.tape=w.tape/\w'.output=w.output/\w.heap.size<=w'.heap.size/\(∀b,b<w.heap.size->b≠pb->w'.heap[b]?=w.heap[b]?)/\w'.cell? ⟨pb,0,none⟩=some (.int .i64 m):=by
 have hlim:=h.lim;have hpl:pb<w.heap.size:=(Array.getElem?_eq_some_iff.1 hpb).1;have hown:∀ℓ,qag (qaj 0 [.d (is xs),.fn kc [.ptr 0 0]]) [some [.d (.int .i64 m)]] (qaj 0 [.d (.sl (qyX base) (xs.map (.int .i64))),.fn kc [.ptr 0 0]]) [some [.d (.int .i64 m)]] ℓ=[]:=by
  intro ℓ;cases ℓ with
  |box j=>
   cases j with
   |zero=>simp[qag,qbH,qa3,AV.owns,AV.own,DV.own]
   |succ j=>simp[qag,qbH,qa3]
  |reg t=>
   simp only[qag,qb9,qaj,lk]
   by_cases h0:t=0
   ·subst h0;simp only[if_true];exact qGT _ _
   ·by_cases h1:t=0+1
    ·subst h1;simp[AV.own]
    ·simp[h0]
     split<;>simp_all
 have hbx:∀i b,(qic base n (fun i=>if i=0 then some pb else none)).bx i=some b->i=0/\b=pb:=by
  intro i b hb;simp only[qic]at hb;split at hb
  ·rename_i hi;simp at hb;exact⟨hi,hb.symm⟩
  ·simp at hb
 refine(qCo (P:=P) (fid:=fid) hX hE (hq xs m (by rw[h.len];omega)) (vs:=[.d (.sl (qyX base) (xs.map (.int .i64))),.fn kc [.ptr 0 0]]) (Bv:=[some [.d (.int .i64 m)]]) ?_ ?_ hown (g:=qic base n (fun i=>if i=0 then some pb else none)) (w:=w) rfl ?_ ?_ (fun q j _=>rfl)).mono ?_
 ·simp only[AV.fits]
  refine⟨_,_,rfl,qGU _ _,_,_,rfl,?_,rfl⟩;simp only[AV.fit,AV.fits];exact⟨_,rfl,⟨_,_,rfl,rfl,rfl⟩,by simp[AV.owns,AV.own]⟩
 ·refine⟨rfl,fun i=> ?_⟩
  cases i with
  |zero=>exact⟨by simp,fun cs hcs=>by simp at hcs;subst hcs;exact⟨_,rfl,AV.qbX (by simp only[AV.fit,DV.fit];exact⟨_,rfl,rfl⟩)⟩⟩
  |succ i=>simp
 ·intro j v u hj hu
  match j with
  |0=>simp at hj hu;subst hj;subst hu;exact .d _ _ (qA3 h _)
  |1=>
   simp at hj hu;subst hj;subst hu
   exact .fn kc _ _ rfl fun j v u h1 h2=>by
    cases j with
    |zero=>simp at h1 h2;subst h1;subst h2;exact .ptr 0 0 pb rfl
    |succ j=>simp at h1
  |j+2=>simp at hj
 ·refine⟨fun i b hb=> ?_,fun i j b hb hb'=>by rw[(hbx i b hb).1,(hbx j b hb').1],fun a ha=>by simp[Ids.none]at ha,fun a a' b x x' ha=>by simp[Ids.none]at ha,qum h _⟩
  obtain⟨rfl,rfl⟩:=hbx i b hb;refine⟨[.d (.int .i64 m)],_,ty,rfl,hpb,by simp,fun j v u h1 h2=> ?_,fun v hv=>by simp at hv;subst hv;exact⟨rfl,qar _ _⟩,?_⟩
  ·cases j with
   |zero=>simp at h1 h2;subst h1;subst h2;exact .d _ _ (.int _ _)
   |succ j=>simp at h1
  ·cases base with
   |none=>rfl
   |some ad=>simp only[qic];rw[if_neg];rintro⟨he,hn⟩;exact hne ad rfl hn he.symm
 ·rintro e w' ⟨u,g',vv,A',Bv',rfl,hfit,hbf,hp⟩
  simp only[AV.fit,DV.fit]at hfit;obtain⟨y,rfl,rfl⟩:=hfit;have hu:=qbx hp.val;subst hu;refine⟨rfl,hp.step.os,hp.step.tape,hp.step.output,hp.step.size,fun b hb hbp=>(hp.step.keep b hb (fun i h=>hbp (hbx i b h).2) (fun a h=>by simp[Ids.none]at h)).1,?_⟩;have hb0:=hp.boxes.old 0 pb rfl;obtain⟨cs,arr,e',c1,c2,c3,c4,_⟩:=hp.core.box 0 pb hb0;obtain⟨ds,d1,d2⟩:=(hbf.2 0).2 _ rfl;rw[c1]at d1;simp at d1;subst d1
  simp only[AV.fits,AV.fit,DV.fit]at d2;obtain⟨_,_,rfl,⟨_,rfl,rfl⟩,rfl⟩:=d2;have hsz:0<arr.size:=by simp at c3;omega
  have:=qbx (c4 0 _ arr[0] rfl (by simp[hsz]));simp[World.cell?,c2,hsz,this]
theorem qcs(b:Nat):∀(vs:List Value) (o:Nat) (w:World) (arr:Array Value) (t:TypeId),w.heap[b]?=some (.cells arr t (0,0))->∃arr',(w.setCells b o vs).heap[b]?=some (.cells arr' t (0,0))/\arr'.size=arr.size
 | [],o,w,arr,t,h=>⟨arr,h,rfl⟩
 |v::r,o,w,arr,t,h=>by
  obtain⟨arr',h1,h2⟩:=qcs b r (o+1) (w.setCell ⟨b,o,none⟩ v) _ t (heap_setCell_same w b o arr t v h);exact⟨arr',h1,by rw[h2];simp⟩
theorem qb8(b:Nat):∀(vs:List Value) (o:Nat) (w:World) (k:Nat),k≠b->(w.setCells b o vs).heap[k]?=w.heap[k]?
 | [],o,w,k,h=>rfl
 |v::r,o,w,k,h=>by
  rw[World.setCells,qb8 b r (o+1) _ k h];exact heap_setCell_other w _ k v h
theorem qcr(b:Nat):∀(vs:List Value) (o:Nat) (w:World),(w.setCells b o vs).os=w.os/\(w.setCells b o vs).tape=w.tape/\(w.setCells b o vs).output=w.output/\(w.setCells b o vs).heap.size=w.heap.size
 | [],o,w=>⟨rfl,rfl,rfl,rfl⟩
 |v::r,o,w=>by
  obtain⟨h1,h2,h3,h4⟩:=qcr b r (o+1) (w.setCell ⟨b,o,none⟩ v);exact⟨h1,h2,h3,by rw[World.setCells,h4];simp[World.setCell]⟩
structure InsertSays(P:Program)(f:FuncId)(T:TypeId):Prop where
 shift:∀(b off n c i vb voff m vc:Nat) (cs vs:List Value) (w:World),i<n->0<m->n+m<=c->c<=9223372036854775807->vb≠b->cs.length=n->vs.length=m->
  (∀(j:Nat) (v:Value),cs[j]?=some v->w.cell? ⟨b,off+j,none⟩=some v)->(∀j,j<n+m->(w.cell? ⟨b,off+j,none⟩).isSome=true)->(∀j,j<n+m->w.frozen? ⟨b,off+j,none⟩=false)->
  (∀(j:Nat) (v:Value),vs[j]?=some v->w.cell? ⟨vb,voff+j,none⟩=some v)->(∀v∈cs,v.oneCell'=true)->(∀v∈vs,v.oneCell'=true)->∀(tA tB:TypeId) (kA kB:Nat),w.shape? vb=some (tA,kA)->w.shape? b=some (tB,kB)->kB≠0->
  w.frozen? ⟨vb,voff,none⟩=false->w.frozen? ⟨vb,kA,none⟩=false->Calls P f #[.slice (some ⟨b,off,none⟩) n c,.int .i64 i,.slice (some ⟨vb,voff,none⟩) m vc] w fun e w'=>
   e= .returned (.slice (some ⟨b,off,none⟩) (n+m) c)/\w'=(w.drew.setCells b (off+(i+m)) (cs.drop i)).setCells b (off+i) vs
 room:∀(b off n c vb voff m vc:Nat) (vs:List Value) (w:World),0<m->n+m<=c->c<=9223372036854775807->vs.length=m->(∀j,j<m->(w.cell? ⟨b,off+n+j,none⟩).isSome=true)->(∀j,j<m->w.frozen? ⟨b,off+n+j,none⟩=false)->
  (∀(j:Nat) (v:Value),vs[j]?=some v->w.cell? ⟨vb,voff+j,none⟩=some v)->(∀v∈vs,v.oneCell'=true)->Calls P f #[.slice (some ⟨b,off,none⟩) n c,.int .i64 n,.slice (some ⟨vb,voff,none⟩) m vc] w fun e w'=>
   e= .returned (.slice (some ⟨b,off,none⟩) (n+m) c)/\w'=w.setCells b (off+n) vs
 endGrow:∀(base:Option Addr) (n c vb voff m vc:Nat) (cs vs:List Value) (w:World),0<m->n<=c->c<n+m->(n+m)*8<=140737488355328->cs.length=n->vs.length=m->(base=none->n=0)->
  (∀a,base=some a->∀(j:Nat) (v:Value),cs[j]?=some v->w.cell? (a.add j)=some v)->(∀(j:Nat) (v:Value),vs[j]?=some v->w.cell? ⟨vb,voff+j,none⟩=some v)->(∀v∈vs,v.oneCell'=true)->
  Calls P f #[.slice base n c,.int .i64 n,.slice (some ⟨vb,voff,none⟩) m vc] w fun e w'=>e= .returned (.slice (some ⟨w.heap.size,0,none⟩) (n+m) (grownCap w (n+m) c T))/\
   w'=w.drew.alloc (.cells ((cs++vs).toArray++Builtin.zeroCells (Value.int .i64 0).cells (grownCap w (n+m) c T-(n+m))) T)
 grow:∀(b off n c i vb voff m vc:Nat) (cs vs:List Value) (w:World),i<n->0<m->n<=c->c<n+m->(n+m)*8<=140737488355328->cs.length=n->vs.length=m->(∀(j:Nat) (v:Value),cs[j]?=some v->w.cell? ⟨b,off+j,none⟩=some v)->
  (∀(j:Nat) (v:Value),vs[j]?=some v->w.cell? ⟨vb,voff+j,none⟩=some v)->(∀v∈cs,v.oneCell'=true)->(∀v∈vs,v.oneCell'=true)->Calls P f #[.slice (some ⟨b,off,none⟩) n c,.int .i64 i,.slice (some ⟨vb,voff,none⟩) m vc] w fun e w'=>
   e= .returned (.slice (some ⟨w.heap.size,0,none⟩) (n+m) (grownCap w (n+m) c T))/\
   w'=(((w.alloc (.cells ((cs.take i).toArray++Builtin.zeroCells (Value.int .i64 0).cells (n+m-i)++Builtin.zeroCells (Value.int .i64 0).cells (grownCap w (n+m) c T-(n+m))) T)).drew.setCells w.heap.size i vs).drew).setCells w.heap.size (i+m) (cs.drop i)
theorem qcL{w:World}{b:Nat}{arr:Array Value}{t:TypeId}{z:Nat×Nat}(h:w.heap[b]?=some (.cells arr t z))(k:Nat):w.cell? ⟨b,k,none⟩=arr[k]?:=by simp[World.cell?,h]
theorem qcG(w:World)(o:Obj):(w.alloc o).heap[w.heap.size]?=some o:=by show(w.heap.push o)[w.heap.size]?=some o;simp
theorem qaM(w:World)(o:Obj):(w.alloc o).heap.size=w.heap.size+1:=by show(w.heap.push o).size=_;simp
theorem qnv(n:Nat):(Builtin.zeroCells (Value.int .i64 0).cells n).size=n:=by rw[size_zeroCells];simp[Value.cells]
theorem qi3(l:List Int):∀v∈l.map (Value.int .i64),v.oneCell'=true:=by
 intro v hv;obtain⟨x,_,rfl⟩:=List.mem_map.1 hv;rfl
structure Inserted(w w':World)(e:Ending)(xs:List Int)(g:Option Nat):Prop where
 ret:∃blk cap arr ty,e= .returned (.slice (some ⟨blk,0,none⟩) xs.length cap)/\(g=some blk\/w.heap.size<=blk)/\w'.heap[blk]?=some (.cells arr ty (0,0))/\cap<=arr.size/\xs.length<=cap/\cap<=maxLen/\
  ∀(j:Nat) (x:Int),xs[j]?=some x->arr[j]?=some (.int .i64 x)
 os:w'.os=w.os
 tape:w'.tape=w.tape
 output:w'.output=w.output
 size:w.heap.size<=w'.heap.size
 block:∀b,b<w.heap.size->g≠some b->w'.heap[b]?=w.heap[b]?
theorem qwI{f:FuncId}{T:TypeId}(hi:InsertSays P f T)(w:World)(vb:Nat)(v:Int)(hv:w.cell? ⟨vb,0,none⟩=some (.int .i64 v))(base:Option Addr):
 Calls P f #[.slice base 0 0,.int .i64 (0:Nat),.slice (some ⟨vb,0,none⟩) 1 1] w fun e w'=>Inserted w w' e [v] none:=by
 refine(hi.endGrow base 0 0 vb 0 1 1 [] [.int .i64 v] w (by omega) (by omega) (by omega) (by omega) rfl rfl (fun _=>rfl) (fun a _ j x hx=>by simp at hx) (fun j x hx=>by
  cases j with
  |zero=>simp at hx;subst hx;exact hv
  |succ j=>simp at hx) (fun x hx=>by simp at hx;subst hx;rfl)).mono ?_
 rintro e w' ⟨rfl,rfl⟩
 have hg:=grownCap_ge w (0+1) 0 T;refine⟨⟨w.heap.size,_,_,T,rfl,.inr (Nat.le_refl _),qcG w.drew _,?_,hg,grownCap_le_maxLen w _ _ _ (by unfold maxLen;omega),fun j x hx=> ?_⟩,rfl,rfl,rfl,by rw[qaM];exact Nat.le_succ _,fun b hb _=>Below.heap_alloc w.drew _ b hb⟩
 ·rw[Array.size_append,qnv];simp;omega
 ·cases j with
  |zero=>simp at hx;subst hx;rw[Array.getElem?_append_left (by simp)];rfl
  |succ j=>simp at hx
theorem qmY{f:FuncId}{T:TypeId}(hi:InsertSays P f T)(w:World)(g cap:Nat)(arr:Array Value)(ty:TypeId)(xs:List Int)(i:Nat)(vb:Nat)(ty2:TypeId)(v:Int)(hg:w.heap[g]?=some (.cells arr ty (0,0)))(hcap:cap<=arr.size)(hn:xs.length<=cap)(hm:cap<=maxLen)
 (hxs:∀(j:Nat) (x:Int),xs[j]?=some x->arr[j]?=some (.int .i64 x)) (hlim:(xs.length+1)*8<=140737488355328) (hv:w.heap[vb]?=some (.cells #[.int .i64 v] ty2 (0,0))) (hne:vb≠g) (hile:i<=xs.length):
 Calls P f #[.slice (some ⟨g,0,none⟩) xs.length cap,.int .i64 (i:Nat),.slice (some ⟨vb,0,none⟩) 1 1] w fun e w'=>Inserted w w' e (xs.take i++v::xs.drop i) (some g):=by
 have hgl:g<w.heap.size:=(Array.getElem?_eq_some_iff.1 hg).1;have hcell:∀k,w.cell? ⟨g,k,none⟩=arr[k]?:=qcL hg;have hvc:w.cell? ⟨vb,0,none⟩=some (.int .i64 v):=by rw[qcL hv];rfl
 have hvs:∀(j:Nat) (x:Value),[Value.int .i64 v][j]?=some x->w.cell? ⟨vb,0+j,none⟩=some x:=fun j x hx=>by
  cases j with
  |zero=>simp at hx;subst hx;exact hvc
  |succ j=>simp at hx
 have h1v:∀x∈[Value.int .i64 v],x.oneCell'=true:=fun x hx=>by simp at hx;subst hx;rfl
 have hcs:∀(j:Nat) (x:Value),(xs.map (Value.int .i64))[j]?=some x->w.cell? ⟨g,0+j,none⟩=some x:=fun j x hx=>by
  simp only[List.getElem?_map,Option.map_eq_some_iff]at hx;obtain⟨y,hy,rfl⟩:=hx;rw[Nat.zero_add,hcell];exact hxs j y hy
 have hfz:∀k,w.frozen? ⟨g,k,none⟩=false:=fun k=>by simp[World.frozen?,hg]
 have hsome:∀k,k<arr.size->(w.cell? ⟨g,k,none⟩).isSome=true:=fun k hk=>by rw[hcell];simp[hk]
 have hmx:maxLen=9223372036854775807:=rfl;have hlen:(xs.take i++v::xs.drop i).length=xs.length+1:=by simp;omega
 have hget:∀j,(xs.take i++v::xs.drop i)[j]?=if j<i then xs[j]? else if j=i then some v else xs[j-1]?:=by
  intro j
  by_cases h1:j<i
  ·rw[if_pos h1,List.getElem?_append_left (by simp;omega),List.getElem?_take,if_pos h1]
  ·rw[if_neg h1,List.getElem?_append_right (by simp;omega)]
   have:(xs.take i).length=i:=by simp;omega
   rw[this]
   by_cases h2:j=i
   ·subst h2;simp
   ·rw[if_neg h2,show j-i=(j-i-1)+1 by omega,List.getElem?_cons_succ,List.getElem?_drop]
    congr 1;omega
 by_cases hroom:xs.length+1<=cap
 ·by_cases hend:i=xs.length
  ·subst hend
   refine(hi.room g 0 xs.length cap vb 0 1 1 [.int .i64 v] w (by omega) hroom (by omega) rfl (fun j hj=>hsome _ (by omega)) (fun j _=>hfz _) hvs h1v).mono ?_
   rintro e w' ⟨rfl,rfl⟩
   obtain⟨arr',a1,a2⟩:=qcs g [.int .i64 v] (0+xs.length) w arr ty hg;obtain⟨r1,r2,r3,r4⟩:=qcr g [.int .i64 v] (0+xs.length) w;refine⟨⟨g,cap,arr',ty,by rw[hlen],.inl rfl,a1,by omega,by rw[hlen];exact hroom,hm,fun j x hx=> ?_⟩,r1,r2,r3,by omega,fun b hb hb'=>qb8 g _ _ w b (fun h=>hb' (by rw[h]))⟩;rw[hget]at hx;rw[<-qcL a1]
   by_cases h1:j<xs.length
   ·rw[if_pos h1]at hx
    rw[World.cell?_setCells_out g _ _ w _ (fun _ _=> .inl (by simpa using h1)),hcell];exact hxs j x hx
   ·rw[if_neg h1]at hx
    by_cases h2:j=xs.length
    ·rw[if_pos h2]at hx;simp at hx;subst hx;subst h2
     have:=World.cell?_setCells_in g [.int .i64 v] (0+xs.length) w (fun j hj=>hsome _ (by simp at hj;omega)) 0 (by simp);simpa using this
    ·rw[if_neg h2]at hx
     have:=(List.getElem?_eq_some_iff.1 hx).1;omega
  ·have hlt:i<xs.length:=by omega
   refine(hi.shift g 0 xs.length cap i vb 0 1 1 (xs.map (.int .i64)) [.int .i64 v] w hlt (by omega) hroom (by omega) hne (by simp) rfl hcs (fun j hj=>by rw[Nat.zero_add];exact hsome _ (by omega)) (fun j _=>hfz _) hvs (qi3 xs) h1v ty2 ty 1 arr.size
    (by simp[World.shape?,hv]) (by simp[World.shape?,hg]) (by omega) (by simp[World.frozen?,hv]) (by simp[World.frozen?,hv])).mono ?_
   rintro e w' ⟨rfl,rfl⟩
   obtain⟨arr1,a1,a2⟩:=qcs g ((xs.map (Value.int .i64)).drop i) (0+(i+1)) w.drew arr ty hg;obtain⟨arr',b1,b2⟩:=qcs g [.int .i64 v] (0+i) _ arr1 ty a1;obtain⟨r1,r2,r3,r4⟩:=qcr g ((xs.map (Value.int .i64)).drop i) (0+(i+1)) w.drew;obtain⟨s1,s2,s3,s4⟩:=qcr g [.int .i64 v] (0+i) (w.drew.setCells g (0+(i+1)) ((xs.map (Value.int .i64)).drop i));refine⟨⟨g,cap,arr',ty,by rw[hlen],.inl rfl,b1,by omega,by rw[hlen];exact hroom,hm,fun j x hx=> ?_⟩,s1.trans r1,s2.trans r2,s3.trans r3,by rw[s4,r4];exact Nat.le_refl _,fun b hb hb'=>by
    rw[qb8 g _ _ _ b (fun h=>hb' (by rw[h])),qb8 g _ _ _ b (fun h=>hb' (by rw[h]))];rfl⟩
   rw[hget]at hx;rw[<-qcL b1];have hsm:∀(j:Nat),j<((xs.map (Value.int .i64)).drop i).length->(w.drew.cell? ⟨g,0+(i+1)+j,none⟩).isSome=true:=fun j hj=>by
    simp at hj;exact hsome _ (by omega)
   by_cases h1:j<i
   ·rw[if_pos h1]at hx
    rw[World.cell?_setCells_out g _ _ _ _ (fun _ _=> .inl (by simpa using h1)),World.cell?_setCells_out g _ _ _ _ (fun _ _=> .inl (by show j<0+(i+1);omega))];exact(hcell j).trans (hxs j x hx)
   ·rw[if_neg h1]at hx
    by_cases h2:j=i
    ·rw[if_pos h2]at hx;simp at hx;subst hx;subst h2
     have:=World.cell?_setCells_in g [.int .i64 v] (0+j) (w.drew.setCells g (0+(j+1)) ((xs.map (Value.int .i64)).drop j)) (fun k hk=>by rw[qcL a1];simp at hk;simp;omega) 0 (by simp);simpa using this
    ·rw[if_neg h2]at hx
     have hjl:=(List.getElem?_eq_some_iff.1 hx).1;rw[World.cell?_setCells_out g _ _ _ _ (fun _ _=> .inr (by show 0+i+1<=j;omega))];have:=World.cell?_setCells_in g ((xs.map (Value.int .i64)).drop i) (0+(i+1)) w.drew hsm (j-(i+1)) (by simp;omega);rw[show 0+(i+1)+(j-(i+1))=j by omega]at this;rw[this];have hx2:xs[j-1]=x:=(List.getElem?_eq_some_iff.1 hx).2;simp only[List.getElem_drop,List.getElem_map];rw[<-hx2]
     congr 3;omega
 ·by_cases hend:i=xs.length
  ·subst hend
   refine(hi.endGrow (some ⟨g,0,none⟩) xs.length cap vb 0 1 1 (xs.map (.int .i64)) [.int .i64 v] w (by omega) hn (by omega) hlim (by simp) rfl (fun h=>by simp at h) (fun a ha j x hx=>by
    simp only[Option.some.injEq]at ha;subst ha
    have:(⟨g,0,none⟩:Addr).add j=⟨g,0+j,none⟩:=by unfold Addr.add;split<;>simp_all
    rw[this];exact hcs j x hx) hvs h1v).mono ?_
   rintro e w' ⟨rfl,rfl⟩
   have hgc:=grownCap_ge w (xs.length+1) cap T;refine⟨⟨w.heap.size,_,_,T,by rw[hlen],.inr (Nat.le_refl _),qcG w.drew _,?_,by rw[hlen];exact hgc,grownCap_le_maxLen w _ _ _ (by omega),fun j x hx=> ?_⟩,rfl,rfl,rfl,by rw[qaM];exact Nat.le_succ _,fun b hb _=>Below.heap_alloc w.drew _ b hb⟩
   ·rw[Array.size_append,qnv];simp;omega
   ·have hj:=(List.getElem?_eq_some_iff.1 hx).1
    rw[hlen]at hj;rw[List.take_length,List.drop_length]at hx;rw[Array.getElem?_append_left (by simp;omega)];have:(xs.map (Value.int .i64)++[Value.int .i64 v])=(xs++[v]).map (Value.int .i64):=by simp
    rw[this,List.getElem?_toArray,List.getElem?_map,hx];rfl
  ·have hlt:i<xs.length:=by omega
   refine(hi.grow g 0 xs.length cap i vb 0 1 1 (xs.map (.int .i64)) [.int .i64 v] w hlt (by omega) hn (by omega) hlim (by simp) rfl hcs hvs (qi3 xs) h1v).mono ?_
   rintro e w' ⟨rfl,rfl⟩
   have hgc:=grownCap_ge w (xs.length+1) cap T;generalize hA:(((xs.map (Value.int .i64)).take i).toArray++Builtin.zeroCells (Value.int .i64 0).cells (xs.length+1-i)++Builtin.zeroCells (Value.int .i64 0).cells (grownCap w (xs.length+1) cap T-(xs.length+1)))=A0;have hA0:A0.size=grownCap w (xs.length+1) cap T:=by
    rw[<-hA,Array.size_append,Array.size_append,qnv,qnv];simp;omega
   obtain⟨arr1,a1,a2⟩:=qcs w.heap.size [.int .i64 v] i (w.alloc (.cells A0 T)).drew A0 T (qcG w _);obtain⟨arr',b1,b2⟩:=qcs w.heap.size ((xs.map (Value.int .i64)).drop i) (i+1) (((w.alloc (.cells A0 T)).drew.setCells w.heap.size i [.int .i64 v]).drew) arr1 T a1;obtain⟨r1,r2,r3,r4⟩:=qcr w.heap.size [.int .i64 v] i (w.alloc (.cells A0 T)).drew;obtain⟨s1,s2,s3,s4⟩:=qcr w.heap.size ((xs.map (Value.int .i64)).drop i) (i+1) (((w.alloc (.cells A0 T)).drew.setCells w.heap.size i [.int .i64 v]).drew);refine⟨⟨w.heap.size,_,arr',T,by rw[hlen],.inr (Nat.le_refl _),b1,by omega,by rw[hlen];exact hgc,grownCap_le_maxLen w _ _ _ (by omega),fun j x hx=> ?_⟩,s1.trans r1,s2.trans r2,s3.trans r3,by
    rw[s4];show w.heap.size<=((w.alloc (.cells A0 T)).drew.setCells w.heap.size i [.int .i64 v]).heap.size;rw[r4];show w.heap.size<=(w.alloc (.cells A0 T)).heap.size;rw[qaM];exact Nat.le_succ _,fun b hb _=>by
    rw[qb8 _ _ _ _ b (by omega)];show((w.alloc (.cells A0 T)).drew.setCells w.heap.size i [.int .i64 v]).heap[b]?=_;rw[qb8 _ _ _ _ b (by omega)];exact Below.heap_alloc w _ b hb⟩
   rw[hget]at hx;rw[<-qcL b1];have c1:∀k,(w.alloc (.cells A0 T)).drew.cell? ⟨w.heap.size,k,none⟩=A0[k]?:=qcL (qcG w (.cells A0 T));have c2:∀k,(((w.alloc (.cells A0 T)).drew.setCells w.heap.size i [.int .i64 v]).drew).cell? ⟨w.heap.size,k,none⟩=arr1[k]?:=qcL a1
   by_cases h1:j<i
   ·rw[if_pos h1]at hx
    rw[World.cell?_setCells_out _ _ _ _ _ (fun _ _=> .inl (by show j<i+1;omega))];show((w.alloc (.cells A0 T)).drew.setCells w.heap.size i [.int .i64 v]).cell? ⟨w.heap.size,j,none⟩=_;rw[World.cell?_setCells_out _ _ _ _ _ (fun _ _=> .inl h1),c1,<-hA,Array.append_assoc,Array.getElem?_append_left (by simp;omega)];simp[List.getElem?_take,h1,hx]
   ·rw[if_neg h1]at hx
    by_cases h2:j=i
    ·rw[if_pos h2]at hx;simp at hx;subst hx;subst h2
     rw[World.cell?_setCells_out _ _ _ _ _ (fun _ _=> .inl (by show j<j+1;omega))];have:=World.cell?_setCells_in w.heap.size [.int .i64 v] j (w.alloc (.cells A0 T)).drew (fun k hk=>by rw[c1];simp at hk;simp;omega) 0 (by simp);simpa using this
    ·rw[if_neg h2]at hx
     have hjl:=(List.getElem?_eq_some_iff.1 hx).1;have:=World.cell?_setCells_in w.heap.size ((xs.map (Value.int .i64)).drop i) (i+1) (((w.alloc (.cells A0 T)).drew.setCells w.heap.size i [.int .i64 v]).drew) (fun k hk=>by rw[c2];simp at hk;simp;omega) (j-(i+1)) (by simp;omega);rw[show i+1+(j-(i+1))=j by omega]at this;rw[this];have hx2:xs[j-1]=x:=(List.getElem?_eq_some_iff.1 hx).2;simp only[List.getElem_drop,List.getElem_map];rw[<-hx2]
     congr 3;omega
end Go.Proofs.Ytfiakfiocdfpbaa.VS
