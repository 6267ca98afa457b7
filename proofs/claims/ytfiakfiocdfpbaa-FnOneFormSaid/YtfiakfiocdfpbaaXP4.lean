/- Contracts of the program's functions on the evaluator without names, and plain lemmas: part 4. -/
import Derived.Test.YtfiakfiocdfpbaaXP3
import Derived.Test.YtfiakfiocdfpbaaNat1
import Derived.Test.YtfiakfiocdfpbaaEngC
import Derived.Shelf.Spec.SlicesInsertGrow
import Derived.Laws.AppendOwn
set_option linter.unusedSimpArgs false
set_option linter.unusedVariables false
namespace Go.Proofs.Ytfiakfiocdfpbaa.VS
end Go.Proofs.Ytfiakfiocdfpbaa.VS
namespace Go.Proofs.Ytfiakfiocdfpbaa.VS
end Go.Proofs.Ytfiakfiocdfpbaa.VS
namespace Go.Proofs.Ytfiakfiocdfpbaa.VS
end Go.Proofs.Ytfiakfiocdfpbaa.VS
namespace Go.Proofs.Ytfiakfiocdfpbaa.VS
end Go.Proofs.Ytfiakfiocdfpbaa.VS
namespace Go.Proofs.Ytfiakfiocdfpbaa.VS
end Go.Proofs.Ytfiakfiocdfpbaa.VS
namespace Go.Proofs.Ytfiakfiocdfpbaa.VS
theorem qlZ(t:T)(ht:t.inner<=1099511627776):qai XV 4 [.d (t.enc .sub),.d (t.enc .sub)] []=some (.d (.bool true),[]):=by
 rw[same_eq t t ht ht];have:=qja t t;have h:T.cmp t t=0:=by omega
 rw[h];rfl
end Go.Proofs.Ytfiakfiocdfpbaa.VS
namespace Go.Proofs.Ytfiakfiocdfpbaa.VS
end Go.Proofs.Ytfiakfiocdfpbaa.VS
namespace Go.Proofs.Ytfiakfiocdfpbaa.VS
theorem qpZ:∀(l:List T) (n:Nat),l.length<=n->(∀t,t∈l->t.inner<=30)->qcJ l<=31*n
 | [],n,_,_=>by simp[qcJ,T.inners]
 |t::l,0,h,_=>by simp at h
 |t::l,n+1,h,h2=>by
  have:=qpZ l n (by simpa using h) (fun x hx=>h2 x (by simp[hx]));have:=h2 t (by simp);rw[qbL];omega
theorem qoH(bs:List Int)(hl:bs.length<=maxLen):∃B,qai XV 189 [.d (.sl .sub (bs.map (.int .u8)))] []=some (.d (.bool true),B):=by
 rw[qaE XV _ _ _ qwF rfl qse rfl];have hbig:=qEe bs
 by_cases h1:1048576<bs.length
 ·simp only[h1,decide_true]at hbig
  simp[qwF,qmc,qmb,qma,ql9,ql8,ql7,ql6,qpW,ql5,ql4,qig,qls,qif,qlr,hbig]
 have hls:bs.length<=1099511627776:=by omega
 simp only[h1,decide_false]at hbig;obtain⟨s,g,t,hD,ht,d1⟩:=qos bs hls;obtain⟨f,l,hl3,hli,d2⟩:=qot bs hls;have hs9:=hD.len;have hin:=qcO s t;have n1:=qdr s (by omega) t (by omega);have n2:=qdl s (by omega) t (by omega);have n3:=qdr s (by omega) (t.norm s) (by omega);rw[qmJ]at n3;have s1:=qlZ (t.norm s) (by omega);obtain⟨ks,hks⟩:∃ks:List T,ks=l.map (·.1):=⟨_,rfl⟩;have hkl:ks.length=l.length:=by rw[hks];simp
 have hki:∀t,t∈ks->t.inner<=6:=fun t ht=>by
  rw[hks]at ht;obtain⟨p,hp,rfl⟩:=List.mem_map.1 ht;exact hli p hp
 have hcn:qcJ ks<=93:=qpZ ks 3 (by omega) (fun t ht=>by have:=hki t ht;omega);have hcl:(l.map qhr).map DV.clr=ks.map (T.enc .sub):=by
  rw[hks,List.map_map,List.map_map];exact List.map_congr_left fun p _=>qhU p
 have hci:∀x,x∈ks.map (T.enc .sub)->x.clr=x:=fun x hx=>by
  obtain⟨y,_,rfl⟩:=List.mem_map.1 hx;exact IsV.clr (qlg .sub y)
 have m1:=qed qcB (by decide) f ks (by omega);obtain⟨d,m2,hd⟩:=qnO qcB (by decide) f ks (by omega);have hmi:(qcV qcB f ks).inner<=200:=by
  have:=qiI qcB f ks;omega
 have s2:=qlZ (qcV qcB f ks) (by omega);have k1:=qeN qcB (by decide) f;have hlm:((l.map qhr).map DV.clr).length=l.length:=by simp
 simp only[sg]at n1 n2 n3 m1 m2 k1;have q1:(s.map SymL.enc).map DV.clr=s.map SymL.enc:=qdv _;have q2:(qcB.map SymL.enc).map DV.clr=qcB.map SymL.enc:=qdv _;refine⟨[],?_⟩;simp only[qau]at m1 m2;unfold nM at n2;obtain⟨gd,X,rfl,hX⟩:=hd
 by_cases hdo:3<=ks.length/\qaP qcB f=true
 ·obtain⟨h3,hb⟩:=hdo
  obtain⟨p0,p1,p2,rfl⟩:∃p0 p1 p2,l=[p0,p1,p2]:=by
   match l,(show l.length=3 by omega)with
   | [a,b,c],_=>exact⟨a,b,c,rfl⟩
  simp only[List.map_cons,List.map_nil]at hks;subst hks;obtain⟨a,ga⟩:=p0;obtain⟨b,gb⟩:=p1;obtain⟨c,gc⟩:=p2;have hca:=qhU (a,ga);have hcb:=qhU (b,gb);have hcc:=qhU (c,gc);have hma:=hki a (by simp);have hmb:=hki b (by simp);have hmc:=hki c (by simp);have w1:=qed qcB (by decide) f [c,a,b] (by simp[qcJ,T.inners];omega);have w2:=qed qcB (by decide) f [a,b] (by simp[qcJ,T.inners];omega);have w2i:=qiI qcB f [a,b];have w3:=qed qcB (by decide) f [qcV qcB f [a,b],c] (by simp[qcJ,T.inners]at w2i⊢;omega);rw[show qcV qcB f [c,a,b]=qcV qcB f [a,b,c]from qux qcB f hb (by simp) (List.perm_append_comm (l₁:=[c]) (l₂:=[a,b]))]at w1;rw[quy qcB f [a,b] [c] hb (by simp) (by simp)]at w3;simp only[List.cons_append,List.nil_append]at w3;simp only[qau,sg,List.map_cons,List.map_nil]at w1 w2 w3 m1 m2 d2;rw[hb]at k1;generalize hnn:t.norm s=n at*
  generalize qcV qcB f [a,b,c]=m at*
  generalize qcV qcB f [a,b]=m' at*
  obtain⟨nf,nv,nk⟩:=n;obtain⟨mf,mv,mk⟩:=m;obtain⟨m'f,m'v,m'k⟩:=m';have hX':List.map DV.clr X=List.map (T.enc Tag.sub) mk:=hX;clear hki hci hX hcl hnn hlm;generalize s.map SymL.enc=sq at*
  generalize qcB.map SymL.enc=uq at*
  have ea:=qdf (a,ga);have eb:=qdf (b,gb);have ec:=qdf (c,gc);generalize qhr (a,ga)=da at*
  generalize qhr (b,gb)=db at*
  generalize qhr (c,gc)=dc at*
  obtain⟨tf,tv,tk⟩:=t;obtain⟨af,av,ak⟩:=a;obtain⟨bf,bv,bk⟩:=b;obtain⟨cf,cv,ck⟩:=c;simp[qwF,qmc,qmb,qma,ql9,ql8,ql7,ql6,qpW,ql5,ql4,qig,qls,qif,qlr,hbig,d1,d2,n1,n2,n3,s1,m1,m2,s2,k1,hX',hca,hcb,hcc,q1,q2,w1,w2,w3,cut,qay,List.replicate,qbc,splice,qaa,qae,qac,qan,qad]
 ·generalize hnn:t.norm s=n at*
  generalize qcV qcB f ks=m at*
  obtain⟨nf,nv,nk⟩:=n;obtain⟨mf,mv,mk⟩:=m;have hX':List.map DV.clr X=List.map (T.enc Tag.sub) mk:=hX;clear hki hX hnn;generalize s.map SymL.enc=sq at*
  generalize qcB.map SymL.enc=uq at*
  generalize l.map qhr=lq at*
  have hq:lq.length=ks.length:=by rw[hkl,<-hlm];simp
  obtain⟨tf,tv,tk⟩:=t;have hc3:(lq.length:Int)<3↔ks.length<3:=by omega
  by_cases c3:ks.length<3
  ·have c4:(ks.length:Int)<3:=by omega
   simp[qwF,qmc,qmb,qma,ql9,ql8,ql7,ql6,qpW,ql5,ql4,qig,qls,qif,qlr,hbig,d1,d2,n1,n2,n3,s1,m1,m2,s2,k1,hX',hcl,q1,q2,c4,hq,splice,qaa,qae,qac,qan,qad]
  ·have c4:¬(ks.length:Int)<3:=by omega
   have hb:qaP qcB f=false:=by
    cases hb:qaP qcB f with
    |true=>exact absurd ⟨by omega,hb⟩ hdo
    |false=>rfl
   rw[hb]at k1;simp[qwF,qmc,qmb,qma,ql9,ql8,ql7,ql6,qpW,ql5,ql4,qig,qls,qif,qlr,hbig,d1,d2,n1,n2,n3,s1,m1,m2,s2,k1,hX',hcl,q1,q2,c4,hq,splice,qaa,qae,qac,qan,qad]
end Go.Proofs.Ytfiakfiocdfpbaa.VS
namespace Go.Proofs.Ytfiakfiocdfpbaa.VS
mutual
def TT.erase:TT->T
 | .node f v g ks=> .node f v (TT.erases ks)
def TT.erases:List TT->List T
 | []=>[]
 |t::r=>t.erase::TT.erases r
end
mutual
theorem TT.qcH:∀t:TT,DV.clrs t.cells=[.int .i64 t.erase.f,.int .i64 t.erase.v,qau .sub t.erase.kids]
 | .node f v g ks=>by
  simp only[TT.cells,DV.clrs,DV.clr,TT.erase,T.qdW,T.qer,T.qa0,qau];rw[TT.qen ks]
theorem TT.qen:∀l:List TT,DV.clrs (TT.encs l)=(TT.erases l).map (T.enc .sub)
 | []=>by simp[TT.encs,DV.clrs,TT.erases]
 |t::r=>by
  simp only[TT.encs,DV.clrs,DV.clr,TT.erases,List.map_cons];rw[TT.qcH t,TT.qen r,T.qbP]
end
theorem TT.qe4(t:TT):t.enc.clr=t.erase.enc .sub:=by
 simp only[TT.enc,DV.clr];rw[TT.qcH,T.qbP]
theorem qqH(hX:XOK XV){k:Nat}{vs:List DV}(h:∃B,qai XV k ((DV.clrs vs).map .d) []=some (.d (.bool true),B)):∃A B,qrx E [] k (vs.map .d) [] Ids.none=some ⟨.d (.bool true),A,B⟩:=by
 obtain⟨B,h⟩:=h;obtain⟨u,A,Bv,h1,h2⟩:=qxi hX (DV.qcp vs) (DV.qco vs) (d:= .bool true) (by simp[DV.clr]) h;simp only[DV.fit]at h2;subst h2
 exact⟨A,Bv,h1⟩
theorem qGH{P:Program}{a:TypeId}:∀{xs:List (List DV)},qBX P [a] xs->∃x,xs=[x]
 | [x],_=>⟨x,rfl⟩
 | [],h=>h.elim
 |_::_::_,h=>h.2.elim
end Go.Proofs.Ytfiakfiocdfpbaa.VS
namespace Go.Proofs.Ytfiakfiocdfpbaa.VS
structure L where
 p:Bool
 a:T
 b:T
def L.enc(g:Tag)(x:L):DV:= .agg [.bool x.p,.int .i64 x.a.f,.int .i64 x.a.v,qau g x.a.kids,.int .i64 x.b.f,.int .i64 x.b.v,qau g x.b.kids]
def L.ok(x:L):Prop:=x.a.ok/\x.b.ok
@[simp] theorem L.qnp(g:Tag)(x:L):(x.enc g).cells=[.bool x.p,.int .i64 x.a.f,.int .i64 x.a.v,qau g x.a.kids,.int .i64 x.b.f,.int .i64 x.b.v,qau g x.b.kids]:=rfl
@[simp] theorem L.qkx(g:Tag)(x:L):(AV.d (x.enc g)).cells=[.d (.bool x.p),.d (.int .i64 x.a.f),.d (.int .i64 x.a.v),.d (qau g x.a.kids),.d (.int .i64 x.b.f),.d (.int .i64 x.b.v),.d (qau g x.b.kids)]:=rfl
@[simp] theorem L.qkw(g:Tag)(x:L):(x.enc g).isCell=false:=rfl
@[simp] theorem L.qe4(g:Tag)(x:L):(x.enc g).clr=x.enc .sub:=by
 simp only[L.enc,DV.clr,DV.clrs,qau,DV.qap,qcm]
theorem L.agg_enc(g:Tag)(x:L):DV.agg [.bool x.p,.int .i64 x.a.f,.int .i64 x.a.v,qau g x.a.kids,.int .i64 x.b.f,.int .i64 x.b.v,qau g x.b.kids]=x.enc g:=rfl
def L.cmp(x y:L):Int:=if !x.p&&y.p then-1 else if x.p&& !y.p then 1 else if T.cmp x.a y.a≠0 then T.cmp x.a y.a else T.cmp x.b y.b
def L.same(x y:L):Bool:=x.p==y.p&&(T.cmp x.a y.a==0)&&(T.cmp x.b y.b==0)
theorem L.cmp_zero(x y:L):(L.cmp x y==0)=L.same x y:=by
 obtain⟨p,a,b⟩:=x;obtain⟨q,a',b'⟩:=y;unfold L.cmp L.same;cases p<;>cases q<;>by_cases c:T.cmp a a'=0<;>simp[c]
end Go.Proofs.Ytfiakfiocdfpbaa.VS
namespace Go.Proofs.Ytfiakfiocdfpbaa.VS
variable {P:Program}
structure LL where
 p:Bool
 a:TT
 b:TT
def LL.cells(x:LL):List DV:= .bool x.p::(x.a.cells++x.b.cells)
def LL.enc(x:LL):DV:= .agg x.cells
def LL.ok(x:LL):Prop:=x.a.ok/\x.b.ok
def LL.erase(x:LL):L:=⟨x.p,x.a.erase,x.b.erase⟩
theorem LL.qe4(x:LL):x.enc.clr=x.erase.enc .sub:=by
 have ha:=TT.qcH x.a;have hb:=TT.qcH x.b;rw[DV.qap]at ha hb;simp only[LL.enc,LL.cells,DV.clr,DV.qap,List.map_cons,List.map_append,ha,hb,LL.erase,L.enc];rfl
theorem qlY{α:Type}(c:α->List DV)(ok:α->Prop){t e:TypeId}{x:List DV}(hu:P.underlying t=some (.slice e))(hE:∀y:List DV,Shape P e y->∃s:α,y=c s/\ok s)(h:Shape P t x):
 ∃(g:Tag) (l:List α),x=[.sl g (l.map fun s=>qbK P e (c s))]/\l.length<=maxLen/\∀s,s∈l->ok s:=by
 obtain⟨g,xs,rfl,q1,q2,q3,q4⟩:=qnQ hu h;have key:∀xs:List DV,(∀y:DV,y∈xs->y=qbK P e y.cells)->(∀y:DV,y∈xs->Shape P e y.cells)->∃l:List α,xs=(l.map fun s=>qbK P e (c s))/\∀s,s∈l->ok s:=by
  intro xs
  induction xs with
  |nil=>intro _ _;exact⟨[],rfl,by simp⟩
  |cons y r ih=>
   intro p1 p2;obtain⟨l,rfl,hl⟩:=ih (fun z hz=>p1 z (by simp[hz])) (fun z hz=>p2 z (by simp[hz]));obtain⟨s,hs,hok⟩:=hE _ (p2 y (by simp));refine⟨s::l,?_,by simpa[hok]using hl⟩;have:=p1 y (by simp);rw[hs]at this;rw[List.map_cons,<-this]
 obtain⟨l,rfl,hl⟩:=key xs q3 q4;exact⟨g,l,rfl,by simpa using q1,hl⟩
structure BB where
 v:Int
 t:TT
def BB.cells(x:BB):List DV:= .int .i64 x.v::x.t.cells
def BB.enc(x:BB):DV:= .agg x.cells
def BB.ok(x:BB):Prop:=(-9223372036854775808<=x.v/\x.v<=9223372036854775807)/\x.t.ok
def BB.erase(x:BB):Bd:=⟨x.v,x.t.erase⟩
theorem BB.qe4(x:BB):x.enc.clr=x.erase.enc .sub:=by
 have ha:=TT.qcH x.t;rw[DV.qap]at ha;simp only[BB.enc,BB.cells,DV.clr,DV.qap,List.map_cons,ha,BB.erase,Bd.enc]
def qm8(g:Tag)(l:List Int):DV:= .sl g (l.map (.int .u8))
theorem qrl(g:Tag)(l:List Int):(qm8 g l).clr= .sl .sub (l.map (.int .u8)):=by
 simp only[qm8,qze,List.map_map,Function.comp_def,qoB]
theorem qnR{t e:TypeId}{x:List DV}(hu:P.underlying t=some (.slice e))(he:P.underlying e=some (.int .u8))(h:Shape P t x):∃g l,x=[qm8 g l]/\l.length<=maxLen:=by
 obtain⟨g,l,rfl,h1,_⟩:=qlY (fun n:Int=>[DV.int .u8 n]) (fun _=>True) hu (fun y hy=>by
  obtain⟨n,rfl,_⟩:=qsT he hy;exact⟨n,rfl,trivial⟩) h
 exact⟨g,l,by simp[qm8,qbK,he],h1⟩
end Go.Proofs.Ytfiakfiocdfpbaa.VS
namespace Go.Proofs.Ytfiakfiocdfpbaa.VS
open Go.RowKit
variable {P:Program} {fid:Nat->FuncId}
structure IntsAt(w:World)(base:Option Addr)(n c:Nat)(xs:List Int):Prop where
 len:xs.length=n
 cap:n<=c
 lim:(n+1)*8<=140737488355328
 capm:c<=maxLen
 nil:base=none->n=0/\c=0
 cell:∀ad,base=some ad->0<n->ad.spot=none/\∀(j:Nat) (x:Int),xs[j]?=some x->w.cell? ⟨ad.block,ad.off+j,none⟩=some (.int .i64 x)
theorem qBr{w:World}{b o:Nat}{v:Value}(h:w.cell? ⟨b,o,none⟩=some v):b<w.heap.size:=by
 unfold World.cell? at h;split at h
 ·rename_i h1;exact(Array.getElem?_eq_some_iff.1 h1).1
 ·simp at h
theorem IntsAt.lt{w:World}{base:Option Addr}{n c:Nat}{xs:List Int}(h:IntsAt w base n c xs){ad:Addr}(hb:base=some ad)(hn:0<n):ad.block<w.heap.size:=by
 have h0:xs[0]?=some xs[0]!:=by have:=h.len;cases xs with|nil=>simp at this;omega|cons a r=>simp
 exact qBr ((h.cell ad hb hn).2 0 _ h0)
end Go.Proofs.Ytfiakfiocdfpbaa.VS
