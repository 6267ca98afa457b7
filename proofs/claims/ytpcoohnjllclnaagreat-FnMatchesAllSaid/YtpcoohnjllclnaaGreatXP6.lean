/- Contracts of the program's functions on the evaluator without names, and plain lemmas: part 6. -/
import Derived.Test.YtpcoohnjllclnaaGreatXP5
import Derived.Test.YtpcoohnjllclnaaGreatNat1
import Derived.Test.YtpcoohnjllclnaaGreatEngC
import Derived.Shelf.Spec.SlicesInsertGrow
import Derived.Laws.AppendOwn
set_option linter.unusedSimpArgs false
set_option linter.unusedVariables false
namespace Go.Proofs.YtpcoohnjllclnaaGreat.VS
def H3:Option (List AV):=some [aa 0,aa 0,.d (.sl U [])]
theorem pD:∀i,i<b8.length->(aR b8 i).name.size<=1099511627776:=fun i hi=>by have:=Si.nm 9 (by omega) i hi;omega
structure BdD(b:Bd):Prop where
 inner:b.t.inner<=14
 rng:b.t.rng
 v: -1<=b.v/\b.v<=100
theorem qq2(bs:List Int)(J:bs.length<=1099511627776)(q L i:Nat)(hi:i<3)(u:List Bd)(hu:u.length<=3)(B:ah)(hL:B.length=L)(D:qcG bs q B):
 ∃(Z:List Bd) (B':ah),Z.length<=u.length+1/\(∀b,b∈Z->b∈u\/BdD b)/\Turned bs q B B'/\B'.length=L/\
  ∃e,aH XV (XV.lin 158) mg ⟨[(0,.ptr q 0),(3,.d (.sl U (u.map (Bd.enc U)))),(4,aa i)],B⟩=some (.normal,⟨[(0,.ptr q 0),(3,.d (.sl U (Z.map (Bd.enc U)))),(4,aa ((i+1:Nat):Int))],B'++e⟩):=by
 have hq:=D.lt;have hw:=bH (n:=i) (by omega);have o:(i:Int)<3:=by omega
 obtain⟨b,B1,a,j⟩:=qS bs J B q D 3 (by omega) (by omega);have l:B1.length=L:=by rw[a.len,hL]
 have W:=a.at hq;cases b with
 |true=>
  refine⟨u,B1,by omega,fun b hb=> .inl hb,a,l,[],?_⟩;simp[mg,o,j,hw]
 |false=>
  obtain⟨t,B2,H,_,K,z⟩:=IY bs J 0 (by omega) (B1++[none]) q (W.app [none]);obtain⟨B3,s,b1,rfl⟩:=jt (by omega) K;obtain⟨f,v,ks⟩:=t;obtain⟨b,B4,h5,G⟩:=qS bs J (B3++[some [aa f,aa v,.d (aj U ks)]]) q ((s.at (by omega)).app _) 3 (by omega) (by omega);obtain⟨g,p,b2,rfl⟩:=jt (by omega) h5;have e3:B3.length=L:=by omega
  have F:g.length=L:=by omega
  cases b with
  |false=>
   have ha:=Lk u i (.node f v ks) (by omega);refine⟨u++[(⟨(i:Int),.node f v ks⟩:Bd)],g,by simp,fun b hb=> ?_,a.trans (s.trans p),F,[some [aa f,aa v,.d (aj .sub ks)]],?_⟩
   ·rcases bl.1 hb with h|h
    ·exact .inl h
    ·simp at h;subst h
     exact .inr ⟨by simp only;omega,H.2,by simp only;omega⟩
   ·simp only[T.qaP,T.qb7,T.qaC]at ha
    generalize (u++[(⟨(i:Int),.node f v ks⟩:Bd)]).map (Bd.enc U)=lu at ha⊢
    generalize u.map (Bd.enc U)=l0 at ha⊢
    simp[mg,o,j,z,G,hw,l,e3,F,ha,cF,List.replicate,splice,aX,bg,bm,a_,aG]
  |true=>
   obtain⟨Q,k,V,x1⟩:=p.at (by omega:q<B3.length);have x3:=iL x1;have N:¬L=q:=by omega
   have x2:¬L+1<=L:=by omega
   have w:q<g.length:=by omega
   have Y:∀x:Option (List AV),(g++[x])[q]?=some (some (bR bs Q k)):=fun x=>by rw[bY w];exact x3
   have O:∀(x c:Option (List AV)),(g++[x]).set q c=g.set q c++[x]:=fun x c=>List.set_append_left _ _ w
   obtain⟨r,B6,hr,⟨p6,y,X,rfl⟩,C⟩:=lP bs J [some (bR bs Q k)] 0 ⟨Q,k,V,rfl⟩ 2 (by omega) (by omega);simp only[kq]at C;have R:IntKind.i64.wrap (5+r)=5+r:=wrap_i64 (by omega) (by omega);have hv:=Jf (5+r);have ho:al XV 164 [aa 5,.d (.sl .sub [(T.node (-1) (5+r) []).enc .sub,(T.node f v ks).enc .sub])] []=some (.d (.agg [.int .i64 5,.int .i64 0,.sl .sub [(T.node (-1) (5+r) []).enc .sub,(T.node f v ks).enc .sub]]),[]):=by
    have:=Em 5 [T.node (-1) (5+r) [],T.node f v ks];rw[T.qbJ]at this;exact this
   have hn:=AO b8 (by decide) (T.node 5 0 [T.node (-1) (5+r) [],T.node f v ks]) (by have:=H.1;simp[T.inner,T.inners]at this⊢;omega);have a1:=lq b8 (T.node 5 0 [T.node (-1) (5+r) [],T.node f v ks]);have S:((T.node 5 0 [T.node (-1) (5+r) [],T.node f v ks]).norm b8).rng:=C5 b8 _ (by
    have h2:=H.2;have h3:(-9223372036854775808:Int)<=5+r/\5+r<=9223372036854775807:=by omega
    generalize 5+r=r5 at*
    generalize hT:T.node f v ks=T0 at*
    simp[T.rng,T.rngs,h2,h3])
   have a2:(T.node 5 0 [T.node (-1) (5+r) [],T.node f v ks]).inner<=14:=by have:=H.1;simp[T.inner,T.inners]at this⊢;omega
   rw[T.qbJ]at hn;unfold nM at hn;simp only[aj,T.qaP,T.qb7,T.qaC,bo,cv]at hn;generalize (T.node 5 0 [T.node (-1) (5+r) [],T.node f v ks]).norm b8=m at*
   obtain⟨I,mv,mk⟩:=m;have hs:=CS;simp only[sg]at hn;have ha:=Lk u i (.node I mv mk) (by omega);refine⟨u++[(⟨(i:Int),.node I mv mk⟩:Bd)],g.set q (some (bR bs p6 y)),by simp,fun b hb=> ?_,a.trans (s.trans (p.trans ⟨p6,y,X,rfl⟩)),by simp[F],[some [aa I,aa mv,.d (aj .sub mk)]],?_⟩
   ·rcases bl.1 hb with h|h
    ·exact .inl h
    ·simp at h;subst h
     exact .inr ⟨by simp only;omega,S,by simp only;omega⟩
   ·simp only[T.qaP,T.qb7,T.qaC]at ha
    generalize M:b8.map SymL.enc=sq at hs hn;have h4:sq.map DV.clr=sq:=by rw[<-M];exact Ja _
    have eX:∀c:Option (List AV),(g.set q c).length=L:=fun c=>by simp[F]
    generalize (u++[(⟨(i:Int),.node I mv mk⟩:Bd)]).map (Bd.enc U)=lu at ha⊢
    generalize u.map (Bd.enc U)=l0 at ha⊢
    simp[mg,OO,N,x2,o,j,z,G,C,hw,R,l,e3,F,eX,Y,O,hv,ho,hn,hs,h4,nt,im,ha,cF,List.replicate,splice,aX,bg,bm,a_,aG]
theorem QD(bs:List Int)(t:bs.length<=1099511627776)(q L:Nat):∀(k i:Nat) (u:List Bd) (B:ah),i+k=3->u.length<=i->(∀b,b∈u->BdD b)->B.length=L->qcG bs q B->∀s0,aE L [0,3,4] s0=some ⟨[(0,.ptr q 0),(3,.d (.sl U (u.map (Bd.enc U)))),(4,aa i)],B⟩->
 ∃(c:List Bd) (B':ah),c.length<=3/\(∀b,b∈c->BdD b)/\Turned bs q B B'/\bV XV (XV.lin 158) L [0,3,4] mg s0=some (.exit 0,⟨[(0,.ptr q 0),(3,.d (.sl U (c.map (Bd.enc U)))),(4,aa 3),(8,ar false)],B'⟩):=by
 intro k
 induction k with
 |zero=>
  intro i u B g p hs n a s0 l;have hi:i=3:=by omega
  subst hi;obtain⟨pos,st,s,hb⟩:=a;refine⟨u,B,p,hs,⟨pos,st,s,?_⟩,d7 l ?_ (by simp)⟩
  ·have:=iL hb
   exact(iO fun j=>by
    rw[List.getElem?_set];split
    ·rename_i h;subst h;rw[this];simp[B_ hb]
    ·rfl)
  ·simp[mg]
 |succ k r=>
  intro i u B g p hs n a s0 l;obtain⟨c,B',g1,g2,o,m,e,w⟩:=qq2 bs t q L i (by omega) u (by omega) B n a;rw[eF l w];obtain⟨y,x,f1,f2,f3,f4⟩:=r (i+1) c B' (by omega) (by omega) (fun b hb=>(g2 b hb).elim (hs b) id) m (o.at a.lt) ⟨[(0,.ptr q 0),(3,.d (.sl U (c.map (Bd.enc U)))),(4,aa ((i+1:Nat):Int))],B'++e⟩ (gg (e:=e) (by simp) (by simp[aD];have:=a.lt;omega) m rfl);exact⟨y,x,f1,f2,o.trans f3,f4⟩
theorem Wm(bs:List Int)(i:bs.length<=1099511627776)(B:ah)(q:Nat)(h:qcG bs q B):
 ∃(u:List Bd) (B':ah),u.length<=3/\(∀b,b∈u->BdD b)/\Turned bs q B B'/\al XV 158 [.ptr q 0] B=some (.d (binds U u),B'):=by
 obtain⟨u,B',h1,j,g,a⟩:=QD bs i q B.length 3 0 [] B rfl (by simp) (fun b hb=>by simp at hb) rfl h ⟨[(0,.ptr q 0),(3,.d (.sl U [])),(4,aa 0)],B⟩ (gg (e:=[]) (by simp) (by simp[aD];exact h.lt) rfl (by simp));refine⟨u,B',h1,j,g,?_⟩;have c:List.take B.length B'=B':=eU (by rw[g.len];exact aU _);rw[aJ 158 wT rfl];simp only[Ol]at a;show _=some (AV.d (DV.sl U (u.map (Bd.enc U))),B');generalize u.map (Bd.enc U)=lu at a⊢
 simp[wT];rw[a];simp[c]
theorem F6(a:List Bd)(x:Bd)(g:Tag)(h:a.length<=1000):cG 4 48 (.sl U (a.map (Bd.enc U))) (.sl U [x.enc g])=some (.sl U (a.map (Bd.enc U)++[x.enc g])):=by
 have h1:(a.map (Bd.enc U)).all (fun e=>decide (e.cells.length=4))=true:=by
  rw[bu];intro y hy;obtain⟨z,_,rfl⟩:=bP.1 hy;simp
 unfold cG;simp[aX,bg];omega
theorem PC(bs:List Int)(s:bs.length<=1099511627776)(pos st:Int)(R:0<=pos/\pos<=bs.length):
 ∃(u:List Bd) (g:Tag) (ds:List DV) (pos' M:Int),u.length<=4/\(∀b,b∈u->BdD b)/\ds.map DV.clr=u.map (Bd.enc .sub)/\(0<=pos'/\pos'<=bs.length)/\al XV 157 [.ptr 0 0] [some (bR bs pos st)]=some (.d (.sl g ds),[some (bR bs pos' M)]):=by
 have X:qcG bs 0 [some (bR bs pos st)]:=⟨pos,st,R,rfl⟩;obtain⟨u,B1,D,e,⟨N,s1,F,rfl⟩,a⟩:=Wm bs s _ 0 X;obtain⟨r,B2,hr,⟨p2,s2,n,rfl⟩,k⟩:=lP bs s [some (bR bs N s1)] 0 ⟨N,s1,F,rfl⟩ 8 (by omega) (by omega);simp only[kq,binds]at a k;rw[Gc XV _ _ _ jI rfl ZT rfl (m:=1) rfl rfl];simp only[Db,AX,im]
 by_cases c0:r=0
 ·subst c0
  obtain⟨j,hj,B3,⟨p3,H,o,rfl⟩,i⟩:=wz bs s [some (bR bs p2 s2)] 0 ⟨p2,s2,n,rfl⟩ [-1,0,2,9,100] (by simp) (by simp);have y:∀x:Int,x∈([-1,0,2,9,100]:List Int)->-1<=x/\x<=100:=fun x hx=>by
   simp only[br,kU,lT]at hx;omega
  have hx:=y _ (il hj);generalize ([-1,0,2,9,100]:List Int)[j]=x at i hx;obtain⟨t,g,p4,Q,C,I,J⟩:=Aq bs s p3 H o;have K:=F6 u ⟨x,t⟩ g (by omega);obtain⟨f,v,ks⟩:=t;refine⟨u++[⟨x,.node f v ks⟩],U,u.map (Bd.enc U)++[Bd.enc g ⟨x,.node f v ks⟩],p4,Q,by simp;omega,fun b hb=> ?_,by simp,I,?_⟩
  ·rcases bl.1 hb with h|h
   ·exact e b h
   ·simp at h;subst h;exact⟨C.1,C.2,hx⟩
  ·simp only[kq,bo,cv]at i
   have w:cG 4 48 (.sl U (u.map (Bd.enc U))) (.sl U [.agg [.int .i64 x,.int .i64 f,.int .i64 v,aj g ks]])=some (.sl U (u.map (Bd.enc U)++[.agg [.int .i64 x,.int .i64 f,.int .i64 v,aj g ks]])):=K;show _=some (AV.d (DV.sl U (u.map (Bd.enc U)++[.agg [.int .i64 x,.int .i64 f,.int .i64 v,aj g ks]])),_);generalize u.map (Bd.enc U)=lu at*
   generalize lu++[.agg [.int .i64 x,.int .i64 f,.int .i64 v,aj g ks]]=l2 at*
   simp[jI,a,k,i,J,w,nt,im,cF,List.replicate,splice,aX,bg]
 ·by_cases c1:r=1
  ·subst c1
   match u,D,e with
   | [],_,e=>
    refine⟨[],.sub,[],p2,s2,by simp,e,by simp,n,?_⟩;simp only[cv]at a;simp[jI,a,k,aD,cC,AV.frz,AV.frzC]
   |b::us,D,e=>
    obtain⟨t,g,p3,H,C,o,i⟩:=Aq bs s p2 s2 n;refine⟨⟨b.v,t⟩::us,.sub,(⟨b.v,t⟩::us).map (Bd.enc .sub),p3,H,by simp at D⊢;omega,fun c hc=> ?_,by simp,o,?_⟩
    ·rcases br.1 hc with h|h
     ·subst h;exact⟨C.1,C.2,(e b (by simp)).v⟩
     ·exact e c (by simp[h])
    ·have q:∀rs,rs.all (fun r=> !(DV.int .u8 0).like r)=true->gA rs (bR bs p2 s2)=true:=fun rs h=>wg rs h bs p2 s2
     obtain⟨bv,bf,bw,O⟩:=b;obtain⟨f,v,ks⟩:=t;have p:=fun rs=>kC rs O
     match us,D with
     | [],_=>
      simp only[bo,cv,Bd.enc,aj,T.qaP,T.qb7,T.qaC]at a⊢
      simp[jI,a,k,i,q,DV.like,p,nt,im,splice,aX,bg,bm,a_,aD,cC,AV.frz,AV.frzC,cp,chunks,cut,bJ]
     | [c],_=>
      obtain⟨S,V,cw,G⟩:=c;have l:=fun rs=>kC rs G
      simp only[bo,cv,Bd.enc,aj,T.qaP,T.qb7,T.qaC]at a⊢
      simp[jI,a,k,i,q,DV.like,p,l,nt,im,splice,aX,bg,bm,a_,aD,cC,AV.frz,AV.frzC,cp,chunks,cut,bJ]
     | [c,d],_=>
      obtain⟨S,V,cw,G⟩:=c;obtain⟨dv,df,dw,W⟩:=d;have l:=fun rs=>kC rs G
      have z:=fun rs=>kC rs W
      simp only[bo,cv,Bd.enc,aj,T.qaP,T.qb7,T.qaC]at a⊢
      simp[jI,a,k,i,q,DV.like,p,l,z,nt,im,splice,aX,bg,bm,a_,aD,cC,AV.frz,AV.frzC,cp,chunks,cut,bJ]
  ·refine⟨u,.sub,u.map (Bd.enc .sub),p2,s2,by omega,e,by simp,n,?_⟩
   have Y:(r==0)=false:=by simpa using c0
   have Z:(r==1)=false:=by simpa using c1
   have hcl:(u.map (Bd.enc U)).map DV.clr=u.map (Bd.enc .sub):=by simp
   generalize u.map (Bd.enc U)=lu at*
   generalize u.map (Bd.enc .sub)=ls at*
   simp[jI,a,k,Y,Z,hcl,aD,cC,AV.frz,AV.frzC]
theorem Py(bs:List Int)(a:bs.length<=1099511627776):∃(u:List Bd) (g:Tag) (ds:List DV) (t:T),(u.length<=4/\(∀b,b∈u->BdD b)/\ds.map DV.clr=u.map (Bd.enc .sub))/\(t.inner<=14/\t.rng)/\
 al XV 134 [.d (.sl .sub (bs.map (.int .u8)))] []=some (.d (.tup [.sl U (b8.map SymL.enc),.sl g ds,t.enc .sub]),[]):=by
 obtain⟨st,h1⟩:=OY bs a [H3];obtain⟨u,g,ds,m,s1,o,e,i,l,j⟩:=PC bs a 0 st ⟨Int.le_refl _,by omega⟩;obtain⟨t,g2,p2,s2,n,p,h⟩:=Aq bs a m s1 l;refine⟨u,g,ds,t,⟨o,e,i⟩,n,?_⟩;obtain⟨f,v,ks⟩:=t;have hs:=CS;generalize k:b8.map SymL.enc=sq at hs⊢
 have c:sq.map DV.clr=sq:=by rw[<-k];exact Ja _
 simp[H3]at h1;rw[aJ 134 wZ rfl];simp[wZ,h1,j,h,hs,c,nt,im,splice,aX,bg,bm,a_,aG]
theorem uK{u:List Bd}(h:∀b,b∈u->BdD b):∀i,i<u.length->(az u i).t.inner<=1099511627776:=fun i hi=>by have:=(h _ (pm hi)).inner;omega
mutual
theorem LF{u w:List Bd}:∀t:T,(∀x,x∈t.nodes->x.f= -1->ej u x.v=ej w x.v)->c6 u t=c6 w t
 | .node f v ks,h=>by
  by_cases c:f= -1/\ks.length=0
  ·simp only[c6]
   rw[ap c,ap c];exact h (.node f v ks) (by simp[T.nodes]) c.1
  ·rw[qR u c,qR w c,Ga ks fun x hx a=>h x (by simp only[T.nodes,br];exact .inr hx) a]
theorem Ga{u w:List Bd}:∀ks:List T,(∀x,x∈T.nodess ks->x.f= -1->ej u x.v=ej w x.v)->dG u ks=dG w ks
 | [],_=>by simp[dG]
 |t::r,h=>by
  simp only[dG];rw[LF t fun x hx a=>h x (by simp only[T.nodess,bl];exact .inl hx) a,Ga r fun x hx a=>h x (by simp only[T.nodess,bl];exact .inr hx) a]
end
def cI(u:List Bd)(vs:List Int):List Bd:=vs.map fun v=>⟨v,ej u v⟩
theorem J1(u:List Bd)(vs:List Int):(cI u vs).map Bd.v=vs:=by
 unfold cI;rw[eN];have:(Bd.v∘fun v=>(⟨v,ej u v⟩:Bd))=id:=rfl;rw[this,List.map_id]
theorem QU{s:List SymL}{t:T}(h:T.form s t=true):Made s t:=by
 refine⟨mu s t h,fun hb=> ?_⟩;obtain⟨f,v,ks⟩:=t;have b:f≠-1:=pM hb;have h1:=(CL h b).1;have c:=qC h b;unfold fD at h1;have a:bA s f=true:=hb;rw[ap (CF a),ap c,ap (Dc a)]at h1;have:¬((ks.length:Int)<2):=by simpa using h1
 exact⟨by simp only[T.qaC];omega,c⟩
theorem WX(s:List SymL)(v:Int):Made s (.node (-1) v []):=
 ⟨by simp only[T.nf,T.nfs,jP];exact fun hb=>absurd rfl (pM hb),fun hb=>absurd rfl (pM hb)⟩
theorem OW{s:List SymL}{u:List Bd}(h:jB s u=true)(v:Int):Made s (ej u v):=by
 rw[BS];cases hg:getB u v with
 |none=>exact WX s v
 |some t=>
  obtain⟨i,hi,he⟩:=jl (nG hg);rw[bK hi]at he;have:=SY h i hi;rw[he]at this;unfold dA at this;simp only[aF]at this;exact QU this.2.2
theorem RV{s:List SymL}(u:List Bd)(p:T):cU s (cI u (eB p)) p=i_ s u p:=by
 show(c6 (cI u (eB p)) p).norm s=(c6 u p).norm s;rw[LF p fun x hx c=> ?_];have hm:x.v∈eB p:=(vI _ _).2 ⟨x,hx,c,rfl⟩;have a:(⟨x.v,ej u x.v⟩:Bd)∈cI u (eB p):=bP.2 ⟨x.v,hm,rfl⟩;have b:=pe (by rw[J1];exact uR p) _ a;simp only at b;rw[BS (cI u (eB p)),b];rfl
theorem U9{s:List SymL}{u:List Bd}{p:T}(a:jB s u=true)(h:(fw s p (i_ s u p)).2=true):fO (fw s p (i_ s u p)).1 (cI u (eB p))=true:=by
 unfold fw at h⊢
 split at h
 ·rename_i hc
  rw[ap hc];obtain⟨c1,c2,c3⟩:=(Bo _ _ _).1 hc.1;refine MS.qFn _ me hc.2 _ ?_;exact Ps c1 c2 c3 (by omega) (fun b hb=>by
   obtain⟨v,_,rfl⟩:=bP.1 hb;exact OW a v) (J1 u _) (RV u p)
 ·cases h
theorem Rf(t:T)(h:t.inner<=100):(eB t).length<=200:=by
 have b:∀l:List T,∀s:List Int,(l.foldl (fun s x=>eV x s) s).length<=s.length+l.length:=fun l=>by
  induction l with
  |nil=>intro s;simp
  |cons x l a=>
   intro s;simp only[rX,cB];have:=a (eV x s);have d:(eV x s).length<=s.length+1:=by
    unfold eV;split
    ·exact KN s x.v
    ·omega
   omega
 unfold eB;rw[uW];have:=b t.nodes [];have c:=H6 t;simp only[h_]at this;omega
theorem ZW(s:List SymL)(p t:T):(fw s p t).1.length<=61/\∀w,w∈(fw s p t).1->small w:=by
 unfold fw;split
 ·rename_i h
  refine⟨MS.qFg me _ (by decide),fun w hw=>(MA h.1).w w hw⟩
 ·exact⟨by simp,fun w hw=>by cases hw⟩
theorem qmD(bs:List Int)(hl:bs.length<=maxLen):∃B,al XV 337 [.d (.sl .sub (bs.map (.int .u8)))] []=some (ar true,B):=by
 rw[aJ 337 lR rfl];have hbig:=S_ bs
 by_cases h1:1048576<bs.length
 ·simp only[h1,decide_true]at hbig
  simp[lR,hbig]
 have Y:bs.length<=1099511627776:=by omega
 simp only[h1,decide_false]at hbig;obtain⟨u,g,ds,p,⟨hu,k,l⟩,⟨hp,_⟩,d1⟩:=Py bs Y;have C:=wD b8 (by decide) pD p (by omega);have H:=IP b8 (by decide) pD p (by omega);have o:=Tx b8 u (by decide) pD (by omega) (uK k);have r:=Ya b8 u (by decide) pD (by omega) (uK k);obtain⟨e,c,a⟩:=p;cases c1:dA b8 (.node e c a)with
 |false=>
  rw[c1]at C H;cases c2:jB b8 u with
  |false=>
   rw[c2]at o r;simp[lR,BV,hbig,d1,l,C,H,o,r,splice]
  |true=>
   rw[c2]at o r;simp[lR,BV,hbig,d1,l,C,H,o,r,splice]
 |true=>
  rw[c1]at C H;cases c2:jB b8 u with
  |false=>
   rw[c2]at o r;simp[lR,BV,hbig,d1,l,C,H,o,r,splice]
  |true=>
   rw[c2]at o r;have Z:∀i,i<u.length->(az u i).t.inner<=14:=fun i hi=>(k _ (pm hi)).inner
   have it:(c6 u (.node e c a)).inner<=300:=by
    have:=J4 u 14 Z (.node e c a);have:((T.node e c a).inner+1)*(14+1)<=15*15:=Nat.mul_le_mul (by omega) (by omega);omega
   have ia:=qsd b8 u (.node e c a);have a1:=XX b8 (by decide) u (.node e c a) (by omega) (uK k) (by omega) (by omega);have hv:=QZ (.node e c a) (by omega);have hvl:=Rf (.node e c a) (by omega);have Q:=Yh b8 (by decide) pD (.node e c a) (i_ b8 u (.node e c a)) (by omega) (by omega);have h:=U9 (s:=b8) (p:= .node e c a) c2;have G:=qx0 (s:=b8) (p:= .node e c a) (t:=i_ b8 u (.node e c a));have hsz:=ZW b8 (.node e c a) (i_ b8 u (.node e c a));generalize hvs:eB (.node e c a)=vs at*
   generalize fw b8 (.node e c a) (i_ b8 u (.node e c a))=q at*
   generalize i_ b8 u (.node e c a)=t at*
   obtain⟨z,w,x⟩:=t;obtain⟨ws,ok⟩:=q;simp only at Q h G hsz;have h2:(cI u vs).length=vs.length:=by unfold cI;simp
   have V:=cg (X:=XV) (T:=XV.lin 337) (L:=2) (live:=[3,4,5,6,7,8,9]) (b:=vO) (n:=vs.length) (γ:=Unit) (st:=fun(_:Unit) i=>⟨[(3,.d (sg b8)),(4,.d (binds .sub u)),(5,.ptr 0 0),(6,.ptr 1 0),(7,.d (is vs)),(8,.d (.sl U ((cI u (vs.take i)).map (Bd.enc U)))),(9,aa i)],[some [aa e,aa c,.d (aj .sub a)],some [aa z,aa w,.d (aj U x)]]⟩) (step:=fun _ _=> .inl ())
    (F:=fun _=>(.exit 0,⟨[(3,.d (sg b8)),(4,.d (binds .sub u)),(5,.ptr 0 0),(6,.ptr 1 0),(7,.d (is vs)),(8,.d (.sl U ((cI u vs).map (Bd.enc U)))),(9,aa vs.length),(57,ar false)],[some [aa e,aa c,.d (aj .sub a)],some [aa z,aa w,.d (aj U x)]]⟩)) (R:=fun _=>(.ret,⟨[],[]⟩))
    (fun _=>⟨by simp,by rw[fR];simp[vO]⟩)
    (fun _ i hi=>by
     have hw:=bH (n:=i) (by omega);have hk:=Ih u (cA vs i) (by omega) (uK k);have J:=F6 (cI u (vs.take i)) ⟨cA vs i,ej u (cA vs i)⟩ U (by unfold cI;simp;omega);have S:(cI u (vs.take i)).map (Bd.enc U)++[Bd.enc U ⟨cA vs i,ej u (cA vs i)⟩]=(cI u (vs.take (i+1))).map (Bd.enc U):=by
      have:vs.take (i+1)=vs.take i++[cA vs i]:=by rw[Bz,eh hi,jE hi];rfl
      unfold cI;rw[this];simp
     rw[S]at J;generalize ej u (cA vs i)=y at*
     obtain⟨yf,yv,yk⟩:=y;have D:cG 4 48 (.sl U ((cI u (vs.take i)).map (Bd.enc U))) (.sl U [.agg [.int .i64 (cA vs i),.int .i64 yf,.int .i64 yv,aj U yk]])=some (.sl U ((cI u (vs.take (i+1))).map (Bd.enc U))):=J;generalize O:(cI u (vs.take (i+1))).map (Bd.enc U)=R2 at*
     generalize (cI u (vs.take i)).map (Bd.enc U)=R1 at*
     exact⟨_,by simp[vO,Vf,hi,hw,cut,jE hi,hk,D,splice];rfl,by simp[aE,aD,O]⟩)
    vs.length () 0 ⟨[(3,.d (sg b8)),(4,.d (binds .sub u)),(5,.ptr 0 0),(6,.ptr 1 0),(7,.d (is vs)),(8,.d (.sl U [])),(9,aa 0)],[some [aa e,aa c,.d (aj .sub a)],some [aa z,aa w,.d (aj U x)]]⟩ (by omega) (by simp[aE,aD,cI])
   rw[oI]at V;simp only[Hm]at V;simp[lR,hbig,d1,l,C,o,a1,hv,splice];rw[V];cases ok with
   |false=>
    have:ws=[]:=G rfl;subst this;simp[Q]
   |true=>
    have h:=h rfl;have M:=cg (X:=XV) (T:=XV.lin 337) (L:=2) (live:=[8,10,12]) (b:=pQ) (n:=ws.length) (st:=fun(_:Unit) i=>⟨[(8,.d (binds U (cI u vs))),(10,.d (lL .sub ws)),(12,aa i)],[some [aa e,aa c,.d (aj .sub a)],some [aa z,aa w,.d (aj U x)]]⟩) (step:=b_ fun i=>fQ (e_ ws i) (cI u vs))
     (F:=fun _=>(.exit 2,⟨[(8,.d (binds U (cI u vs))),(10,.d (lL .sub ws)),(12,aa ws.length),(89,ar false)],[some [aa e,aa c,.d (aj .sub a)],some [aa z,aa w,.d (aj U x)]]⟩)) (R:=fun _=>(.ret,⟨[(2,ar true)],[some [aa e,aa c,.d (aj .sub a)],some [aa z,aa w,.d (aj U x)]]⟩))
     (fun _=>⟨by simp,by simp[pQ]⟩)
     (fun _ i hi=>by
      have hw:=bH (n:=i) (by omega);have I:=hsz.2 _ (JD hi);have N:∀j,j<(cI u vs).length->(az (cI u vs) j).t.inner<=1099511627776:=fun j hj=>by
       have hm:=pm hj;generalize az (cI u vs) j=b at hm⊢
       obtain⟨v,_,rfl⟩:=bP.1 hm;exact cN (K9 u v 14 Z) (by omega)
      have m:=Ty (e_ ws i) (cI u vs) I.1 (by omega) I.2 N;unfold b_
      by_cases K:fQ (e_ ws i) (cI u vs)=true
      ·rw[ap K];rw[K]at m
       exact⟨by simp,by simp[pQ,hi,cut,pS hi,m]⟩
      ·rw[ak K]
       have W:fQ (e_ ws i) (cI u vs)=false:=by simpa using K
       rw[W]at m;exact⟨_,by simp[pQ,hi,hw,cut,pS hi,m];rfl,by simp[aE,aD]⟩)
     ws.length () 0 ⟨[(8,.d (binds U (cI u vs))),(10,.d (lL .sub ws)),(12,aa 0)],[some [aa e,aa c,.d (aj .sub a)],some [aa z,aa w,.d (aj U x)]]⟩ (by omega) (by simp[aE,aD])
    rw[ee]at M;unfold fO at h;simp only[Hm]at M;cases hf:aO (fun i=>fQ (e_ ws i) (cI u vs)) ws.length 0 with
    |none=>rw[hf]at h;cases h
    |some j=>
     rw[hf]at M;simp[Q];rw[M];simp
mutual
def TT.erase:TT->T
 | .node f v g ks=> .node f v (TT.erases ks)
def TT.erases:List TT->List T
 | []=>[]
 |t::r=>t.erase::TT.erases r
end
mutual
theorem TT.qdp:∀t:TT,DV.clrs t.cells=[.int .i64 t.erase.f,.int .i64 t.erase.v,aj .sub t.erase.kids]
 | .node f v g ks=>by
  simp only[TT.cells,DV.clrs,DV.clr,TT.erase,T.qaP,T.qb7,T.qaC,aj];rw[TT.qfq ks]
theorem TT.qfq:∀l:List TT,DV.clrs (TT.encs l)=(TT.erases l).map (T.enc .sub)
 | []=>by simp[TT.encs,DV.clrs,TT.erases]
 |t::r=>by
  simp only[TT.encs,DV.clrs,DV.clr,TT.erases,bo];rw[TT.qdp t,TT.qfq r,T.qbJ]
end
theorem TT.qfr(t:TT):t.enc.clr=t.erase.enc .sub:=by
 simp only[TT.enc,DV.clr];rw[TT.qdp,T.qbJ]
theorem NA(b:XOK XV){k:Nat}{vs:List DV}(h:∃B,al XV k ((DV.clrs vs).map .d) []=some (ar true,B)):∃A B,oX E [] k (vs.map .d) [] Ids.none=some ⟨ar true,A,B⟩:=by
 obtain⟨B,h⟩:=h;obtain⟨u,A,Bv,h1,a⟩:=P6 b (DV.qcS vs) (DV.qcR vs) (d:= .bool true) (by simp[DV.clr]) h;simp only[DV.fit]at a;subst a
 exact⟨A,Bv,h1⟩
theorem RN{P:Program}{a:TypeId}:∀{xs:List (List DV)},oq P [a] xs->∃x,xs=[x]
 | [x],_=>⟨x,rfl⟩
 | [],h=>h.elim
 |_::_::_,h=>h.2.elim
structure L where
 p:Bool
 a:T
 b:T
def L.enc(g:Tag)(x:L):DV:= .agg [.bool x.p,.int .i64 x.a.f,.int .i64 x.a.v,aj g x.a.kids,.int .i64 x.b.f,.int .i64 x.b.v,aj g x.b.kids]
def L.ok(x:L):Prop:=x.a.ok/\x.b.ok
@[simp] theorem L.qgb(g:Tag)(x:L):(x.enc g).cells=[.bool x.p,.int .i64 x.a.f,.int .i64 x.a.v,aj g x.a.kids,.int .i64 x.b.f,.int .i64 x.b.v,aj g x.b.kids]:=rfl
@[simp] theorem L.qjf(g:Tag)(x:L):(AV.d (x.enc g)).cells=[ar x.p,aa x.a.f,aa x.a.v,.d (aj g x.a.kids),aa x.b.f,aa x.b.v,.d (aj g x.b.kids)]:=rfl
@[simp] theorem L.qje(g:Tag)(x:L):(x.enc g).isCell=false:=rfl
@[simp] theorem L.qfr(g:Tag)(x:L):(x.enc g).clr=x.enc .sub:=by
 simp only[L.enc,DV.clr,DV.clrs,aj,DV.qax,j1]
theorem L.agg_enc(g:Tag)(x:L):DV.agg [.bool x.p,.int .i64 x.a.f,.int .i64 x.a.v,aj g x.a.kids,.int .i64 x.b.f,.int .i64 x.b.v,aj g x.b.kids]=x.enc g:=rfl
def L.cmp(x y:L):Int:=if !x.p&&y.p then-1 else if x.p&& !y.p then 1 else if T.cmp x.a y.a≠0 then T.cmp x.a y.a else T.cmp x.b y.b
def L.same(x y:L):Bool:=x.p==y.p&&(T.cmp x.a y.a==0)&&(T.cmp x.b y.b==0)
theorem L.cmp_zero(x y:L):(L.cmp x y==0)=L.same x y:=by
 obtain⟨p,a,b⟩:=x;obtain⟨q,a',d⟩:=y;unfold L.cmp L.same;cases p<;>cases q<;>by_cases c:T.cmp a a'=0<;>simp[c]
section
variable {P:Program}
structure LL where
 p:Bool
 a:TT
 b:TT
def LL.cells(x:LL):List DV:= .bool x.p::(x.a.cells++x.b.cells)
def LL.enc(x:LL):DV:= .agg x.cells
def LL.ok(x:LL):Prop:=x.a.ok/\x.b.ok
def LL.erase(x:LL):L:=⟨x.p,x.a.erase,x.b.erase⟩
theorem LL.qfr(x:LL):x.enc.clr=x.erase.enc .sub:=by
 have ha:=TT.qdp x.a;have hb:=TT.qdp x.b;rw[DV.qax]at ha hb;simp only[LL.enc,LL.cells,DV.clr,DV.qax,bo,ea,ha,hb,LL.erase,L.enc];rfl
theorem YB{α:Type}(c:α->List DV)(ok:α->Prop){t e:TypeId}{x:List DV}(o:P.underlying t=some (.slice e))(k:∀y:List DV,Shape P e y->∃s:α,y=c s/\ok s)(h:Shape P t x):
 ∃(g:Tag) (l:List α),x=[.sl g (l.map fun s=>dB P e (c s))]/\l.length<=maxLen/\∀s,s∈l->ok s:=by
 obtain⟨g,xs,rfl,j,p,i,n⟩:=YC o h;have key:∀xs:List DV,(∀y:DV,y∈xs->y=dB P e y.cells)->(∀y:DV,y∈xs->Shape P e y.cells)->∃l:List α,xs=(l.map fun s=>dB P e (c s))/\∀s,s∈l->ok s:=by
  intro xs
  induction xs with
  |nil=>intro _ _;exact⟨[],rfl,by simp⟩
  |cons y r m=>
   intro d p2;obtain⟨l,rfl,a⟩:=m (fun z hz=>d z (by simp[hz])) (fun z hz=>p2 z (by simp[hz]));obtain⟨s,hs,b⟩:=k _ (p2 y (by simp));refine⟨s::l,?_,by simpa[b]using a⟩;have:=d y (by simp);rw[hs]at this;rw[bo,<-this]
 obtain⟨l,rfl,a⟩:=key xs i n;exact⟨g,l,rfl,by simpa using j,a⟩
structure BB where
 v:Int
 t:TT
def BB.cells(x:BB):List DV:= .int .i64 x.v::x.t.cells
def BB.enc(x:BB):DV:= .agg x.cells
def BB.ok(x:BB):Prop:=(-9223372036854775808<=x.v/\x.v<=9223372036854775807)/\x.t.ok
def BB.erase(x:BB):Bd:=⟨x.v,x.t.erase⟩
theorem BB.qfr(x:BB):x.enc.clr=x.erase.enc .sub:=by
 have ha:=TT.qdp x.t;rw[DV.qax]at ha;simp only[BB.enc,BB.cells,DV.clr,DV.qax,bo,ha,BB.erase,Bd.enc]
def sN(g:Tag)(l:List Int):DV:= .sl g (l.map (.int .u8))
theorem PE(g:Tag)(l:List Int):(sN g l).clr= .sl .sub (l.map (.int .u8)):=by
 simp only[sN,Gd,eN,kD,El]
theorem Vl{t e:TypeId}{x:List DV}(a:P.underlying t=some (.slice e))(he:P.underlying e=some (.int .u8))(h:Shape P t x):∃g l,x=[sN g l]/\l.length<=maxLen:=by
 obtain⟨g,l,rfl,h1,_⟩:=YB (fun n:Int=>[DV.int .u8 n]) (fun _=>True) a (fun y hy=>by
  obtain⟨n,rfl,_⟩:=PM he hy;exact⟨n,rfl,trivial⟩) h
 exact⟨g,l,by simp[sN,dB,he],h1⟩
end
open Go.RowKit
variable {P:Program} {fid:Nat->FuncId}
theorem Fi{X:XEnv}(p:XOK X)(r:EnvOK P fid X.env){f:Nat}{xs:List AV}{B:ah}{v':AV}{B':ah}(h:al X f xs B=some (v',B')){vs:List AV}{Bv:ah}(q:AV.fits xs vs)(hb:qbb B Bv)
 (c:∀ℓ,ay (aV 0 xs) B (aV 0 vs) Bv ℓ=[]) {g:Gh} {w:World} {us:Array Value} (k:us.size=vs.length) (b:∀(j:Nat) (v:AV) (u:Value),vs[j]?=some v->us[j]?=some u->AVR fid g w v u)
 (hc:Core fid g w Bv Ids.none) (d:fu g [] 0):Calls P (fid f) us w fun e w'=>∃u g' l A' Bv',e= .returned u/\v'.fit l/\qbb B' Bv'/\Post fid (from_ [] 0) g w Ids.none ⟨l,A',Bv'⟩ u g' w':=by
 obtain⟨n,hn⟩:=iD.1 h;obtain⟨v,Bv',A',h1,m,o,_⟩:=E5 p n f _ _ _ _ hn [] vs Bv Ids.none (fun _=>False) q hb
  ⟨fun ℓ=>by rw[c];simp,fun ℓ ℓ' a ha=>by rw[c]at ha;simp at ha,fun ℓ a ha=>by rw[c]at ha;simp at ha,fun a ha=>by simp at ha⟩ (fun j _=>c (.reg j)) (fun a ha=>by simp[Ids.none]at ha)
 obtain⟨_,i⟩:=ET r n [] f vs Bv Ids.none _ h1;exact(i g w us k b hc d).mono fun e w' ⟨u,g',he,hp⟩=>⟨u,g',v,A',Bv',he,m,o,hp⟩
structure IntsAt(w:World)(base:Option Addr)(n c:Nat)(xs:List Int):Prop where
 len:xs.length=n
 cap:n<=c
 lim:(n+1)*8<=140737488355328
 capm:c<=maxLen
 nil:base=none->n=0/\c=0
 cell:∀ad,base=some ad->0<n->ad.spot=none/\∀(j:Nat) (x:Int),xs[j]?=some x->w.cell? ⟨ad.block,ad.off+j,none⟩=some (.int .i64 x)
theorem Ob{w:World}{b o:Nat}{v:Value}(h:w.cell? ⟨b,o,none⟩=some v):b<w.heap.size:=by
 unfold World.cell? at h;split at h
 ·rename_i h1;exact(dD.1 h1).1
 ·simp at h
theorem IntsAt.lt{w:World}{base:Option Addr}{n c:Nat}{xs:List Int}(h:IntsAt w base n c xs){ad:Addr}(hb:base=some ad)(hn:0<n):ad.block<w.heap.size:=by
 have b:xs[0]?=some xs[0]!:=by have:=h.len;cases xs with|nil=>simp at this;omega|cons a r=>simp
 exact Ob ((h.cell ad hb hn).2 0 _ b)
def gV(base:Option Addr)(n:Nat)(bx:Nat->Option Nat):Gh:=
 {K:=fun b=>match base with|some ad=>if b=ad.block/\0<n then ad.off+n else 0|none=>0,row:=fun _=>none,bx:=bx}
def rf(base:Option Addr):Tag:=match base with|some _=> .sub|none=> .nil
theorem KB{w:World}{base:Option Addr}{n c:Nat}{xs:List Int}(h:IntsAt w base n c xs)(bx:Nat->Option Nat):VR (gV base n bx) w (.sl (rf base) (xs.map (.int .i64))) (.slice base n c):=by
 cases base with
 |none=>
  obtain⟨rfl,rfl⟩:=h.nil rfl;have:xs=[]:=kp.1 h.len;subst this;exact .nil
 |some ad=>
  have key:VR (gV (some ad) n bx) w (.sl .sub (xs.map (.int .i64))) (.slice (some ad) (xs.map (DV.int .i64)).length c):=by
   refine .row _ _ ad c 1 (fun k=> .int .i64 (xs.getD k 0)) (by simp) (by simpa[h.len]using h.cap) h.capm (fun k g=> ?_) ?_ (fun i x hx=> ?_) (fun i x j v hi hj=> ?_) (fun a sz e=>by simp at e)
   ·have b:k<xs.length:=by simpa using g
    obtain⟨h1,l⟩:=h.cell ad rfl (by have:=h.len;omega);have:ad.add k=⟨ad.block,ad.off+k,none⟩:=by
     obtain⟨p,o,m⟩:=ad;simp only at h1;subst h1;unfold Addr.add;split<;>simp_all
    rw[this,l k xs[k] (by simp[b])];simp[List.getD,b]
   ·by_cases hn:0<n
    ·right
     simp only[gV];rw[ap ⟨trivial,hn⟩];simp[h.len]
    ·left;have:=h.len;simp;cases xs with|nil=>rfl|cons _ _=>simp at this;omega
   ·simp only[cH,au]at hx
    obtain⟨y,_,rfl⟩:=hx;exact⟨rfl,fun v d=>by simp[DV.cells]at d;subst d;rfl⟩
   ·simp only[cH,au]at hi
    obtain⟨y,hy,rfl⟩:=hi;cases j with
    |succ j=>simp[DV.cells]at hj
    |zero=>
     simp[DV.cells]at hj;subst hj
     simp only[Nat.mul_one,oM,List.getD,hy,eE];exact .int _ _
  rw[dK,h.len]at key;exact key
theorem GL{w:World}{base:Option Addr}{n c:Nat}{xs:List Int}(h:IntsAt w base n c xs)(bx:Nat->Option Nat)(b:Nat)(hb:w.heap.size<=b):(gV base n bx).K b=0:=by
 cases base with
 |none=>rfl
 |some ad=>
  simp only[gV];rw[ak]
  rintro⟨rfl,hn⟩
  have:=h.lt rfl hn;omega
theorem JE(t:Tag)(xs:List Int):(AV.d (is xs)).fit (.d (.sl t (xs.map (.int .i64)))):=by
 simp only[AV.fit,DV.fit];refine⟨_,rfl,_,_,rfl,?_,.inl rfl⟩;rw[DV.qbg];refine⟨rfl,fun i x y hx hy=> ?_⟩;rw[hx]at hy;simp only[aB]at hy;subst hy;simp only[cH,au]at hx;obtain⟨z,_,rfl⟩:=hx;simp only[DV.fit]
theorem IE(t:Tag)(xs:List Int):(AV.d (is xs)).own (.d (.sl t (xs.map (.int .i64))))=[]:=by
 have hs:(.sub:Tag)≠U:=by decide
 simp only[AV.own,DV.own,hs,false_and,if_false,dj];have:∀(l:List Int) (m:List DV),DV.owns (l.map (.int .i64)) m=[]:=by
  intro l
  induction l with
  |nil=>intro m;simp[DV.owns]
  |cons a r b=>intro m;cases m<;>simp[DV.owns,DV.own,b]
 exact this xs _
theorem Mq{X:XEnv}(F:XOK X)(G:EnvOK P fid X.env){k:Nat}(D:∀(l:List Int) (n:Int),l.length<=140737488355328->al X k [.d (is l),aa n] []=some (ar (l.contains n),[]))
 {w:World} {base:Option Addr} {n c:Nat} {xs:List Int} (h:IntsAt w base n c xs) (m:Int):
 Calls P (fid k) #[.slice base n c,.int .i64 m] w fun e w'=>e= .returned (.bool (xs.contains m))/\Below w.heap.size w w':=by
 have z:=h.lim;have s:∀ℓ,ay (aV 0 [.d (is xs),aa m]) [] (aV 0 [.d (.sl (rf base) (xs.map (.int .i64))),aa m]) [] ℓ=[]:=by
  intro ℓ;cases ℓ with
  |box j=>simp[ay,aW,aI]
  |reg t=>
   simp only[ay,a8,aV,lk]
   by_cases C:t=0
   ·subst C;simp only[if_true];exact IE _ _
   ·by_cases h1:t=0+1
    ·subst h1;simp[AV.own,DV.own]
    ·simp[C]
     split<;>simp_all
 refine(Fi (P:=P) (fid:=fid) F G (D xs m (by rw[h.len];omega)) (vs:=[.d (.sl (rf base) (xs.map (.int .i64))),aa m]) (Bv:=[]) ?_ ⟨rfl,by simp⟩ s (g:=gV base n (fun _=>none)) (w:=w) rfl ?_ ?_ (fun q j _=>rfl)).mono ?_
 ·simp only[AV.fits]
  exact⟨_,_,rfl,JE _ _,_,_,rfl,by simp only[AV.fit,DV.fit];exact⟨_,rfl,rfl⟩,rfl⟩
 ·intro j v u hj r
  match j with
  |0=>simp at hj r;subst hj;subst r;exact .d _ _ (KB h _)
  |1=>simp at hj r;subst hj;subst r;exact .d _ _ (.int _ _)
  |j+2=>simp at hj
 ·exact⟨fun i b hb=>by simp[gV]at hb,fun i j b hb=>by simp[gV]at hb,fun a ha=>by simp[Ids.none]at ha,fun a a' b x x' ha=>by simp[Ids.none]at ha,GL h _⟩
 ·rintro e w' ⟨u,g',H,A',Bv',rfl,o,_,p⟩
  simp only[AV.fit,DV.fit]at o;obtain⟨y,rfl,rfl⟩:=o;have r:=ja p.val;subst r;exact⟨rfl,p.step.os,p.step.tape,p.step.output,p.step.size,fun b hb=>(p.step.keep b hb (fun i h=>by simp[gV]at h) (fun a h=>by simp[Ids.none]at h)).1⟩
theorem Rv{X:XEnv}(R:XOK X)(S:EnvOK P fid X.env){k kc:Nat}(Q:∀(l:List Int) (n:Int),l.length<=140737488355328->al X k [.d (is l),.fn kc [.ptr 0 0]] [some [aa n]]=some (aa (cZ (aO (fun i=>decide (cA l i>n)) l.length 0)),[some [aa n]]))
 {w:World} {base:Option Addr} {n c:Nat} {xs:List Int} (h:IntsAt w base n c xs) (m:Int) (o:Nat) (ty:TypeId) (H:w.heap[o]?=some (.cells #[.int .i64 m] ty (0,0))) (F:∀ad,base=some ad->0<n->ad.block≠o):
 Calls P (fid k) #[.slice base n c,.func (.func (fid kc)) #[] #[.pointer (some ⟨o,0,none⟩)]] w fun e w'=>e= .returned (.int .i64 (cZ (aO (fun i=>decide (cA xs i>m)) xs.length 0)))/\
  w'.os=w.os/\w'.tape=w.tape/\w'.output=w.output/\w.heap.size<=w'.heap.size/\(∀b,b<w.heap.size->b≠o->w'.heap[b]?=w.heap[b]?)/\w'.cell? ⟨o,0,none⟩=some (.int .i64 m):=by
 have M:=h.lim;have D:∀ℓ,ay (aV 0 [.d (is xs),.fn kc [.ptr 0 0]]) [some [aa m]] (aV 0 [.d (.sl (rf base) (xs.map (.int .i64))),.fn kc [.ptr 0 0]]) [some [aa m]] ℓ=[]:=by
  intro ℓ;cases ℓ with
  |box j=>
   cases j with
   |zero=>simp[ay,aW,aI,AV.owns,AV.own,DV.own]
   |succ j=>simp[ay,aW,aI]
  |reg t=>
   simp only[ay,a8,aV,lk]
   by_cases O:t=0
   ·subst O;simp only[if_true];exact IE _ _
   ·by_cases h1:t=0+1
    ·subst h1;simp[AV.own]
    ·simp[O]
     split<;>simp_all
 have p:∀i b,(gV base n (fun i=>if i=0 then some o else none)).bx i=some b->i=0/\b=o:=by
  intro i b hb;simp only[gV]at hb;split at hb
  ·rename_i hi;simp at hb;exact⟨hi,hb.symm⟩
  ·simp at hb
 refine(Fi (P:=P) (fid:=fid) R S (Q xs m (by rw[h.len];omega)) (vs:=[.d (.sl (rf base) (xs.map (.int .i64))),.fn kc [.ptr 0 0]]) (Bv:=[some [aa m]]) ?_ ?_ D (g:=gV base n (fun i=>if i=0 then some o else none)) (w:=w) rfl ?_ ?_ (fun q j _=>rfl)).mono ?_
 ·simp only[AV.fits]
  refine⟨_,_,rfl,JE _ _,_,_,rfl,?_,rfl⟩;simp only[AV.fit,AV.fits];exact⟨_,rfl,⟨_,_,rfl,rfl,rfl⟩,by simp[AV.owns,AV.own]⟩
 ·refine⟨rfl,fun i=> ?_⟩
  cases i with
  |zero=>exact⟨by simp,fun cs hcs=>by simp at hcs;subst hcs;exact⟨_,rfl,AV.qdY (by simp only[AV.fit,DV.fit];exact⟨_,rfl,rfl⟩)⟩⟩
  |succ i=>simp
 ·intro j v u hj z
  match j with
  |0=>simp at hj z;subst hj;subst z;exact .d _ _ (KB h _)
  |1=>
   simp at hj z;subst hj;subst z
   exact .fn kc _ _ rfl fun j v u h1 C=>by
    cases j with
    |zero=>simp at h1 C;subst h1;subst C;exact .ptr 0 0 o rfl
    |succ j=>simp at h1
  |j+2=>simp at hj
 ·refine⟨fun i b hb=> ?_,fun i j b hb K=>by rw[(p i b hb).1,(p j b K).1],fun a ha=>by simp[Ids.none]at ha,fun a a' b x x' ha=>by simp[Ids.none]at ha,GL h _⟩
  obtain⟨rfl,rfl⟩:=p i b hb;refine⟨[aa m],_,ty,rfl,H,by simp,fun j v u h1 C=> ?_,fun v N=>by simp at N;subst N;exact⟨rfl,a_ _ _⟩,?_⟩
  ·cases j with
   |zero=>simp at h1 C;subst h1;subst C;exact .d _ _ (.int _ _)
   |succ j=>simp at h1
  ·cases base with
   |none=>rfl
   |some ad=>simp only[gV];rw[ak];rintro⟨he,hn⟩;exact F ad rfl hn he.symm
 ·rintro e w' ⟨u,g',V,A',Bv',rfl,s,G,r⟩
  simp only[AV.fit,DV.fit]at s;obtain⟨y,rfl,rfl⟩:=s;have z:=ek r.val;subst z;refine⟨rfl,r.step.os,r.step.tape,r.step.output,r.step.size,fun b hb I=>(r.step.keep b hb (fun i h=>I (p i b h).2) (fun a h=>by simp[Ids.none]at h)).1,?_⟩;have J:=r.boxes.old 0 o rfl;obtain⟨cs,arr,W,c1,c2,c3,c4,_⟩:=r.core.box 0 o J;obtain⟨ds,d1,d2⟩:=(G.2 0).2 _ rfl;rw[c1]at d1;simp at d1;subst d1
  simp only[AV.fits,AV.fit,DV.fit]at d2;obtain⟨_,_,rfl,⟨_,rfl,rfl⟩,rfl⟩:=d2;have hsz:0<arr.size:=by simp at c3;omega
  have:=ek (c4 0 _ arr[0] rfl (by simp[hsz]));simp[World.cell?,c2,hsz,this]
theorem m9(b:Nat):∀(vs:List Value) (o:Nat) (w:World) (arr:Array Value) (t:TypeId),w.heap[b]?=some (.cells arr t (0,0))->∃arr',(w.setCells b o vs).heap[b]?=some (.cells arr' t (0,0))/\arr'.size=arr.size
 | [],o,w,arr,t,h=>⟨arr,h,rfl⟩
 |v::r,o,w,arr,t,h=>by
  obtain⟨arr',h1,a⟩:=m9 b r (o+1) (w.setCell ⟨b,o,none⟩ v) _ t (heap_setCell_same w b o arr t v h);exact⟨arr',h1,by rw[a];simp⟩
theorem nk(b:Nat):∀(vs:List Value) (o:Nat) (w:World) (k:Nat),k≠b->(w.setCells b o vs).heap[k]?=w.heap[k]?
 | [],o,w,k,h=>rfl
 |v::r,o,w,k,h=>by
  rw[World.setCells,nk b r (o+1) _ k h];exact heap_setCell_other w _ k v h
theorem m7(b:Nat):∀(vs:List Value) (o:Nat) (w:World),(w.setCells b o vs).os=w.os/\(w.setCells b o vs).tape=w.tape/\(w.setCells b o vs).output=w.output/\(w.setCells b o vs).heap.size=w.heap.size
 | [],o,w=>⟨rfl,rfl,rfl,rfl⟩
 |v::r,o,w=>by
  obtain⟨h1,c,d,a⟩:=m7 b r (o+1) (w.setCell ⟨b,o,none⟩ v);exact⟨h1,c,d,by rw[World.setCells,a];simp[World.setCell]⟩
structure InsertSays(P:Program)(f:FuncId)(T:TypeId):Prop where
 shift:∀(b off n c i vb voff m vc:Nat) (cs vs:List Value) (w:World),i<n->0<m->n+m<=c->c<=9223372036854775807->vb≠b->cs.length=n->vs.length=m->
  (∀(j:Nat) (v:Value),cs[j]?=some v->w.cell? ⟨b,off+j,none⟩=some v)->(∀j,j<n+m->(w.cell? ⟨b,off+j,none⟩).isSome=true)->(∀j,j<n+m->w.frozen? ⟨b,off+j,none⟩=false)->
  (∀(j:Nat) (v:Value),vs[j]?=some v->w.cell? ⟨vb,voff+j,none⟩=some v)->(∀v∈cs,v.oneCell'=true)->(∀v∈vs,v.oneCell'=true)->∀(tA tB:TypeId) (kA kB:Nat),w.shape? vb=some (tA,kA)->w.shape? b=some (tB,kB)->kB≠0->
  w.frozen? ⟨vb,voff,none⟩=false->w.frozen? ⟨vb,kA,none⟩=false->Calls P f #[.slice (some ⟨b,off,none⟩) n c,.int .i64 i,.slice (some ⟨vb,voff,none⟩) m vc] w fun e w'=>
   e= .returned (.slice (some ⟨b,off,none⟩) (n+m) c)/\w'=(w.drew.setCells b (off+(i+m)) (cs.drop i)).setCells b (off+i) vs
 room:∀(b off n c vb voff m vc:Nat) (vs:List Value) (w:World),0<m->n+m<=c->c<=9223372036854775807->vs.length=m->(∀j,j<m->(w.cell? ⟨b,off+n+j,none⟩).isSome=true)->(∀j,j<m->w.frozen? ⟨b,off+n+j,none⟩=false)->
  (∀(j:Nat) (v:Value),vs[j]?=some v->w.cell? ⟨vb,voff+j,none⟩=some v)->(∀v∈vs,v.oneCell'=true)->Calls P f #[.slice (some ⟨b,off,none⟩) n c,.int .i64 n,.slice (some ⟨vb,voff,none⟩) m vc] w fun e w'=>
   e= .returned (.slice (some ⟨b,off,none⟩) (n+m) c)/\w'=w.setCells b (off+n) vs
 endGrow:∀(base:Option Addr) (n c vb voff m vc:Nat) (cs vs:List Value) (w:World),0<m->n<=c->c<n+m->(n+m)*8<=140737488355328->cs.length=n->vs.length=m->(base=none->n=0)->
  (∀a,base=some a->∀(j:Nat) (v:Value),cs[j]?=some v->w.cell? (a.add j)=some v)->(∀(j:Nat) (v:Value),vs[j]?=some v->w.cell? ⟨vb,voff+j,none⟩=some v)->(∀v∈vs,v.oneCell'=true)->
  Calls P f #[.slice base n c,.int .i64 n,.slice (some ⟨vb,voff,none⟩) m vc] w fun e w'=>e= .returned (.slice (some ⟨w.heap.size,0,none⟩) (n+m) (grownCap w (n+m) c T))/\
   w'=w.drew.alloc (.cells ((cs++vs).toArray++Builtin.zeroCells (Value.int .i64 0).cells (grownCap w (n+m) c T-(n+m))) T)
 grow:∀(b off n c i vb voff m vc:Nat) (cs vs:List Value) (w:World),i<n->0<m->n<=c->c<n+m->(n+m)*8<=140737488355328->cs.length=n->vs.length=m->(∀(j:Nat) (v:Value),cs[j]?=some v->w.cell? ⟨b,off+j,none⟩=some v)->
  (∀(j:Nat) (v:Value),vs[j]?=some v->w.cell? ⟨vb,voff+j,none⟩=some v)->(∀v∈cs,v.oneCell'=true)->(∀v∈vs,v.oneCell'=true)->Calls P f #[.slice (some ⟨b,off,none⟩) n c,.int .i64 i,.slice (some ⟨vb,voff,none⟩) m vc] w fun e w'=>
   e= .returned (.slice (some ⟨w.heap.size,0,none⟩) (n+m) (grownCap w (n+m) c T))/\
   w'=(((w.alloc (.cells ((cs.take i).toArray++Builtin.zeroCells (Value.int .i64 0).cells (n+m-i)++Builtin.zeroCells (Value.int .i64 0).cells (grownCap w (n+m) c T-(n+m))) T)).drew.setCells w.heap.size i vs).drew).setCells w.heap.size (i+m) (cs.drop i)
theorem ii{w:World}{b:Nat}{arr:Array Value}{t:TypeId}{z:Nat×Nat}(h:w.heap[b]?=some (.cells arr t z))(k:Nat):w.cell? ⟨b,k,none⟩=arr[k]?:=by simp[World.cell?,h]
theorem jC(w:World)(o:Obj):(w.alloc o).heap[w.heap.size]?=some o:=by show(w.heap.push o)[w.heap.size]?=some o;simp
theorem dU(w:World)(o:Obj):(w.alloc o).heap.size=w.heap.size+1:=by show(w.heap.push o).size=_;simp
theorem yJ(n:Nat):(Builtin.zeroCells (Value.int .i64 0).cells n).size=n:=by rw[size_zeroCells];simp[Value.cells]
theorem Gt(l:List Int):∀v∈l.map (Value.int .i64),v.oneCell'=true:=by
 intro v a;obtain⟨x,_,rfl⟩:=bP.1 a;rfl
structure Inserted(w w':World)(e:Ending)(xs:List Int)(g:Option Nat):Prop where
 ret:∃blk cap arr ty,e= .returned (.slice (some ⟨blk,0,none⟩) xs.length cap)/\(g=some blk\/w.heap.size<=blk)/\w'.heap[blk]?=some (.cells arr ty (0,0))/\cap<=arr.size/\xs.length<=cap/\cap<=maxLen/\
  ∀(j:Nat) (x:Int),xs[j]?=some x->arr[j]?=some (.int .i64 x)
 os:w'.os=w.os
 tape:w'.tape=w.tape
 output:w'.output=w.output
 size:w.heap.size<=w'.heap.size
 block:∀b,b<w.heap.size->g≠some b->w'.heap[b]?=w.heap[b]?
theorem Yz{f:FuncId}{T:TypeId}(hi:InsertSays P f T)(w:World)(vb:Nat)(v:Int)(c:w.cell? ⟨vb,0,none⟩=some (.int .i64 v))(base:Option Addr):
 Calls P f #[.slice base 0 0,.int .i64 (0:Nat),.slice (some ⟨vb,0,none⟩) 1 1] w fun e w'=>Inserted w w' e [v] none:=by
 refine(hi.endGrow base 0 0 vb 0 1 1 [] [.int .i64 v] w (by omega) (by omega) (by omega) (by omega) rfl rfl (fun _=>rfl) (fun a _ j x hx=>by simp at hx) (fun j x hx=>by
  cases j with
  |zero=>simp at hx;subst hx;exact c
  |succ j=>simp at hx) (fun x hx=>by simp at hx;subst hx;rfl)).mono ?_
 rintro e w' ⟨rfl,rfl⟩
 have d:=grownCap_ge w (0+1) 0 T;refine⟨⟨w.heap.size,_,_,T,rfl,.inr (aU _),jC w.drew _,?_,d,grownCap_le_maxLen w _ _ _ (by unfold maxLen;omega),fun j x hx=> ?_⟩,rfl,rfl,rfl,by rw[dU];exact bT _,fun b hb _=>Below.heap_alloc w.drew _ b hb⟩
 ·rw[mm,yJ];simp;omega
 ·cases j with
  |zero=>simp at hx;subst hx;rw[ju (by simp)];rfl
  |succ j=>simp at hx
theorem GV{f:FuncId}{T:TypeId}(hi:InsertSays P f T)(w:World)(g cap:Nat)(arr:Array Value)(ty:TypeId)(xs:List Int)(i:Nat)(vb:Nat)(H:TypeId)(v:Int)(F:w.heap[g]?=some (.cells arr ty (0,0)))(Y:cap<=arr.size)(hn:xs.length<=cap)(hm:cap<=maxLen)
 (z:∀(j:Nat) (x:Int),xs[j]?=some x->arr[j]?=some (.int .i64 x)) (q:(xs.length+1)*8<=140737488355328) (K:w.heap[vb]?=some (.cells #[.int .i64 v] H (0,0))) (O:vb≠g) (W:i<=xs.length):
 Calls P f #[.slice (some ⟨g,0,none⟩) xs.length cap,.int .i64 (i:Nat),.slice (some ⟨vb,0,none⟩) 1 1] w fun e w'=>Inserted w w' e (xs.take i++v::xs.drop i) (some g):=by
 have c:∀k,w.cell? ⟨g,k,none⟩=arr[k]?:=ii F;have N:w.cell? ⟨vb,0,none⟩=some (.int .i64 v):=by rw[ii K];rfl
 have hvs:∀(j:Nat) (x:Value),[Value.int .i64 v][j]?=some x->w.cell? ⟨vb,0+j,none⟩=some x:=fun j x hx=>by
  cases j with
  |zero=>simp at hx;subst hx;exact N
  |succ j=>simp at hx
 have h1v:∀x∈[Value.int .i64 v],x.oneCell'=true:=fun x hx=>by simp at hx;subst hx;rfl
 have hcs:∀(j:Nat) (x:Value),(xs.map (Value.int .i64))[j]?=some x->w.cell? ⟨g,0+j,none⟩=some x:=fun j x hx=>by
  simp only[cH,au]at hx;obtain⟨y,hy,rfl⟩:=hx;rw[eQ,c];exact z j y hy
 have hfz:∀k,w.frozen? ⟨g,k,none⟩=false:=fun k=>by simp[World.frozen?,F]
 have d:∀k,k<arr.size->(w.cell? ⟨g,k,none⟩).isSome=true:=fun k t=>by rw[c];simp[t]
 have h3:maxLen=9223372036854775807:=rfl;have hlen:(xs.take i++v::xs.drop i).length=xs.length+1:=by simp;omega
 have o:∀j,(xs.take i++v::xs.drop i)[j]?=if j<i then xs[j]? else if j=i then some v else xs[j-1]?:=by
  intro j
  by_cases h1:j<i
  ·rw[ap h1,bY (by simp;omega),ew,ap h1]
  ·rw[ak h1,cj (by simp;omega)]
   have:(xs.take i).length=i:=by simp;omega
   rw[this]
   by_cases l:j=i
   ·subst l;simp
   ·rw[ak l,show j-i=(j-i-1)+1 by omega,lH,gk]
    congr 1;omega
 by_cases hroom:xs.length+1<=cap
 ·by_cases n:i=xs.length
  ·subst n
   refine(hi.room g 0 xs.length cap vb 0 1 1 [.int .i64 v] w (by omega) hroom (by omega) rfl (fun j hj=>d _ (by omega)) (fun j _=>hfz _) hvs h1v).mono ?_
   rintro e w' ⟨rfl,rfl⟩
   obtain⟨arr',r,X⟩:=m9 g [.int .i64 v] (0+xs.length) w arr ty F;obtain⟨G,D,J,M⟩:=m7 g [.int .i64 v] (0+xs.length) w;refine⟨⟨g,cap,arr',ty,by rw[hlen],.inl rfl,r,by omega,by rw[hlen];exact hroom,hm,fun j x hx=> ?_⟩,G,D,J,by omega,fun b hb p=>nk g _ _ w b (fun h=>p (by rw[h]))⟩;rw[o]at hx;rw[<-ii r]
   by_cases h1:j<xs.length
   ·rw[ap h1]at hx
    rw[World.cell?_setCells_out g _ _ w _ (fun _ _=> .inl (by simpa using h1)),c];exact z j x hx
   ·rw[ak h1]at hx
    by_cases l:j=xs.length
    ·rw[ap l]at hx;simp at hx;subst hx;subst l
     have:=World.cell?_setCells_in g [.int .i64 v] (0+xs.length) w (fun j hj=>d _ (by simp at hj;omega)) 0 (by simp);simpa using this
    ·rw[ak l]at hx
     have:=(aK.1 hx).1;omega
  ·have C:i<xs.length:=by omega
   refine(hi.shift g 0 xs.length cap i vb 0 1 1 (xs.map (.int .i64)) [.int .i64 v] w C (by omega) hroom (by omega) O (by simp) rfl hcs (fun j hj=>by rw[eQ];exact d _ (by omega)) (fun j _=>hfz _) hvs (Gt xs) h1v H ty 1 arr.size
    (by simp[World.shape?,K]) (by simp[World.shape?,F]) (by omega) (by simp[World.frozen?,K]) (by simp[World.frozen?,K])).mono ?_
   rintro e w' ⟨rfl,rfl⟩
   obtain⟨m,r,X⟩:=m9 g ((xs.map (Value.int .i64)).drop i) (0+(i+1)) w.drew arr ty F;obtain⟨arr',I,b2⟩:=m9 g [.int .i64 v] (0+i) _ m ty r;obtain⟨G,D,J,M⟩:=m7 g ((xs.map (Value.int .i64)).drop i) (0+(i+1)) w.drew;obtain⟨s1,s2,R,Q⟩:=m7 g [.int .i64 v] (0+i) (w.drew.setCells g (0+(i+1)) ((xs.map (Value.int .i64)).drop i));refine⟨⟨g,cap,arr',ty,by rw[hlen],.inl rfl,I,by omega,by rw[hlen];exact hroom,hm,fun j x hx=> ?_⟩,s1.trans G,s2.trans D,R.trans J,by rw[Q,M];exact aU _,fun b hb p=>by
    rw[nk g _ _ _ b (fun h=>p (by rw[h])),nk g _ _ _ b (fun h=>p (by rw[h]))];rfl⟩
   rw[o]at hx;rw[<-ii I];have V:∀(j:Nat),j<((xs.map (Value.int .i64)).drop i).length->(w.drew.cell? ⟨g,0+(i+1)+j,none⟩).isSome=true:=fun j hj=>by
    simp at hj;exact d _ (by omega)
   by_cases h1:j<i
   ·rw[ap h1]at hx
    rw[World.cell?_setCells_out g _ _ _ _ (fun _ _=> .inl (by simpa using h1)),World.cell?_setCells_out g _ _ _ _ (fun _ _=> .inl (by show j<0+(i+1);omega))];exact(c j).trans (z j x hx)
   ·rw[ak h1]at hx
    by_cases l:j=i
    ·rw[ap l]at hx;simp at hx;subst hx;subst l
     have:=World.cell?_setCells_in g [.int .i64 v] (0+j) (w.drew.setCells g (0+(j+1)) ((xs.map (Value.int .i64)).drop j)) (fun k t=>by rw[ii r];simp at t;simp;omega) 0 (by simp);simpa using this
    ·rw[ak l]at hx
     have S:=(aK.1 hx).1;rw[World.cell?_setCells_out g _ _ _ _ (fun _ _=> .inr (by show 0+i+1<=j;omega))];have:=World.cell?_setCells_in g ((xs.map (Value.int .i64)).drop i) (0+(i+1)) w.drew V (j-(i+1)) (by simp;omega);rw[show 0+(i+1)+(j-(i+1))=j by omega]at this;rw[this];have u:xs[j-1]=x:=(aK.1 hx).2;simp only[List.getElem_drop,xf];rw[<-u]
     congr 3;omega
 ·by_cases n:i=xs.length
  ·subst n
   refine(hi.endGrow (some ⟨g,0,none⟩) xs.length cap vb 0 1 1 (xs.map (.int .i64)) [.int .i64 v] w (by omega) hn (by omega) q (by simp) rfl (fun h=>by simp at h) (fun a ha j x hx=>by
    simp only[aB]at ha;subst ha
    have:(⟨g,0,none⟩:Addr).add j=⟨g,0+j,none⟩:=by unfold Addr.add;split<;>simp_all
    rw[this];exact hcs j x hx) hvs h1v).mono ?_
   rintro e w' ⟨rfl,rfl⟩
   have s:=grownCap_ge w (xs.length+1) cap T;refine⟨⟨w.heap.size,_,_,T,by rw[hlen],.inr (aU _),jC w.drew _,?_,by rw[hlen];exact s,grownCap_le_maxLen w _ _ _ (by omega),fun j x hx=> ?_⟩,rfl,rfl,rfl,by rw[dU];exact bT _,fun b hb _=>Below.heap_alloc w.drew _ b hb⟩
   ·rw[mm,yJ];simp;omega
   ·have hj:=(aK.1 hx).1
    rw[hlen]at hj;rw[fR,C3]at hx;rw[ju (by simp;omega)];have:(xs.map (Value.int .i64)++[Value.int .i64 v])=(xs++[v]).map (Value.int .i64):=by simp
    rw[this,nJ,cH,hx];rfl
  ·have C:i<xs.length:=by omega
   refine(hi.grow g 0 xs.length cap i vb 0 1 1 (xs.map (.int .i64)) [.int .i64 v] w C (by omega) hn (by omega) q (by simp) rfl hcs hvs (Gt xs) h1v).mono ?_
   rintro e w' ⟨rfl,rfl⟩
   have s:=grownCap_ge w (xs.length+1) cap T;generalize Z:(((xs.map (Value.int .i64)).take i).toArray++Builtin.zeroCells (Value.int .i64 0).cells (xs.length+1-i)++Builtin.zeroCells (Value.int .i64 0).cells (grownCap w (xs.length+1) cap T-(xs.length+1)))=A0;have h4:A0.size=grownCap w (xs.length+1) cap T:=by
    rw[<-Z,mm,mm,yJ,yJ];simp;omega
   obtain⟨m,r,X⟩:=m9 w.heap.size [.int .i64 v] i (w.alloc (.cells A0 T)).drew A0 T (jC w _);obtain⟨arr',I,b2⟩:=m9 w.heap.size ((xs.map (Value.int .i64)).drop i) (i+1) (((w.alloc (.cells A0 T)).drew.setCells w.heap.size i [.int .i64 v]).drew) m T r;obtain⟨G,D,J,M⟩:=m7 w.heap.size [.int .i64 v] i (w.alloc (.cells A0 T)).drew;obtain⟨s1,s2,R,Q⟩:=m7 w.heap.size ((xs.map (Value.int .i64)).drop i) (i+1) (((w.alloc (.cells A0 T)).drew.setCells w.heap.size i [.int .i64 v]).drew);refine⟨⟨w.heap.size,_,arr',T,by rw[hlen],.inr (aU _),I,by omega,by rw[hlen];exact s,grownCap_le_maxLen w _ _ _ (by omega),fun j x hx=> ?_⟩,s1.trans G,s2.trans D,R.trans J,by
    rw[Q];show w.heap.size<=((w.alloc (.cells A0 T)).drew.setCells w.heap.size i [.int .i64 v]).heap.size;rw[M];show w.heap.size<=(w.alloc (.cells A0 T)).heap.size;rw[dU];exact bT _,fun b hb _=>by
    rw[nk _ _ _ _ b (by omega)];show((w.alloc (.cells A0 T)).drew.setCells w.heap.size i [.int .i64 v]).heap[b]?=_;rw[nk _ _ _ _ b (by omega)];exact Below.heap_alloc w _ b hb⟩
   rw[o]at hx;rw[<-ii I];have c1:∀k,(w.alloc (.cells A0 T)).drew.cell? ⟨w.heap.size,k,none⟩=A0[k]?:=ii (jC w (.cells A0 T));have c2:∀k,(((w.alloc (.cells A0 T)).drew.setCells w.heap.size i [.int .i64 v]).drew).cell? ⟨w.heap.size,k,none⟩=m[k]?:=ii r
   by_cases h1:j<i
   ·rw[ap h1]at hx
    rw[World.cell?_setCells_out _ _ _ _ _ (fun _ _=> .inl (by show j<i+1;omega))];show((w.alloc (.cells A0 T)).drew.setCells w.heap.size i [.int .i64 v]).cell? ⟨w.heap.size,j,none⟩=_;rw[World.cell?_setCells_out _ _ _ _ _ (fun _ _=> .inl h1),c1,<-Z,A3,ju (by simp;omega)];simp[h1,hx]
   ·rw[ak h1]at hx
    by_cases l:j=i
    ·rw[ap l]at hx;simp at hx;subst hx;subst l
     rw[World.cell?_setCells_out _ _ _ _ _ (fun _ _=> .inl (by show j<j+1;omega))];have:=World.cell?_setCells_in w.heap.size [.int .i64 v] j (w.alloc (.cells A0 T)).drew (fun k t=>by rw[c1];simp at t;simp;omega) 0 (by simp);simpa using this
    ·rw[ak l]at hx
     have S:=(aK.1 hx).1;have:=World.cell?_setCells_in w.heap.size ((xs.map (Value.int .i64)).drop i) (i+1) (((w.alloc (.cells A0 T)).drew.setCells w.heap.size i [.int .i64 v]).drew) (fun k t=>by rw[c2];simp at t;simp;omega) (j-(i+1)) (by simp;omega);rw[show i+1+(j-(i+1))=j by omega]at this;rw[this];have u:xs[j-1]=x:=(aK.1 hx).2;simp only[List.getElem_drop,xf];rw[<-u]
     congr 3;omega
end Go.Proofs.YtpcoohnjllclnaaGreat.VS
