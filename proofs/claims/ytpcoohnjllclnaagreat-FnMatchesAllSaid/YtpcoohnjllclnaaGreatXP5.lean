/- Contracts of the program's functions on the evaluator without names, and plain lemmas: part 5. -/
import Derived.Test.YtpcoohnjllclnaaGreatXP4
set_option linter.unusedSimpArgs false
set_option linter.unusedVariables false
namespace Go.Proofs.YtpcoohnjllclnaaGreat.VS
def cU(s:List SymL)(u:List Bd)(t:T):T:=(c6 u t).norm s
theorem qIc(u:List Bd)(v:Int):c6 u (.node (-1) v [])=ej u v:=by simp[c6]
theorem qR(u:List Bd){f v:Int}{ks:List T}(h:¬(f= -1/\ks.length=0)):c6 u (.node f v ks)= .node f v (dG u ks):=by simp only[c6];rw[ak h]
theorem JI(s:List SymL)(u:List Bd){f v:Int}{ks:List T}(h:¬(f= -1/\ks.length=0))(hb:¬bA s f=true):cU s u (.node f v ks)= .node f v (ks.map (cU s u)):=by
 unfold cU;rw[qR u h];simp only[T.norm];rw[ak hb,rG s f hb,T.norms_map,nV,eN];rfl
theorem Jv(s:List SymL)(u:List Bd){f v:Int}{ks:List T}(hb:bA s f=true):cU s u (.node f v ks)= .node f v (dX (flatK s f (ks.map (cU s u)))):=by
 unfold cU;rw[qR u (fun h=>pM hb h.1)];simp only[T.norm];rw[ap hb,T.norms_map,nV,eN];rfl
theorem tc{s:List SymL}{f v:Int}{ks:List T}(hb:bA s f=true):dk s f (.node f v ks)=ks:=by simp[dk,hb]
theorem nN{s:List SymL}{f:Int}{k:T}(h:k.f≠f):dk s f k=[k]:=by
 have:(k.f==f)=false:=by simpa using h
 simp[dk,this]
theorem JJ(s:List SymL)(u:List Bd)(k:T)(h:¬(k.f= -1/\k.kids.length=0)):(cU s u k).f=k.f:=by
 obtain⟨f,v,ks⟩:=k;simp only[T.qaP,T.qaC]at h;unfold cU;rw[qR u h,Cn];rfl
def getB(u:List Bd)(v:Int):Option T:=(u.find? fun b=>b.v==v).map Bd.t
theorem BG(u:List Bd)(v:Int):getB u v=(dm u v).map fun j=>(az u j).t:=by
 unfold getB;cases h:dm u v with
 |none=>
  have a:=(m0 _ _ _).2 h;have:u.find? (fun b=>b.v==v)=none:=by
   rw[List.find?_eq_none];intro b hb;obtain⟨i,hi,rfl⟩:=jl hb;rw[bK hi];have:=a i (by omega) (by omega);simpa using this
  rw[this];rfl
 |some j=>
  have h1:=eT _ _ _ _ h;have a:=(m0 _ _ _).1 j h;have hj:j<u.length:=by omega
  have:u.find? (fun b=>b.v==v)=some (az u j):=by
   rw[List.find?_eq_some_iff_getElem];refine⟨h1.2.2,j,hj,bK hj,fun i hi=> ?_⟩;rw[bK (by omega)];have:=a i (by omega) hi;rw[this];rfl
  rw[this];rfl
theorem uq{u:List Bd}{v:Int}{j:Nat}(h:dm u v=some j):getB u v=some (az u j).t:=by rw[BG,h];rfl
theorem qt{u:List Bd}{v:Int}(h:dm u v=none):getB u v=none:=by rw[BG,h];rfl
theorem BS(u:List Bd)(v:Int):ej u v=(getB u v).getD (.node (-1) v []):=by
 unfold ej;rw[BG];cases dm u v<;>rfl
theorem nG{u:List Bd}{v:Int}{t:T}(h:getB u v=some t):⟨v,t⟩∈u:=by
 unfold getB at h;rw[au]at h;obtain⟨b,hb,rfl⟩:=h;have h1:=List.mem_of_find?_eq_some hb;have a:=List.find?_some hb;obtain⟨bv,bt⟩:=b;simp only[eJ]at a;subst a;exact h1
theorem Ap(a b:List Bd)(v:Int):getB (a++b) v=(getB a v).or (getB b v):=by
 unfold getB;rw[List.find?_append];cases List.find? (fun b=>b.v==v) a<;>rfl
theorem Ge(b:Bd)(l:List Bd)(v:Int):getB (b::l) v=if b.v=v then some b.t else getB l v:=by
 unfold getB;rw[List.find?_cons]
 by_cases h:b.v=v
 ·simp[h]
 ·have:(b.v==v)=false:=by simpa using h
  rw[this,ak h]
theorem DX(u:List Bd)(v:Int)(t:T)(h:getB u v=none)(x:Int):getB (cM u v t) x=if v=x then some t else getB u x:=by
 have hs:u=u.take (fe u v)++u.drop (fe u v):=(du _ _).symm;unfold cM;rw[Ap,Ge];simp only
 by_cases c:v=x
 ·subst c
  rw[ap rfl,ap rfl];rw[hs,Ap]at h;cases hg:getB (u.take (fe u v)) v with
  |none=>rfl
  |some a=>rw[hg]at h;cases h
 ·rw[ak c,ak c]
  conv=>rhs;rw[hs,Ap]
def qpK(u w:List Bd):Prop:=∀v t,getB u v=some t->getB w v=some t
theorem qpK.refl(u:List Bd):qpK u u:=fun _ _ h=>h
theorem GM{u w:List Bd}{v:Int}{t:T}(h:getB u v=none)(he:qpK (cM u v t) w):qpK u w/\getB w v=some t:=by
 refine⟨fun x y hx=>he x y ?_,he v t ?_⟩
 ·rw[DX u v t h]
  by_cases c:v=x
  ·subst c;rw[h]at hx;cases hx
  ·rw[ak c];exact hx
 ·rw[DX u v t h,ap rfl]
def iG(w:List Bd)(t:T):Prop:=∀x,x∈t.nodes->x.f= -1->(getB w x.v).isSome=true
def Gl.holds(s:List SymL)(w:List Bd)(g:Gl):Prop:=
 (∀x,x∈g.ps->iG w x)/\(g.many=true->(flatK s g.f (g.ps.map (cU s w))).Perm g.ts)/\(g.many=false->g.ps.map (cU s w)=g.ts)
def Holds(s:List SymL)(w:List Bd)(gl:List Gl):Prop:=∀g,g∈gl->g.holds s w
theorem jA{s:List SymL}{w:List Bd}{g:Gl}{l:List Gl}:Holds s w (g::l)↔g.holds s w/\Holds s w l:=by unfold Holds;simp
theorem pi(s:List SymL)(w:List Bd)(v:Int)(t:T)(h:getB w v=some t)(a:t.nf s):cU s w (.node (-1) v [])=t:=by
 unfold cU;rw[qIc,BS,h];exact nC s t a
theorem wW(w:List Bd)(v:Int)(t:T)(h:getB w v=some t):iG w (.node (-1) v []):=fun x hx a=>by
 simp only[T.nodes,T.nodess,br,kU,lT]at hx;subst hx;simp only[T.qb7];rw[h];rfl
theorem DK{x k:T}:∀{ks:List T},k∈ks->x∈k.nodes->x∈T.nodess ks
 | [],h,_=>by cases h
 |t::r,h,hx=>by
  simp only[T.nodess,bl];rcases br.1 h with rfl|h
  ·exact .inl hx
  ·exact .inr (DK h hx)
theorem Jc{x:T}:∀{ks:List T},x∈T.nodess ks->∃k,k∈ks/\x∈k.nodes
 | [],h=>by simp[T.nodess]at h
 |t::r,h=>by
  simp only[T.nodess,bl]at h;rcases h with h|h
  ·exact⟨t,ed ..,h⟩
  ·obtain⟨k,a,hx⟩:=Jc h
   exact⟨k,dH _ a,hx⟩
theorem ym{w:List Bd}{f v:Int}{ks:List T}(b:f≠-1):iG w (.node f v ks)↔∀k,k∈ks->iG w k:=by
 unfold iG;constructor
 ·intro h k a x hx he
  exact h x (by simp only[T.nodes,br];exact .inr (DK a hx)) he
 ·intro h x hx he
  simp only[T.nodes,br]at hx;rcases hx with rfl|hx
  ·exact absurd he b
  ·obtain⟨k,a,hx⟩:=Jc hx
   exact h k a x hx he
theorem x8{s:List SymL}{p:T}(h:T.form s p=true)(a:p.f= -1):p= .node (-1) p.v []:=by
 have:=(Hc s p h).2 p (by cases p;simp[T.nodes]) a;obtain⟨f,v,ks⟩:=p;simp only[T.qaP,T.qaC,T.qb7]at*
 rw[a,this]
theorem Ln{s:List SymL}{f:Int}(hb:bA s f=true)(t:T):dk s f t=partsOf f t:=by
 unfold partsOf
 by_cases h:t.f=f
 ·obtain⟨a,v,ks⟩:=t
  simp only[T.qaP]at h;subst h;rw[tc hb];exact(ap rfl).symm
 ·rw[nN h,ak h]
theorem tX{l:List T}{j:Nat}(h:j<l.length):(ae l j::dM l j).Perm l:=by
 unfold dM;have h1:l=l.take j++ae l j::l.drop (j+1):=by
  have:=(du j l).symm;rwa[cW h,bc h]at this
 have a:(l.take j++ae l j::l.drop (j+1)).Perm (ae l j::(l.take j++l.drop (j+1))):=mD;rw[<-h1]at a;exact a.symm
theorem Hd:∀(xs l r:List T),takeN l xs= .inl r->(xs++r).Perm l
 | [],l,r,h=>by simp only[takeN,v8]at h;subst h;exact .refl _
 |x::xs,l,r,h=>by
  unfold takeN at h;cases hf:aO (i7 l x) l.length 0 with
  |none=>rw[hf]at h;cases h
  |some j=>
   rw[hf]at h;have b:=Hd xs _ r h;have h1:=eT _ _ _ _ hf;have c:ae l j=x:=by
    have:=h1.2.2;unfold i7 at this;rw[eJ]at this;exact j7 _ _ this
   have a:=tX (l:=l) (j:=j) (by omega);rw[c]at a;exact(List.Perm.cons x b).trans a
theorem KT(l:List T)(m:Nat):∀i,i<=l.length->(bQ l m i++cq l m i).Perm (l.take i)
 |0,_=>by simp[bQ,cq]
 |i+1,h=>by
  have a:=KT l m i (by omega);rw[qU l i h];unfold bQ cq;split
  ·have:(bQ l m i++[ae l i]++cq l m i).Perm ((bQ l m i++cq l m i)++[ae l i]):=by
    rw[b7,b7];exact J6 _ kS
   exact this.trans (a.append_right _)
  ·rw[<-b7]
   exact a.append_right _
theorem SX(l:List T)(m:Nat):(bQ l m l.length++cq l m l.length).Perm l:=by have:=KT l m l.length (aU _);rwa[fR]at this
theorem Ls(l:List T)(m:Nat):∀i,bQ l m i=[]->∀j,j<i->m.testBit j=false
 |0,_,j,h=>absurd h (y8 j)
 |i+1,h,j,hj=>by
  unfold bQ at h
  by_cases hb:m.testBit i=true
  ·rw[ap hb]at h;simp at h
  ·rw[ak hb]at h
   rcases Nat.lt_succ_iff_lt_or_eq.1 hj with h1|h1
   ·exact Ls l m i h j h1
   ·subst h1;simpa using hb
theorem Pf(l:List T)(m:Nat)(h1:0<m)(b:m<2^l.length):bQ l m l.length≠[]:=fun h=>by
 have a:=Ls l m l.length h;have:m=0:=Nat.eq_of_testBit_eq fun j=>by
  rw[Nat.zero_testBit]
  by_cases hj:j<l.length
  ·exact a j hj
  ·exact Ca (mI b (tw (by omega) (by omega)))
 omega
theorem O4(s:List SymL)(f:Int)(hb:bA s f=true)(ks:List T)(a:ks≠[])(c:∀k,k∈ks->k.nf s/\k.f≠f):(dk s f (dp s f ks)).Perm ks:=by
 by_cases d:2<=ks.length
 ·rw[Ku s f ks hb d,tc hb]
  have e:ks.map (T.norm s)=ks:=by
   have:=rJ (f:=T.norm s) (g:=id) (l:=ks) fun k b=>nC s k (c k b).1
   rwa[List.map_id]at this
  rw[e,x7 s f ks fun k b=>(c k b).2];exact jX ks
 ·match ks,a,c,d with
  | [],a,_,_=>exact absurd rfl a
  | [k],_,c,_=>
   have h:=c k (bC.2 rfl);have e:dp s f [k]=k:=by
    unfold dp;rw[ak (by simp),ap ⟨hb,rfl⟩];exact nC s k h.1
   rw[e,nN h.2]
  |_::_::_,_,_,d=>simp at d
theorem qC{s:List SymL}{f v:Int}{ks:List T}(h:T.form s (.node f v ks)=true)(b:f≠-1):v=0:=by
 have:=(CL h b).1;unfold fD at this
 by_cases hs:dL s f=true
 ·rw[ap hs]at this
  by_cases a:v=0
  ·exact a
  ·rw[ak a]at this;cases this
 ·rw[ak hs]at this;cases this
theorem qtE{s:List SymL}{gl:List Gl}{u:List Bd}(h:Inv s gl u)(c:List Gl×List Bd)(hc:c∈cd s gl u)(w:List Bd)(he:qpK c.2 w)(hw:Holds s w c.1):qpK u w/\Holds s w gl:=by
 match gl,h,hc with
 | [],h,hc=>simp[cd]at hc
 |⟨true,f,ps,ts⟩::rest,h,hc=>
  have R:=h.g _ (ed ..);obtain⟨V,D,z,W,_⟩:=R;obtain⟨I,hb,N,Y⟩:=W rfl;simp only at V D z I hb N Y;have x1:∀x,x∈ts->x.nf s:=fun x hx=>mu s x (D x hx).2
  cases ps with
  |nil=>
   simp only[cd]at hc;split at hc
   ·rename_i h0
    rw[bC]at hc;subst hc
    have:ts=[]:=mc h0;subst this;exact⟨he,jA.2 ⟨⟨fun x hx=>(by cases hx),fun _=> .refl _,fun e=>(by cases e)⟩,hw⟩⟩
   ·cases hc
  |cons p ps=>
   simp only[cd]at hc;have key:∀r:List T,(dk s f (cU s w p)++r).Perm ts->iG w p->Holds s w (ce f ps r::rest)->Holds s w (⟨true,f,p::ps,ts⟩::rest):=fun r hr h4 hh=>by
    obtain⟨h1,y⟩:=jA.1 hh;refine jA.2 ⟨⟨fun x hx=> ?_,fun _=> ?_,fun e=>(by cases e)⟩,y⟩
    ·rcases br.1 hx with rfl|hx
     ·exact h4
     ·exact h1.1 x hx
    ·simp only[bo,og]
     exact(J6 _ (h1.2.1 rfl)).trans hr
   split at hc
   ·rename_i l
    have G:=x8 (z p (ed ..)) l;split at hc
    ·rename_i j hj
     have o:=uq hj;split at hc
     ·rename_i r hr
      rw[bC]at hc;subst hc
      have d:=he _ _ o;have h5:=(h.b _ (pm (show j<u.length by have:=eT _ _ _ _ hj;omega))).2;refine⟨he,key r ?_ ?_ hw⟩
      ·rw[G,pi s w _ _ d h5,Ln hb]
       exact Hd _ _ _ hr
      ·rw[G];exact wW w _ _ d
     ·cases hc
    ·rename_i hj
     obtain⟨m,hm,rfl⟩:=bP.1 hc;have hm:=eW.1 hm;have o:=qt hj;obtain⟨H,q⟩:=GM o he;refine⟨H,key _ ?_ ?_ hw⟩
     ·rw[G,pi s w _ _ q (J8 s f _ hb)]
      refine(List.Perm.append_right _ (O4 s f hb _ (Pf ts (m+1) (by omega) (by omega)) fun k Z=> ?_)).trans (SX ts (m+1));have:=(Dq ts (m+1)).subset Z;exact⟨x1 k this,N k this⟩
     ·rw[G];exact wW w _ _ q
   ·obtain⟨i,hi,rfl⟩:=bP.1 hc
    have hi:=eW.1 hi;obtain⟨h1,y⟩:=jA.1 hw;have P:cU s w p=ae ts i:=by
     have:=h1.2.2 rfl;simpa[bZ]using this
    refine⟨he,key (dM ts i) ?_ (h1.1 p (bC.2 rfl)) y⟩;rw[P,nN (N _ (bS hi))];exact tX hi
 |⟨false,f,ps,ts⟩::rest,h,hc=>
  have R:=h.g _ (ed ..);obtain⟨V,D,z,_,I⟩:=R;obtain⟨p,t,G,ht⟩:=I rfl;simp only at G ht;subst G ht;have K:=z p (bC.2 rfl);have O:=(D t (bC.2 rfl)).2;have M:=mu s t O;have key:iG w p->cU s w p=t->Holds s w rest->Holds s w (⟨false,f,[p],[t]⟩::rest):=fun h1 y P=>
   jA.2 ⟨⟨fun x hx=>by rw[bC]at hx;subst hx;exact h1,fun e=>(by cases e),fun _=>by simp[y]⟩,P⟩
  rw[eI]at hc
  by_cases l:p.f= -1
  ·rw[ap l]at hc
   have a:=x8 K l;split at hc
   ·rename_i hj
    rw[bC]at hc;subst hc
    have o:=qt hj;obtain⟨H,q⟩:=GM o he;exact⟨H,key (by rw[a];exact wW w _ _ q) (by rw[a];exact pi s w _ _ q M) hw⟩
   ·rename_i j hj
    split at hc
    ·rename_i F
     rw[bC]at hc;subst hc
     rw[eJ]at F;have d:=he _ _ (uq hj);rw[j7 _ _ F]at d;exact⟨he,key (by rw[a];exact wW w _ _ d) (by rw[a];exact pi s w _ _ d M) hw⟩
    ·cases hc
  ·rw[ak l]at hc
   by_cases C:p.f=t.f
   case neg=>rw[ap C]at hc;cases hc
   case pos=>
    rw[ak (fun h=>h C)]at hc
    by_cases n:bA s p.f=true
    ·rw[ap n,bC]at hc;subst hc
     obtain⟨h1,y⟩:=jA.1 hw;obtain⟨pf,pv,S⟩:=p;obtain⟨tf,tv,X⟩:=t;simp only[T.qaP,T.qaC]at*
     subst C;have a:=qC K l;have J:=qC O l;subst a J;refine⟨he,key ((ym l).2 h1.1) ?_ y⟩;rw[Jv s w n]
     congr 1
     have P:=h1.2.1 rfl;simp only[ce]at P;exact(vk P.symm (D4 M n).2).symm
    ·rw[ak n]at hc
     by_cases hlen:p.kids.length=t.kids.length
     case neg=>rw[ap hlen]at hc;cases hc
     case pos=>
      rw[ak (fun h=>h hlen),bC]at hc;subst hc
      obtain⟨pf,pv,S⟩:=p;obtain⟨tf,tv,X⟩:=t;simp only[T.qaP,T.qaC]at*
      subst C;have a:=qC K l;have J:=qC O l;subst a J;have Q:∀i,i<S.length->iG w (ae S i)/\cU s w (ae S i)=ae X i:=fun i hi=>by
       have:=hw (bZ (ae S i) (ae X i)) (kj _ (bP.2 ⟨i,eW.2 hi,rfl⟩));refine⟨this.1 _ (bC.2 rfl),?_⟩;have:=this.2.2 rfl;simpa[bZ]using this
      refine⟨he,key ((ym l).2 fun k Z=> ?_) ?_ fun g R=>hw g (mF _ R)⟩
      ·obtain⟨i,hi,rfl⟩:=jl Z
       rw[bc hi];exact(Q i hi).1
      ·rw[JI s w (fun e=>l e.1) n]
       congr 1
       apply Jx (by simp[hlen]);intro i h1 y;rw[xf,bc (by simpa using h1),bc y];exact(Q i (by simpa using h1)).2
theorem Pg{s:List SymL}(n:Nat){gl:List Gl}{u w:List Bd}(h:Inv s gl u)(hw:some w∈cQ s n gl u):qpK u w/\Holds s w gl:=by
 refine wQ (P:=fun a d=>Inv s a d/\∀x,qpK d x->Holds s x a->qpK u x/\Holds s x gl) (fun a d c e hc=>⟨(l9 e.1 c hc).1,fun x h1 b=> ?_⟩) n gl u w ⟨h,fun x h1 b=>⟨h1,b⟩⟩ hw|>.2 w (qpK.refl w) fun g k=>by cases k
 obtain⟨j,i⟩:=qtE e.1 c hc x h1 b;exact e.2 x j i
theorem Ew(a:T):T.cmp a a=0:=by have:=pZ a a;omega
theorem Ik:∀(xs ys l:List T),(xs++ys).Perm l->∃r,takeN l xs= .inl r/\r.Perm ys
 | [],ys,l,h=>⟨l,rfl,h.symm⟩
 |x::xs,ys,l,h=>by
  have hx:x∈l:=h.mem_iff.1 (by simp);unfold takeN;cases hf:aO (i7 l x) l.length 0 with
  |none=>
   obtain⟨i,hi,he⟩:=jl hx;rw[bc hi]at he;have:=(m0 _ _ _).2 hf i (cE _) (by omega);unfold i7 at this;rw[he,Ew]at this;cases this
  |some j=>
   have h1:=eT _ _ _ _ hf;have c:ae l j=x:=by
    have:=h1.2.2;unfold i7 at this;rw[eJ]at this;exact j7 _ _ this
   have a:=tX (l:=l) (j:=j) (by omega);rw[c]at a;have b:(xs++ys).Perm (dM l j):=yD (h.trans a.symm);exact Ik xs ys _ b
theorem J5{x:T}{a:List T}(h:x∈a):∃a',a.Perm (x::a'):=by
 obtain⟨b,c,rfl⟩:=List.append_of_mem h;exact⟨b++c,mD⟩
theorem Bm:∀(i:Nat) (l:List T) (a b:List T),i<=l.length->(a++b).Perm (l.take i)->∃m,m<2^i/\(bQ l m i).Perm a/\(cq l m i).Perm b
 |0,l,a,b,_,h=>by
  rw[rI]at h;have:=h.eq_nil;simp only[uZ]at this;obtain⟨rfl,rfl⟩:=this;exact⟨0,by decide,.refl _,.refl _⟩
 |i+1,l,a,b,hi,h=>by
  rw[qU l i hi]at h;have hx:ae l i∈a++b:=h.mem_iff.2 (by simp);have hz:(a++b).Perm (ae l i::l.take i):=h.trans (kS);have g:∀m,m<2^i->∀j,j<=i->bQ l (2^i+m) j=bQ l m j/\cq l (2^i+m) j=cq l m j:=fun m hm j=>by
   induction j with
   |zero=>intro _;exact⟨rfl,rfl⟩
   |succ j p=>
    intro hj;have h1:=p (by omega);have c:(2^i+m).testBit j=m.testBit j:=Nat.testBit_two_pow_add_gt (by omega) m;unfold bQ cq;rw[c,h1.1,h1.2];exact⟨rfl,rfl⟩
  by_cases ha:ae l i∈a
  ·obtain⟨a',d⟩:=J5 ha
   have n:(a'++b).Perm (l.take i):=yD (((d.append_right b).symm).trans hz);obtain⟨m,hm,h1,c⟩:=Bm i l a' b (by omega) n;have hb:(2^i+m).testBit i=true:=by
    rw[Nat.testBit_two_pow_add_eq,Ca hm];rfl
   refine⟨2^i+m,by rw[vM];omega,?_,?_⟩
   ·unfold bQ
    rw[ap hb,(g m hm i (aU _)).1];exact((h1.append_right _).trans kS).trans d.symm
   ·unfold cq
    rw[ap hb,(g m hm i (aU _)).2];exact c
  ·have k:ae l i∈b:=(bl.1 hx).resolve_left ha
   obtain⟨o,e⟩:=J5 k;have n:(a++o).Perm (l.take i):=yD ((mD.symm.trans ((e.append_left a).symm)).trans hz);obtain⟨m,hm,h1,c⟩:=Bm i l a o (by omega) n;have hb:m.testBit i=false:=Ca hm;refine⟨m,by rw[vM];omega,?_,?_⟩
   ·unfold bQ
    rw[ak (by rw[hb];simp)];exact h1
   ·unfold cq
    rw[ak (by rw[hb];simp)];exact((c.append_right _).trans kS).trans e.symm
def Made(s:List SymL)(t:T):Prop:=t.nf s/\(bA s t.f=true->2<=t.kids.length/\t.v=0)
theorem PW{s:List SymL}{f:Int}(hb:bA s f=true){t:T}(d:Made s t){ks:List T}(h:ks.Perm (dk s f t)):dp s f ks=t:=by
 by_cases c:t.f=f
 ·obtain⟨i,q,n⟩:=t
  simp only[T.qaP]at c;subst c;rw[tc hb]at h;obtain⟨h1,b⟩:=d;have b:=b hb;simp only[T.qb7,T.qaC]at b;obtain⟨b,rfl⟩:=b;simp only[T.nf]at h1;have m:=(T.qjd s n).1 h1.1;obtain⟨j,o⟩:=h1.2 hb;have p:=h.length_eq;rw[Ku s i ks hb (by omega)];have e:ks.map (T.norm s)=ks:=by
   have:=rJ (f:=T.norm s) (g:=id) (l:=ks) fun k a=>nC s k (m k (h.mem_iff.1 a))
   rwa[List.map_id]at this
  rw[e,x7 s i ks fun k a=>j k (h.mem_iff.1 a),<-vk h.symm o]
 ·rw[nN c]at h
  have:ks=[t]:=List.perm_singleton.1 h;subst this;unfold dp;rw[ak (by simp),ap ⟨hb,rfl⟩];exact nC s t d.1
theorem FF{w:List Bd}{v:Int}(h:iG w (.node (-1) v [])):∃t,getB w v=some t:=
 mt.1 (h (.node (-1) v []) (by simp[T.nodes]) rfl)
theorem M8{s:List SymL}{f:Int}(hb:bA s f=true){t:T}(a:Made s t):dk s f t≠[]:=by
 by_cases c:t.f=f
 ·obtain⟨b,d,g⟩:=t
  simp only[T.qaP]at c;subst c;rw[tc hb];have:=(a.2 hb).1;simp only[T.qaC]at this;intro e;subst e;simp at this
 ·rw[nN c];simp
theorem G8{u w:List Bd}{v:Int}{t:T}(h:getB u v=none)(he:qpK u w)(hw:getB w v=some t):qpK (cM u v t) w:=fun x y hx=>by
 rw[DX u v t h]at hx
 by_cases c:v=x
 ·subst c;rw[ap rfl]at hx;rw[hw];exact hx
 ·rw[ak c]at hx;exact he x y hx
theorem Pw{s:List SymL}{w:List Bd}(hm:∀v t,getB w v=some t->Made s t){g:Gl}{rest:List Gl}{u:List Bd}(h:Inv s (g::rest) u)(he:qpK u w)(hw:Holds s w (g::rest)):∃c,c∈cd s (g::rest) u/\qpK c.2 w/\Holds s w c.1:=by
 have q:=h.g _ (ed ..);obtain⟨C,l⟩:=jA.1 hw;obtain⟨mn,f,ps,ts⟩:=g;cases mn with
 |true=>
  obtain⟨N,K,o,S,_⟩:=q;obtain⟨D,hb,Z,G⟩:=S rfl;simp only at N K o D hb Z G;obtain⟨k,b,_⟩:=C;have b:=b rfl;simp only at k b;cases ps with
  |nil=>
   have:ts=[]:=b.symm.eq_nil;subst this;exact⟨(rest,u),by simp[cd],he,l⟩
  |cons p ps=>
   simp only[bo,og]at b;have H:=k p (ed ..);have hcs:∀x,x∈ps->iG w x:=fun x hx=>k x (dH _ hx)
   have key:∀r:List T,r.Perm (flatK s f (ps.map (cU s w)))->Holds s w (ce f ps r::rest):=fun r X=>
    jA.2 ⟨⟨hcs,fun _=>X.symm,fun e=>by(cases e)⟩,l⟩
   by_cases c:p.f= -1
   ·have M:=x8 (o p (ed ..)) c
    have y:=H;rw[M]at y;obtain⟨t0,d⟩:=FF y;have n:=hm _ _ d;have a:cU s w p=t0:=by rw[M];exact pi s w _ _ d n.1
    rw[a]at b;cases hj:dm u p.v with
    |some j=>
     have h1:=he _ _ (uq hj);rw[d]at h1;have h1:t0=(az u j).t:=by simpa using h1
     rw[Ln hb,h1]at b;obtain⟨r,X,V⟩:=Ik _ _ _ b;exact⟨(ce f ps r::rest,u),by simp[cd,c,hj,X],he,key r V⟩
    |none=>
     have Q:(dk s f t0++flatK s f (ps.map (cU s w))).Perm (ts.take ts.length):=by rw[fR];exact b
     obtain⟨m,x1,z,h2⟩:=Bm ts.length ts _ _ (aU _) Q;have h5:m≠0:=fun e=>by
      subst e;have hz:∀i,bQ ts 0 i=[]:=fun i=>by
       induction i with
       |zero=>rfl
       |succ i ih=>unfold bQ;rw[ih];simp
      rw[hz]at z;exact M8 hb n z.symm.eq_nil
     refine⟨(ce f ps (cq ts m ts.length)::rest,cM u p.v (dp s f (bQ ts m ts.length))),?_,?_,key _ h2⟩
     ·simp only[cd]
      rw[ap c,hj];simp only;exact bP.2 ⟨m-1,eW.2 (by omega),by rw[show m-1+1=m by omega]⟩
     ·simp only
      rw[PW hb n z];exact G8 (qt hj) he d
   ·have O:(cU s w p).f=p.f:=JJ s w p fun e=>c e.1
    have W:(cU s w p).f≠f:=by rw[O];exact G p (ed ..)
    rw[nN W]at b;have I:cU s w p∈ts:=b.mem_iff.1 (by simp);obtain⟨i,hi,F⟩:=jl I;rw[bc hi]at F;have Q:=tX hi;rw[F]at Q;have h4:(flatK s f (ps.map (cU s w))).Perm (dM ts i):=yD (b.trans Q.symm);refine⟨(bZ p (ae ts i)::ce f ps (dM ts i)::rest,u),?_,he,jA.2 ⟨⟨fun x hx=> ?_,fun e=>by(cases e),fun _=> ?_⟩,key _ h4.symm⟩⟩
    ·simp only[cd]
     rw[ak c];exact bP.2 ⟨i,eW.2 hi,rfl⟩
    ·rw[bZ,bC]at hx;subst hx;exact H
    ·simp[bZ,F]
 |false=>
  obtain⟨N,K,o,_,D⟩:=q;obtain⟨p,t,M,ht⟩:=D rfl;simp only at M ht;subst M ht;have Y:=o p (bC.2 rfl);have k:=C.1 p (bC.2 rfl);have a:cU s w p=t:=by have:=C.2.2 rfl;simpa using this
  by_cases c:p.f= -1
  ·have P:=x8 Y c
   rw[P]at k;obtain⟨t0,d⟩:=FF k;have n:=hm _ _ d;have h0:t0=t:=by rw[<-a,P];exact(pi s w _ _ d n.1).symm
   subst h0;cases hj:dm u p.v with
   |none=>exact⟨(rest,cM u p.v t0),by simp[eI,c,hj],G8 (qt hj) he d,l⟩
   |some j=>
    have h1:=he _ _ (uq hj);rw[d]at h1;have h1:t0=(az u j).t:=by simpa using h1
    exact⟨(rest,u),by simp[eI,c,hj,<-h1,Ew],he,l⟩
  ·have O:(cU s w p).f=p.f:=JJ s w p fun e=>c e.1
   rw[a]at O;cases hbl:bA s p.f with
   |true=>
    refine⟨(ce p.f p.kids t.kids::rest,u),by simp[eI,c,O,hbl],he,jA.2 ⟨?_,l⟩⟩;obtain⟨pf,pv,J⟩:=p;obtain⟨tf,tv,R⟩:=t;simp only[T.qaP,T.qaC]at*
    rw[Jv s w hbl]at a;injection a with _ _ a
    refine⟨(ym c).1 k,fun _=> ?_,fun e=>by(cases e)⟩;simp only[ce];rw[<-a];exact(jX _).symm
   |false=>
    obtain⟨pf,pv,J⟩:=p;obtain⟨tf,tv,R⟩:=t;simp only[T.qaP]at*
    rw[JI s w (fun e=>c e.1) (by rw[hbl];simp)]at a;injection a with _ _ a
    have hlen:J.length=R.length:=by rw[<-a,dK]
    refine⟨(dF J R J.length++rest,u),by simp[eI,c,O,hbl,hlen],he,fun g q=> ?_⟩;rcases bl.1 q with q|q
    ·obtain⟨i,hi,rfl⟩:=bP.1 q
     have hi:=eW.1 hi;refine⟨fun x hx=> ?_,fun e=>by(cases e),fun _=> ?_⟩
     ·rw[bZ,bC]at hx;subst hx
      exact(ym c).1 k _ (bS hi)
     ·have:ae R i=cU s w (ae J i):=by
       rw[<-a];unfold ae;rw[cH,eh hi];rfl
      simp[bZ,this]
    ·exact l g q
theorem F3{s:List SymL}{w:List Bd}(hm:∀v t,getB w v=some t->Made s t):∀(n:Nat) (gl:List Gl) (u:List Bd),eY gl<n->Inv s gl u->qpK u w->Holds s w gl->∃x,some x∈cQ s n gl u/\qpK x w
 |0,gl,u,h,_,_,_=>absurd h (y8 _)
 |n+1,[],u,_,_,he,_=>⟨u,by rw[xq];simp,he⟩
 |n+1,g::rest,u,hn,hi,he,hw=>by
  obtain⟨c,hc,h1,b⟩:=Pw hm hi he hw;obtain⟨d,e⟩:=l9 hi c hc;obtain⟨x,hx,a⟩:=F3 hm n c.1 c.2 (by omega) d h1 b;refine⟨x,?_,a⟩;rw[xk];exact dH _ (qv.2 ⟨c,hc,hx⟩)
def mW(V:Int->Prop)(t:T):Prop:=∀x,x∈t.nodes->x.f= -1->V x.v
structure KInv(V:Int->Prop)(gl:List Gl)(u:List Bd):Prop where
 k:∀b,b∈u->V b.v
 p:∀g,g∈gl->∀x,x∈g.ps->mW V x
 o:(u.map Bd.v).Pairwise (·<·)
theorem NT{u:List Bd}{v:Int}(h:getB u v=none):∀b,b∈u->b.v≠v:=fun b hb he=>by
 unfold getB at h;rw[Fs,List.find?_eq_none]at h;exact h b hb (by simp[he])
theorem O1{u:List Bd}{v:Int}(t:T)(hn:getB u v=none)(h:(u.map Bd.v).Pairwise (·<·)):((cM u v t).map Bd.v).Pairwise (·<·):=by
 have g:=NT hn;rw[List.pairwise_map]at h⊢
 have e:∀b,b∈u.take (fe u v)->b.v<v:=fun b hb=>by
  obtain⟨i,hi,rfl⟩:=jl hb;rw[sk]at hi;have h1:=g _ (qk hb);rw[List.getElem_take,bK (by omega)]at h1⊢
  have j:=YK u v i (by omega) (by omega);omega
 have c:∀b,b∈u.drop (fe u v)->v<b.v:=fun b hb=>by
  by_cases d:fe u v<u.length
  ·have j:=Ta u v d
   have k:=h.sublist (List.drop_sublist (fe u v) u);rw[cW d,bK d]at k hb;rcases br.1 hb with rfl|hb
   ·exact j
   ·have:=(gC.1 k).1 b hb
    omega
  ·rw[kw (by omega)]at hb;cases hb
 unfold cM;rw[iE];refine⟨h.sublist (List.take_sublist _ _),gC.2 ⟨c,h.sublist (List.drop_sublist _ _)⟩,fun a ha b hb=> ?_⟩;have h1:=e a ha;rcases br.1 hb with rfl|hb
 ·exact h1
 ·have:=c b hb;omega
theorem FN{V:Int->Prop}{f v:Int}{ks:List T}(h:mW V (.node f v ks)):∀k,k∈ks->mW V k:=fun k b x hx a=>
 h x (by simp only[T.nodes,br];exact .inr (DK b hx)) a
theorem KA{V:Int->Prop}{p:T}(h:mW V p)(a:p.f= -1):V p.v:=h p (by cases p;simp[T.nodes]) a
theorem ZG{s:List SymL}{V:Int->Prop}{gl:List Gl}{u:List Bd}(hi:Inv s gl u)(h:KInv V gl u)(c:List Gl×List Bd)(hc:c∈cd s gl u):KInv V c.1 c.2:=by
 have d:∀v t,V v->dm u v=none->(∀b,b∈cM u v t->V b.v)/\((cM u v t).map Bd.v).Pairwise (·<·):=fun v t e hn=>
  ⟨fun b hb=>by
   rcases Ay hb with rfl|hb
   ·exact e
   ·exact h.k b hb,O1 t (qt hn) h.o⟩
 match gl,hi,h,hc with
 | [],hi,h,hc=>simp[cd]at hc
 |⟨true,f,ps,ts⟩::rest,hi,h,hc=>
  have l:∀g,g∈rest->∀x,x∈g.ps->mW V x:=fun g a=>h.p g (dH _ a)
  have j:=h.p _ (ed ..);simp only at j;cases ps with
  |nil=>
   simp only[cd]at hc;split at hc
   ·rw[bC]at hc;subst hc;exact⟨h.k,l,h.o⟩
   ·cases hc
  |cons p ps=>
   have q:∀r g,g∈ce f ps r::rest->∀x,x∈g.ps->mW V x:=fun r g a x hx=>by
    rcases br.1 a with rfl|a
    ·exact j x (dH _ hx)
    ·exact l g a x hx
   simp only[cd]at hc;split at hc
   ·rename_i e
    split at hc
    ·split at hc
     ·rw[bC]at hc;subst hc;exact⟨h.k,q _,h.o⟩
     ·cases hc
    ·rename_i hj
     obtain⟨m,_,rfl⟩:=bP.1 hc;have:=d p.v (dp s f (bQ ts (m+1) ts.length)) (KA (j p (ed ..)) e) hj;exact⟨this.1,q _,this.2⟩
   ·obtain⟨i,_,rfl⟩:=bP.1 hc
    refine⟨h.k,fun g a x hx=> ?_,h.o⟩;rcases br.1 a with rfl|a
    ·simp only[bZ,bC]at hx;subst hx;exact j _ (ed ..)
    ·exact q _ g a x hx
 |⟨false,f,ps,ts⟩::rest,hi,h,hc=>
  have l:∀g,g∈rest->∀x,x∈g.ps->mW V x:=fun g a=>h.p g (dH _ a)
  have a:=hi.g _ (ed ..);obtain⟨p,t,j,z⟩:=a.2.2.2.2 rfl;simp only at j z;subst j z;have n:=h.p _ (ed ..) p (bC.2 rfl);rw[eI]at hc
  by_cases e:p.f= -1
  ·rw[ap e]at hc
   split at hc
   ·rename_i hj
    rw[bC]at hc;subst hc
    have:=d p.v t (KA n e) hj;exact⟨this.1,l,this.2⟩
   ·split at hc
    ·rw[bC]at hc;subst hc;exact⟨h.k,l,h.o⟩
    ·cases hc
  ·rw[ak e]at hc
   by_cases w:p.f=t.f
   case neg=>rw[ap w]at hc;cases hc
   case pos=>
    rw[ak (fun h=>h w)]at hc
    by_cases y:bA s p.f=true
    ·rw[ap y,bC]at hc;subst hc
     refine⟨h.k,fun g a x hx=> ?_,h.o⟩;rcases br.1 a with rfl|a
     ·obtain⟨F,D,C⟩:=p
      exact FN n x hx
     ·exact l g a x hx
    ·rw[ak y]at hc
     by_cases hlen:p.kids.length=t.kids.length
     case neg=>rw[ap hlen]at hc;cases hc
     case pos=>
      rw[ak (fun h=>h hlen),bC]at hc;subst hc
      refine⟨h.k,fun g a x hx=> ?_,h.o⟩;rcases bl.1 a with a|a
      ·obtain⟨i,hi,rfl⟩:=bP.1 a
       have hi:=eW.1 hi;simp only[bZ,bC]at hx;subst hx
       obtain⟨F,D,C⟩:=p;exact FN n _ (bS hi)
      ·exact l g a x hx
theorem OI{s:List SymL}{V:Int->Prop}(n:Nat){gl:List Gl}{u w:List Bd}(hi:Inv s gl u)(h:KInv V gl u)(hw:some w∈cQ s n gl u):KInv V [] w:=
 (wQ (P:=fun gl u=>Inv s gl u/\KInv V gl u) (fun gl u c a hc=>⟨(l9 a.1 c hc).1,ZG a.1 a.2 c hc⟩) n gl u w ⟨hi,h⟩ hw).2
theorem pe:∀{u:List Bd},(u.map Bd.v).Pairwise (·<·)->∀b,b∈u->getB u b.v=some b.t
 | [],_,b,h=>by cases h
 |a::l,c,b,h=>by
  rw[bo,gC]at c;rw[Ge];rcases br.1 h with rfl|h
  ·rw[ap rfl]
  ·have:=c.1 b.v (bP.2 ⟨b,h,rfl⟩)
   rw[ak (by omega)];exact pe c.2 b h
theorem WC{a b:List Int}(ha:a.Pairwise (·<·))(hb:b.Pairwise (·<·))(h:∀x,x∈a↔x∈b):a=b:=
 Ct (le:=(·<·)) (fun x y _ _ h1 c=>by omega) ha hb ((FP (ha.imp fun h=>by omega) (hb.imp fun h=>by omega)).2 h)
theorem ext_eq{u w:List Bd}(c:(u.map Bd.v).Pairwise (·<·))(hw:(w.map Bd.v).Pairwise (·<·))(h1:qpK u w)(d:qpK w u):u=w:=by
 have hm:∀b,b∈u↔b∈w:=fun b=>⟨fun h=>nG (h1 _ _ (pe c b h)),fun h=>nG (d _ _ (pe hw b h))⟩
 rw[List.pairwise_map]at c hw;exact Ct (le:=fun a b:Bd=>a.v<b.v) (fun x y _ _ h1 d=>by omega) c hw ((FP (c.imp fun h e=>by subst e;omega) (hw.imp fun h e=>by subst e;omega)).2 hm)
theorem tu{s:List SymL}{p t:T}(c:dA s p=true)(a:dA s t=true)(hw:fg t=false):Inv s [bZ p t] []:=by
 unfold dA at c a;simp only[aF,ba]at c a;refine⟨fun g d=> ?_,fun b hb=>by(cases hb),?_⟩
 ·rw[bC]at d;subst d
  refine⟨?_,fun x hx=> ?_,fun x hx=> ?_,fun e=>by(cases e),fun _=>⟨_,_,rfl,rfl⟩⟩
  ·simp only[bZ,dN]
   have:bh []=0:=rfl;omega
  ·simp only[bZ,bC]at hx;subst hx;exact⟨hw,a.2.2⟩
  ·simp only[bZ,bC]at hx;subst hx;exact c.2.2
 ·rw[fG,rQ]
  have:eY []=0:=rfl;simp only[h_];omega
theorem Hx(p t:T):eY [bZ p t]=3*p.inner+2:=by rw[fG,rQ];rfl
theorem X_{s:List SymL}{p t:T}(q:dA s p=true)(l:dA s t=true)(d:fg t=false){n:Nat}{w:List Bd}(hw:some w∈cQ s n [bZ p t] []):cU s w p=t/\w.map Bd.v=eB p:=by
 have hi:=tu q l d;obtain⟨_,m⟩:=Pg n hi hw;have i:=m _ (bC.2 rfl);have h:=OI (V:=fun v=>v∈eB p) n hi ⟨fun b hb=>by(cases hb),fun g j x hx=>by
  rw[bC]at j;subst j
  simp only[bZ,bC]at hx;subst hx
  exact fun y hy a=>(vI _ _).2 ⟨y,hy,a,rfl⟩,mr⟩ hw
 refine⟨by have:=i.2.2 rfl;simpa[bZ]using this,WC h.o (uR p) fun v=>⟨fun c=> ?_,fun c=> ?_⟩⟩
 ·obtain⟨b,hb,rfl⟩:=bP.1 c
  exact h.k b hb
 ·obtain⟨x,hx,a,rfl⟩:=(vI _ _).1 c
  have:=i.1 p (bC.2 rfl) x hx a;obtain⟨r,e⟩:=mt.1 this;exact bP.2 ⟨_,nG e,rfl⟩
theorem Ps{s:List SymL}{p t:T}(u:dA s p=true)(m:dA s t=true)(i:fg t=false){n:Nat}(hn:3*p.inner+2<n){w:List Bd}(hm:∀b,b∈w->Made s b.t)(k:w.map Bd.v=eB p)(D:cU s w p=t):some w∈cQ s n [bZ p t] []:=by
 have hi:=tu u m i;have o:(w.map Bd.v).Pairwise (·<·):=by rw[k];exact uR p
 have a:iG w p:=fun x hx he=>by
  have:x.v∈w.map Bd.v:=by rw[k];exact(vI _ _).2 ⟨x,hx,he,rfl⟩
  obtain⟨b,hb,l⟩:=bP.1 this;rw[<-l,pe o b hb];rfl
 obtain⟨x,hx,c⟩:=F3 (w:=w) (fun v t h=>hm _ (nG h)) n [bZ p t] [] (by rw[Hx];exact hn) hi (fun v t h=>by cases h) fun g C=>by
  rw[bC]at C;subst C
  exact⟨fun y hy=>by simp only[bZ,bC]at hy;subst hy;exact a,fun e=>by(cases e),fun _=>by simp[bZ,D]⟩
 obtain⟨h1,q⟩:=X_ u m i hx;have d:(x.map Bd.v).Pairwise (·<·):=by rw[q];exact uR p
 have:x=w:=ext_eq d o c fun v t h=>by
  have j:v∈x.map Bd.v:=by rw[q,<-k];exact bP.2 ⟨_,nG h,rfl⟩
  obtain⟨b,hb,rfl⟩:=bP.1 j;have z:=pe d b hb;have r:=c _ _ z;rw[h]at r;rw[r];exact z
 rwa[this]at hx
theorem MS.qTY(S:MS)(e:Option (List Bd))(x:List Bd)(h:fO S.ways x=true):fO (S.ev e).ways x=true:=by
 unfold MS.ev;split
 ·exact h
 ·cases e with
  |none=>exact h
  |some u=>
   simp only;split
   ·exact h
   ·unfold fO at h⊢
    rw[y9]at h⊢
    obtain⟨j,h1,b,a⟩:=h;refine⟨j,h1,by simp;omega,?_⟩;unfold e_ at a⊢
    rw[bY (by omega)];exact a
theorem MS.qFh:∀(es:List (Option (List Bd))) (S:MS) (x:List Bd),fO S.ways x=true->fO (S.run es).ways x=true
 | [],S,x,h=>h
 |e::es,S,x,h=>MS.qFh es (S.ev e) x (S.qTY e x h)
theorem MS.qFj(S:MS)(e:Option (List Bd))(h:(S.ev e).done=false):S.done=false:=by
 cases hd:S.done with
 |false=>rfl
 |true=>
  have:S.ev e=S:=by unfold MS.ev;rw[ap hd]
  rw[this,hd]at h;cases h
theorem MS.qwY:∀(es:List (Option (List Bd))) (S:MS),(S.run es).done=false->S.done=false
 | [],S,h=>h
 |e::es,S,h=>S.qFj e (MS.qwY es (S.ev e) h)
theorem Rm(u:List Bd):fQ u u=true:=by
 unfold fQ;simp only[decide_true,eP,Iq];cases h:aO (gO u u) u.length 0 with
 |none=>rfl
 |some j=>
  have:=(eT _ _ _ _ h).2.2;unfold gO at this;simp[Ew]at this
theorem MS.qFn:∀(es:List (Option (List Bd))) (S:MS),(S.run es).done=false->∀x,some x∈es->fO (S.run es).ways x=true
 | [],S,_,x,h=>by cases h
 |e::es,S,hd,x,h=>by
  have a:=MS.qwY es (S.ev e) hd;have b:=S.qFj e a;rcases br.1 h with rfl|h
  ·refine MS.qFh es (S.ev (some x)) x ?_
   rw[S.qFi b];split
   ·assumption
   ·unfold fO
    rw[y9];refine⟨S.ways.length,cE _,by simp,?_⟩;unfold e_;simp[Rm]
  ·exact MS.qFn es (S.ev e) hd x h
def nQ(s:List SymL)(p t:T):Bool:=dA s p&&(dA s t&& !fg t)
def me:MS:=⟨[],0,false⟩
def iq(s:List SymL)(p t:T):MS:=me.run (cQ s (3*p.inner+3) [bZ p t] [])
def fw(s:List SymL)(p t:T):List (List Bd)×Bool:=if nQ s p t=true/\(iq s p t).done=false then((iq s p t).ways,true)else([],false)
theorem JC:me.good:=⟨by decide,by decide,by decide,fun w hw=>by cases hw⟩
theorem Bo(s:List SymL)(p t:T):nQ s p t=true↔dA s p=true/\dA s t=true/\fg t=false:=by
 unfold nQ;simp
theorem Yh(s:List SymL)(hs:s.length<=1099511627776)(hn:∀i,i<s.length->(aR s i).name.size<=1099511627776)(p t:T)(u:p.inner<=1099511627776)(m:t.inner<=1099511627776):
 al XV 307 [.d (sg s),.d (p.enc .sub),.d (t.enc .sub)] []=some (.d (.tup [hJ (fw s p t).1,.bool (fw s p t).2]),[]):=by
 have h1:=wD s hs hn p u;have b:=wD s hs hn t m;have e:=Zc t m;rw[aJ 307 lU rfl];cases c:nQ s p t with
 |false=>
  have hm:fw s p t=([],false):=by unfold fw;rw[c];simp
  rw[hm];unfold nQ at c;obtain⟨o,n,q⟩:=p;obtain⟨g,j,k⟩:=t;cases c1:dA s (.node o n q)with
  |false=>simp[lU,h1,c1]
  |true=>
   cases c2:dA s (.node g j k)with
   |false=>simp[lU,h1,b,c1,c2]
   |true=>
    cases c3:fg (.node g j k)with
    |true=>simp[lU,h1,b,e,c1,c2,c3]
    |false=>rw[c1,c2,c3]at c;cases c
 |true=>
  obtain⟨c1,c2,c3⟩:=(Bo s p t).1 c;have hi:=tu c1 c2 c3;rw[c1]at h1;rw[c2]at b;rw[c3]at e;have a:al XV 318 [.ptr 2 0,.d (bp .sub [bZ p t]),.d (binds .sub [])] [some [aa p.f,aa p.v,.d (aj .sub p.kids)],some [aa t.f,aa t.v,.d (aj .sub t.kids)],some (mB s me)]=some (.d (.tup []),[some [aa p.f,aa p.v,.d (aj .sub p.kids)],some [aa t.f,aa t.v,.d (aj .sub t.kids)],some (mB s (iq s p t))]):=
   LC s hs (3*p.inner+3) [bZ p t] [] me [some [aa p.f,aa p.v,.d (aj .sub p.kids)],some [aa t.f,aa t.v,.d (aj .sub t.kids)]] [] hi (by rw[Hx];omega) JC
  have hd:al XV 319 [.ptr 2 0] [some [aa p.f,aa p.v,.d (aj .sub p.kids)],some [aa t.f,aa t.v,.d (aj .sub t.kids)],some (mB s (iq s p t))]=some (ar (iq s p t).done,[some [aa p.f,aa p.v,.d (aj .sub p.kids)],some [aa t.f,aa t.v,.d (aj .sub t.kids)],some (mB s (iq s p t))]):=
   mh s (iq s p t) [some [aa p.f,aa p.v,.d (aj .sub p.kids)],some [aa t.f,aa t.v,.d (aj .sub t.kids)]] []
  have hm:fw s p t=if(iq s p t).done=true then([],false)else((iq s p t).ways,true):=by
   unfold fw;rw[c];cases(iq s p t).done<;>simp
  rw[hm];have r:(bZ p t).enc .sub= .agg [.bool false,.int .i64 0,.sl .sub [p.enc .sub],.sl .sub [t.enc .sub]]:=rfl;simp only[bp,bo,cv,r,binds]at a;have l:mB s me=[.d (sg s),.d (.sl U []),aa 60,aa 0,aa 20000,ar false]:=rfl;rw[l]at a;generalize iq s p t=S at*
  have h:mB s S=[.d (sg s),.d (hJ S.ways),aa 60,aa S.steps,aa 20000,ar S.over]:=rfl;obtain⟨o,n,q⟩:=p;obtain⟨g,j,k⟩:=t;simp only[T.qaP,T.qb7,T.qaC]at a hd;cases hdd:S.done with
  |true=>
   rw[hdd]at hd;simp[lU,h1,b,e,a,hd,splice]
  |false=>
   rw[hdd]at hd;rw[h]at a hd;simp[lU,h1,b,e,a,hd,splice]
theorem MS.good.fuel{S:MS}(h:S.good)(hd:S.done=false):S.steps<=20000/\S.ways.length<=60:=by
 have h1:=h.o;unfold MS.done at hd;simp only[iR,j9]at hd;rw[hd.1]at h1;have:¬20000<S.steps:=by simpa using h1.symm
 exact⟨by omega,by omega⟩
theorem MA{s:List SymL}{p t:T}(h:nQ s p t=true):(iq s p t).good:=by
 obtain⟨c1,c2,c3⟩:=(Bo s p t).1 h;exact MS.good.run _ JC fun w hw=>Kd _ (tu c1 c2 c3) hw
theorem qx0{s:List SymL}{p t:T}(h:(fw s p t).2=false):(fw s p t).1=[]:=by
 unfold fw at*
 split at h
 ·cases h
 ·rename_i hc;rw[ak hc]
def vZ(x:Int):Int:=IntKind.i64.wrap ((BitVec.ofInt 64 x&&&BitVec.ofInt 64 255).toNat:Int)
def Q4(x y:Int):Int:=IntKind.i64.wrap ((BitVec.ofInt 64 x^^^BitVec.ofInt 64 y).toNat:Int)
theorem Ip(x:Int):cR .and .i64 x 255=some (.int .i64 (vZ x)):=rfl
theorem Lt(x y:Int):cR .xor .i64 x y=some (.int .i64 (Q4 x y)):=rfl
theorem Lh(x:Int):cR .shr .i64 x 33=some (.int .i64 (x.fdiv 8589934592)):=rfl
theorem G1(x:Int):cR .shr .i64 x 45=some (.int .i64 (x.fdiv 35184372088832)):=rfl
theorem Jl(x:Int):0<=vZ x/\vZ x<=255:=by
 have h:(BitVec.ofInt 64 x&&&BitVec.ofInt 64 255).toNat<=255:=by
  rw[BitVec.toNat_and];exact cN Nat.and_le_right (by decide)
 unfold vZ;generalize (BitVec.ofInt 64 x&&&BitVec.ofInt 64 255).toNat=n at*
 rw[wrap_i64 (by omega) (by omega)];omega
def bR(bs:List Int)(pos st:Int):List AV:=[.d (.sl .sub (bs.map (.int .u8))),aa pos,aa st]
theorem Lg{B:ah}{i:Nat}{c:List AV}(h:i<B.length):aI (B.set i (some c)) i=some c:=by simp[aI,h]
theorem B_{B:ah}{i:Nat}{c:List AV}(h:aI B i=some c):i<B.length:=by
 rcases dZ i B.length with h1|h1
 ·exact h1
 ·simp[aI,f8 h1]at h
theorem iL{B:ah}{i:Nat}{c:List AV}(h:aI B i=some c):B[i]?=some (some c):=by
 unfold aI at h;split at h
 ·rename_i c' hc;rw[hc];simpa using h
 ·simp at h
theorem WM(bs:List Int)(l:bs.length<=1099511627776)(B:ah)(i:Nat)(pos st:Int)(e:aI B i=some (bR bs pos st))(k:0<=pos/\pos<=bs.length):
 ∃b pos' j:Int,(0<=b/\b<=255)/\(0<=pos'/\pos'<=bs.length)/\al XV 165 [.ptr i 0] B=some (aa b,B.set i (some (bR bs pos' j))):=by
 have hi:=B_ e;have g:¬B.length<=i:=by omega
 have a:∀c:Option (List AV),List.take B.length (B.set i c)=B.set i c:=fun c=>eU (by simp)
 have d:∀c:Option (List AV),(B.set i c)[i]?=some c:=fun c=>by simp[hi]
 rw[aJ 165 pO rfl];have e:=iL e;unfold bR at e⊢
 by_cases c:pos<bs.length
 ·have hw:IntKind.i64.wrap (pos+1)=pos+1:=wrap_i64 (by omega) (by omega)
  have h:pos.toNat<bs.length:=by omega
  refine⟨_,_,_,?_,?_,by simp[pO,FD,FY,UC,aG,e,d,splice,Ip,Lt,Lh,G1,LB,g,c,k,h,hw,cut,aX,bm,a_,fZ,a];exact⟨rfl,rfl⟩⟩
  ·exact Jl _
  ·exact⟨by omega,by omega⟩
 ·refine⟨_,_,_,?_,?_,by simp[pO,FD,FY,aG,e,d,splice,Ip,Lt,Lh,G1,LB,g,c,aX,bm,a_,fZ,a];exact⟨rfl,rfl⟩⟩
  ·exact Jl _
  ·exact k
def Turned(bs:List Int)(i:Nat)(B B':ah):Prop:=∃pos st:Int,(0<=pos/\pos<=bs.length)/\B'=B.set i (some (bR bs pos st))
def qcG(bs:List Int)(i:Nat)(B:ah):Prop:=∃pos st:Int,(0<=pos/\pos<=bs.length)/\aI B i=some (bR bs pos st)
theorem Turned.at{bs:List Int}{i:Nat}{B B':ah}(hi:i<B.length)(h:Turned bs i B B'):qcG bs i B':=by
 obtain⟨pos,st,a,rfl⟩:=h;exact⟨pos,st,a,Lg hi⟩
theorem Turned.len{bs:List Int}{i:Nat}{B B':ah}(h:Turned bs i B B'):B'.length=B.length:=by
 obtain⟨pos,st,a,rfl⟩:=h;simp
theorem Turned.trans{bs:List Int}{i:Nat}{B B' a:ah}(h:Turned bs i B B')(d:Turned bs i B' a):Turned bs i B a:=by
 obtain⟨pos,st,e,rfl⟩:=h;obtain⟨pos',c,b,rfl⟩:=d;exact⟨pos',c,b,by simp⟩
theorem qcG.lt{bs:List Int}{i:Nat}{B:ah}(h:qcG bs i B):i<B.length:=by
 obtain⟨_,_,_,h⟩:=h;exact B_ h
theorem VZ(bs:List Int)(d:bs.length<=1099511627776)(B:ah)(i:Nat)(h:qcG bs i B):∃(b:Int) (B':ah),(0<=b/\b<=255)/\Turned bs i B B'/\al XV 165 [.ptr i 0] B=some (aa b,B'):=by
 obtain⟨pos,st,g,c⟩:=h;obtain⟨b,pos',a,h1,e,j⟩:=WM bs d B i pos st c g;exact⟨b,_,h1,⟨pos',a,e,rfl⟩,j⟩
theorem Uq(x n:Int)(h:n≠0):cR .rem .i64 x n=some (.int .i64 (x.tmod n)):=by simp[cR,h]
theorem lP(bs:List Int)(e:bs.length<=1099511627776)(B:ah)(i:Nat)(h:qcG bs i B)(n:Int)(hn:0<n)(c:n<=256):∃(r:Int) (B':ah),(0<=r/\r<n)/\Turned bs i B B'/\al XV 159 [.ptr i 0,aa n] B=some (aa r,B'):=by
 obtain⟨b,B',hb,d,hc⟩:=VZ bs e B i h;have hlen:=d.len;have hm:b.tmod n=b%n:=Int.tmod_eq_emod_of_nonneg hb.1;have g:=Uq b n (by omega);have a:List.take B.length B'=B':=eU (by omega);refine⟨b%n,B',⟨Int.emod_nonneg _ (by omega),Int.emod_lt_of_pos _ hn⟩,d,?_⟩;rw[aJ 159 yi rfl];have c1:¬n<=0:=by omega
 simp[yi,c1,c,hc,g,hm,a]
theorem wz(bs:List Int)(e:bs.length<=1099511627776)(B:ah)(i:Nat)(h:qcG bs i B)(l:List Int)(k:0<l.length)(h1:l.length<=256):∃(j:Nat) (hj:j<l.length) (B':ah),Turned bs i B B'/\al XV 160 [.ptr i 0,.d (.sl .sub (l.map (.int .i64)))] B=some (.d (.int .i64 l[j]),B'):=by
 obtain⟨r,B',g,c,hc⟩:=lP bs e B i h l.length (by omega) (by omega);have hlen:=c.len;have a:List.take B.length B'=B':=eU (by omega);refine⟨r.toNat,by omega,B',c,?_⟩;rw[aJ 160 tM rfl];have b:r.toNat<l.length:=by omega
 simp[tM,hc,g,b,a,cut]
def wX(x:Int):Int:=IntKind.i64.wrap ((BitVec.ofInt 64 x&&&BitVec.ofInt 64 1073741823).toNat:Int)
theorem QE(x:Int):cR .and .i64 x 1073741823=some (.int .i64 (wX x)):=rfl
def Iw(bs:List Int)(s:Int)(i:Nat):Int⊕Unit:= .inl (wX (IntKind.i64.wrap (IntKind.i64.wrap (IntKind.i64.wrap (s*131)+IntKind.i64.wrap ((bs[i]?).getD 0))+7)))
theorem J_{β:Type}(f:β->Nat->β):∀(k:Nat) (a:β) (i:Nat),∃b,runN (fun a i=>(.inl (f a i):β⊕Unit)) k a i= .inl b
 |0,a,i=>⟨a,rfl⟩
 |k+1,a,i=>by simp only[runN];exact J_ f k _ _
theorem OY(bs:List Int)(g:bs.length<=1099511627776)(B:ah):∃st:Int,al XV 156 [.d (.sl .sub (bs.map (.int .u8)))] B=some (.ptr B.length 0,B++[some (bR bs 0 st)]):=by
 have h:=cg (X:=XV) (T:=XV.lin 156) (L:=B.length) (live:=[0,3,4]) (b:=qW) (n:=min bs.length 4000) (γ:=Unit) (st:=fun(s:Int) i=>⟨[(0,.d (.sl .sub (bs.map (.int .u8)))),(3,aa s),(4,aa i)],B⟩) (step:=Iw bs)
  (F:=fun s=>(.exit 0,⟨[(0,.d (.sl .sub (bs.map (.int .u8)))),(3,aa s),(4,aa (min bs.length 4000:Nat)),(15,ar false)],B⟩)) (R:=fun _=>(.ret,⟨[],B⟩))
  (fun s=>⟨by simp,by
   by_cases c:bs.length<=4000
   ·rw[tK c];simp[qW]
   ·have c1:(4000:Int)<bs.length:=by omega
    rw[Nat.min_eq_right (by omega)];simp[qW,c1]⟩)
  (fun s i hi=>by
   have hw:=bH (n:=i) (by omega);have h1:i<bs.length:=by omega
   have e:(i:Int)<4000:=by omega
   refine⟨_,by simp[qW,h1,e,hw,cut,QE];rfl,by simp[aE,aD,h1]⟩)
  (min bs.length 4000) (IntKind.i64.wrap (27064+bs.length)) 0 ⟨[(0,.d (.sl .sub (bs.map (.int .u8)))),(3,aa (IntKind.i64.wrap (27064+bs.length))),(4,aa 0)],B⟩ (by omega) (by simp[aE,aD])
 obtain⟨st,a⟩:=J_ (fun(s:Int) (i:Nat)=>wX (IntKind.i64.wrap (IntKind.i64.wrap (IntKind.i64.wrap (s*131)+IntKind.i64.wrap ((bs[i]?).getD 0))+7))) (min bs.length 4000) (IntKind.i64.wrap (27064+bs.length)) 0;rw[show Iw bs=fun s i=>(.inl (wX (IntKind.i64.wrap (IntKind.i64.wrap (IntKind.i64.wrap (s*131)+IntKind.i64.wrap ((bs[i]?).getD 0))+7))):Int⊕Unit)from rfl,a]at h;refine⟨st,?_⟩;rw[aJ 156 xa rfl];simp[xa];simp only[Ui]at h;rw[h];simp[KV,bR,aX,bg,bm,a_,splice]
@[simp high] theorem qOD(l:List Int):(l.map (DV.int .u8)).map DV.clr=l.map (DV.int .u8):=by simp[eN,kD]
theorem S_(bs:List Int):al XV 133 [.d (.sl .sub (bs.map (.int .u8)))] []=some (ar (decide (1048576<bs.length)),[]):=by
 rw[aJ 133 wk rfl];have h:decide ((1048576:Int)<bs.length)=decide (1048576<bs.length):=by congr 1;apply propext;omega
 simp[wk,h]
def b8:List SymL:=[⟨⟨#[116,116]⟩,0,false⟩,⟨⟨#[97]⟩,0,false⟩,⟨⟨#[98]⟩,0,false⟩,⟨⟨#[103]⟩,1,false⟩,⟨⟨#[104]⟩,2,false⟩,⟨⟨#[102]⟩,2,true⟩,⟨⟨#[107]⟩,2,true⟩]
theorem CS:al XV 155 [] []=some (.d (.sl U (b8.map SymL.enc)),[]):=by
 rw[aJ 155 wL rfl];simp[wL,b8,cF,List.replicate,splice]
structure SigD(l:List SymL):Prop where
 len:l.length<=9
 sym:∀s,s∈l->s.name.size<=9/\-1<=s.arity/\s.arity<=4
theorem SigD.ok{l:List SymL}(h:SigD l):∀s,s∈l->s.ok:=fun s hs=>by
 obtain⟨h1,a,b⟩:=h.sym s hs;exact⟨by unfold maxLen;omega,by omega,by omega⟩
theorem SigD.nm{l:List SymL}(h:SigD l)(n:Nat)(hn:9<=n):∀i,i<l.length->(aR l i).name.size<=n:=fun i hi=>by
 have:=(h.sym _ (LK hi)).1;omega
theorem UB(x y:Int)(r:DV):(DV.int .u8 x).like r=(DV.int .u8 y).like r:=by cases r<;>rfl
theorem RE(bs:List Int):(bs.map (DV.int .u8)).flatMap DV.cells=bs.map (DV.int .u8):=by
 induction bs with
 |nil=>rfl
 |cons b r a=>simp only[bo,ei,a,DV.cells,Ag]
theorem E1(rs:List DV):∀bs:List Int,DV.xrests rs (bs.map (.int .u8))=true
 | []=>by simp
 |b::r=>by simp[DV.xrest,E1 rs r]
theorem P0(rs:List DV)(h:rs.all (fun r=> !(DV.int .u8 0).like r)=true)(bs:List Int):DV.xrest rs (.sl .sub (bs.map (.int .u8)))=true:=by
 simp only[DV.xrest,E1,mp,RE];cases bs with
 |nil=>rfl
 |cons b r=>
  have:(rs.all fun r=> !(DV.int .u8 b).like r)=true:=by
   rw[<-h];congr 1;funext r;rw[UB b 0]
  simp[this]
theorem wg(rs:List DV)(h:rs.all (fun r=> !(DV.int .u8 0).like r)=true)(bs:List Int)(pos st:Int):gA rs (bR bs pos st)=true:=by
 simp only[gA,bR,fM,List.all_nil,AV.xrest];rw[P0 rs h bs];simp only[DV.xrest,uS]
@[simp] theorem qSU(s:SymL):bJ s.enc=true:=rfl
@[simp] theorem qOY(rs:List DV)(s:SymL):DV.xrest rs s.enc=true:=by
 show DV.xrest rs (.agg [.str s.name,.int .i64 s.arity,.bool s.ac])=true;simp only[DV.xrest,DV.xrests,uS]
theorem im(bs:List Int)(pos st:Int):AV.clrs (bR bs pos st)=bR bs pos st:=by simp[bR]
theorem Si:SigD b8:=by
 refine⟨by decide,fun s hs=> ?_⟩;simp only[b8,br,kU,lT]at hs;rcases hs with rfl|rfl|rfl|rfl|rfl|rfl|rfl<;>exact⟨by decide,by decide,by decide⟩
mutual
def T.rng:T->Prop
 | .node _ v ks=>(-9223372036854775808<=v/\v<=9223372036854775807)/\T.rngs ks
def T.rngs:List T->Prop
 | []=>True
 |t::r=>t.rng/\T.rngs r
end
theorem T.qgw:∀l:List T,T.rngs l↔∀t,t∈l->t.rng
 | []=>by simp[T.rngs]
 |t::r=>by simp[T.rngs,T.qgw r]
theorem jt{bs:List Int}{q:Nat}{B R B':ah}(b:q<B.length)(h:Turned bs q (B++R) B'):∃a,Turned bs q B a/\a.length=B.length/\B'=a++R:=by
 obtain⟨pos,st,c,rfl⟩:=h;exact⟨B.set q (some (bR bs pos st)),⟨pos,st,c,rfl⟩,by simp,by rw[List.set_append_left _ _ b]⟩
theorem qcG.app{bs:List Int}{q:Nat}{B:ah}(h:qcG bs q B)(R:ah):qcG bs q (B++R):=by
 have a:=h.lt;obtain⟨pos,st,b,hb⟩:=h;exact⟨pos,st,b,by have:=iL hb;simp[aI,bY a,this]⟩
theorem qS(bs:List Int)(e:bs.length<=1099511627776)(B:ah)(i:Nat)(h:qcG bs i B)(n:Int)(hn:0<n)(c:n<=256):∃(b:Bool) (B':ah),Turned bs i B B'/\al XV 162 [.ptr i 0,aa n] B=some (ar b,B'):=by
 obtain⟨r,B',g,d,hc⟩:=lP bs e B i h n hn c;have hlen:=d.len;have a:List.take B.length B'=B':=eU (by omega);refine⟨r==0,B',d,?_⟩;rw[aJ 162 yH rfl];simp[yH,hc,a]
theorem Em(f:Int)(ks:List T):al XV 164 [aa f,.d (aj .sub ks)] []=some (.d ((T.node f 0 ks).enc .sub),[]):=by
 rw[aJ 164 tH rfl];simp[tH,splice,aX,bg,bm,a_,aG]
theorem Nl{n:Nat}(h:n<9223372036854775808):IntKind.i64.wrap (((n+1:Nat):Int)-1)=n:=by
 rw[show((n+1:Nat):Int)-1=n by omega];exact wrap_i64 (by omega) (by omega)
def qi:VCode:=(.seq (.seq (.region false 0 [0,2,6,20] qF) (.cond (.t 20) (.seq (.region false 0 [6] BO) .ret) .skip)) (.seq (.region false 0 [6] uG) .ret))
def AR:VCode:=(.seq (.region false 0 [0,1,2,6,7] w_) (.seq (.region false 0 [0,1,2,6,7,8] tx) (.seq (.seq (.region false 0 [0,1,2,6,7,8,39] uX) (.cond (.t 39) (.region false 0 [6,7,8] yc) .skip)) (.seq (.region false 0 [6] xg) .ret))))
def pa:VCode:= .seq (.seq (.region false 0 [0,1,2,6,14] ot) (.cond (.t 14) qi .skip)) AR
theorem UQ:yn=⟨3,[.cell 6 true 3],.seq (.region false 1 [0,1,2,6] By) pa⟩:=rfl
theorem Hr(bs:List Int)(y:bs.length<=1099511627776)(deep vars:Int)(K:vars<=256)(B:ah)(q:Nat)(h:qcG bs q B)(L:Nat)(J:B.length=L)(C:Option (List AV))(O:C=some [aa 0,aa 0,.d (.sl U [])]):
 ∃(t:T) (g:Tag) (B':ah),(t.inner=0/\t.rng)/\Turned bs q B B'/\B'.length=L/\
  aH XV (XV.lin 166) qi ⟨[(0,.ptr q 0),(1,aa deep),(2,aa vars),(6,.ptr L 0),(14,ar true)],B++[C]⟩=
   some (.ret,⟨[(6,.ptr L 0)],B'++[some [aa t.f,aa t.v,.d (.sl g (t.kids.map (T.enc g)))]]⟩):=by
 subst O;have s:=h.lt;have i:∀p:ah,Turned bs q B p->p.length=L->∃(t:T) (g:Tag) (B':ah),(t.inner=0/\t.rng)/\Turned bs q B B'/\B'.length=L/\
  ∀n:AV,aH XV (XV.lin 166) (.seq (.region false 0 [6] uG) .ret) ⟨[(0,.ptr q 0),(2,aa vars),(6,.ptr L 0),(20,n)],p++[some [aa 0,aa 0,.d (.sl U [])]]⟩=
   some (.ret,⟨[(6,.ptr L 0)],B'++[some [aa t.f,aa t.v,.d (.sl g (t.kids.map (T.enc g)))]]⟩):=by
  intro p o I;obtain⟨r,P,N,l,hc⟩:=lP bs y _ q ((o.at s).app [some [aa 0,aa 0,.d (.sl U [])]]) 2 (by omega) (by omega);obtain⟨z,c,e,rfl⟩:=jt (by omega) l;rw[I]at e;have hw:IntKind.i64.wrap (1+r)=1+r:=wrap_i64 (by omega) (by omega);refine⟨.node (1+r) 0 [],U,z,by simp[T.inner,T.inners,T.rng,T.rngs],o.trans c,e,fun n=> ?_⟩;simp[uG,hc,hw,e,splice,aX,bg,bm,a_]
 by_cases k:0<vars
 ·obtain⟨b,P,l,hc⟩:=qS bs y _ q (h.app [some [aa 0,aa 0,.d (.sl U [])]]) 2 (by omega) (by omega)
  obtain⟨z,c,e,rfl⟩:=jt s l;cases b with
  |true=>
   obtain⟨r,R,N,H,F⟩:=lP bs y _ q ((c.at s).app [some [aa 0,aa 0,.d (.sl U [])]]) vars k K;obtain⟨Q,w,m,rfl⟩:=jt (by omega) H;have D:=Jf r;rw[e,J]at m;refine⟨.node (-1) r [],U,Q,by simp[T.inner,T.inners,T.rng,T.rngs];omega,c.trans w,m,?_⟩;simp[qi,qF,BO,k,hc,F,D,m,splice,aX,bg,bm,a_]
  |false=>
   obtain⟨t,g,B',h1,u,x,G⟩:=i z c (by omega);refine⟨t,g,B',h1,u,x,?_⟩;have a:=G (ar false);simp only[qL]at a;simp[qi,qF,k,hc];simpa using a
 ·obtain⟨t,g,B',h1,u,x,G⟩:=i B (by
   obtain⟨pos,st,M,hb⟩:=h;refine⟨pos,st,M,?_⟩;apply iO;intro j
   by_cases hj:q=j
   ·subst hj;rw[gR,iL hb];simp
   ·rw[dh hj]) J
  refine⟨t,g,B',h1,u,x,?_⟩;have a:=G (ar false);simp only[qL]at a;simp[qi,qF,k];simpa using a
theorem yO(L:Nat)(B B':ah)(q:Nat)(deep vars:Int)(t:T)(g:Tag)(c:q<B.length)(b:B.length=L)(a:B'.length=L)
 (h:aH XV (XV.lin 166) pa ⟨[(0,.ptr q 0),(1,aa deep),(2,aa vars),(6,.ptr L 0)],B++[some [aa 0,aa 0,.d (.sl U [])]]⟩=
  some (.ret,⟨[(6,.ptr L 0)],B'++[some [aa t.f,aa t.v,.d (.sl g (t.kids.map (T.enc g)))]]⟩)):
 al XV 166 [.ptr q 0,aa deep,aa vars] B=some (.d (t.enc g),B'):=by
 rw[aJ 166 yn rfl,UQ];simp only[qL]at h;obtain⟨f,v,ks⟩:=t;simp only[T.qaP,T.qb7,T.qaC]at h;simp[By,b];rw[h];simp[a,aG]
theorem Da(bs:List Int)(u:bs.length<=1099511627776):∀(d:Nat),d<=8->∀(vars:Int),vars<=256->∀(B:ah) (q:Nat),qcG bs q B->
 ∃(t:T) (g:Tag) (B':ah),(t.inner+2<=2^(d+1)/\t.rng)/\Turned bs q B B'/\al XV 166 [.ptr q 0,aa d,aa vars] B=some (.d (t.enc g),B'):=by
 intro d
 induction d with
 |zero=>
  intro _ vars o B q hs;obtain⟨t,g,B',h1,z,F,r⟩:=Hr bs u 0 vars o B q hs B.length rfl _ rfl;refine⟨t,g,B',⟨by omega,h1.2⟩,z,yO B.length B B' q 0 vars t g hs.lt rfl F ?_⟩;simp only[qL]at r⊢
  simp[pa,ot];rw[r];simp
 |succ d O=>
  intro hd vars o B q hs;have m:=hs.lt;obtain⟨b,B2,y,hc⟩:=qS bs u _ q (hs.app [some [aa 0,aa 0,.d (.sl U [])]]) 3 (by omega) (by omega);obtain⟨Y,a,N,rfl⟩:=jt m y;have h:(((d+1:Nat):Int)==0)=false:=by simpa using (show¬(((d+1:Nat):Int)=0)by omega)
  cases b with
  |true=>
   obtain⟨t,g,B',h1,z,F,r⟩:=Hr bs u ((d+1:Nat):Int) vars o Y q (a.at m) B.length N _ rfl;refine⟨t,g,B',⟨by have:2^1<=2^(d+1+1):=tw (by omega) (by omega);omega,h1.2⟩,a.trans z,yO B.length B B' q _ vars t g m rfl F ?_⟩;simp only[qL]at r⊢
   generalize ((d+1:Nat):Int)=D at*
   simp[pa,ot,h,hc];rw[r];simp
  |false=>
   obtain⟨j,hj,B4,K,c⟩:=wz bs u _ q ((a.at m).app [some [aa 0,aa 0,.d (.sl U [])]]) [3,4,5,5,6] (by simp) (by simp);obtain⟨R,k,V,rfl⟩:=jt (by omega) K;generalize ([3,4,5,5,6]:List Int)[j]=f at c;obtain⟨e,g1,B6,s,J,p⟩:=O (by omega) vars o _ q ((k.at (by omega)).app [some [aa 0,aa 0,.d (.sl U [])]]);obtain⟨w,l,Z,rfl⟩:=jt (by omega) J;have hw:=Nl (n:=d) (by omega)
   by_cases P:3<f
   ·obtain⟨x,g2,B8,M,G,I⟩:=O (by omega) vars o _ q ((l.at (by omega)).app [some [aa 0,aa 0,.d (.sl U [])]])
    obtain⟨H,C,S,rfl⟩:=jt (by omega) G;have i:al XV 164 [aa f,.d (.sl .sub [e.enc .sub,x.enc .sub])] []=some (.d (.agg [.int .i64 f,.int .i64 0,.sl .sub [e.enc .sub,x.enc .sub]]),[]):=by
     have:=Em f [e,x];rw[T.qbJ]at this;exact this
    refine⟨.node f 0 [e,x],.sub,H,⟨by simp only[T.inner,T.inners,cB,h_];rw[vM];omega,by simp[T.rng,T.rngs,s.2,M.2]⟩,a.trans (k.trans (l.trans C)),yO B.length B H q _ vars _ .sub m rfl (by omega) ?_⟩;have X:H.length=B.length:=by omega
    have Q:w.length=B.length:=by omega
    have W:R.length=B.length:=by omega
    simp only[bo,cv]at c;generalize ((d+1:Nat):Int)=D at*
    generalize (d:Int)=D0 at*
    simp[pa,AR,ot,w_,tx,uX,yc,xg,h,hc,c,hw,p,P,I,i,X,cF,List.replicate,splice,aX,bg,bm,a_,cG]
   ·have i:al XV 164 [aa f,.d (.sl .sub [e.enc .sub])] []=some (.d (.agg [.int .i64 f,.int .i64 0,.sl .sub [e.enc .sub]]),[]):=by
     have:=Em f [e];rw[T.qbJ]at this;exact this
    refine⟨.node f 0 [e],.sub,w,⟨by simp only[T.inner,T.inners,cB,h_];rw[vM];omega,by simp[T.rng,T.rngs,s.2]⟩,a.trans (k.trans l),yO B.length B w q _ vars _ .sub m rfl (by omega) ?_⟩;have Q:w.length=B.length:=by omega
    have W:R.length=B.length:=by omega
    simp only[bo,cv]at c;generalize ((d+1:Nat):Int)=D at*
    generalize (d:Int)=D0 at*
    simp[pa,AR,ot,w_,tx,uX,yc,xg,h,hc,c,hw,p,P,i,Q,cF,List.replicate,splice,aX,bg,bm,a_]
theorem XD(s:List SymL)(f:Int)(k:T)(h:k.rng):T.rngs (dk s f k):=by
 unfold dk;split
 ·obtain⟨a,b,c⟩:=k;exact h.2
 ·exact⟨h,trivial⟩
theorem BQ{a b:List T}(h1:T.rngs a)(d:T.rngs b):T.rngs (a++b):=by
 rw[T.qgw]at*
 intro t c;rcases bl.1 c with h|h
 ·exact h1 t h
 ·exact d t h
theorem HV(s:List SymL)(f:Int):∀l:List T,T.rngs l->T.rngs (flatK s f l)
 | [],_=>by simp[flatK,T.rngs]
 |k::l,h=>by rw[og];exact BQ (XD s f k h.1) (HV s f l h.2)
mutual
theorem C5(s:List SymL):∀t:T,t.rng->(t.norm s).rng
 | .node f v ks,h=>by
  have a:=HV s f _ (Hj s ks h.2);simp only[T.norm];split
  ·refine⟨h.1,?_⟩
   rw[T.qgw]at a⊢
   exact fun t b=>a t ((jX _).mem_iff.1 b)
  ·exact⟨h.1,a⟩
theorem Hj(s:List SymL):∀l:List T,T.rngs l->T.rngs (T.norms s l)
 | [],_=>trivial
 |t::r,h=>⟨C5 s t h.1,Hj s r h.2⟩
end
theorem IY(bs:List Int)(k:bs.length<=1099511627776)(vars:Int)(o:vars<=256)(B:ah)(q:Nat)(h:qcG bs q B):
 ∃(t:T) (B':ah),(t.inner<=6/\t.rng)/\(∃u,t=T.norm b8 u)/\Turned bs q B B'/\al XV 163 [.ptr q 0,aa vars] B=some (.d (t.enc U),B'):=by
 have m:=h.lt;obtain⟨t,g,p,hi,n,hc⟩:=Da bs k 2 (by omega) vars o _ q (h.app [some [aa 0,aa 0,.d (.sl U [])]]);obtain⟨j,a,c,rfl⟩:=jt m n;have hn:=AO b8 (by decide) t (by omega);have l:=lq b8 t;refine⟨t.norm b8,j,⟨by omega,C5 b8 t hi.2⟩,⟨t,rfl⟩,a,?_⟩;rw[aJ 163 wd rfl];have b:=CS;rw[pc]at hn;have e:(t.norm b8).enc U= .agg [.int .i64 t.f,.int .i64 t.v,.sl U (jo b8 t)]:=by rw[<-pc];rfl
 rw[e];generalize jo b8 t=X at*
 have i:al XV 166 [AV.ptr q 0,AV.d (DV.int IntKind.i64 2),AV.d (DV.int IntKind.i64 vars)] (B++[some [AV.d (DV.int IntKind.i64 0),AV.d (DV.int IntKind.i64 0),AV.d (DV.sl U [])]])=some (AV.d (t.enc g),j++[some [AV.d (DV.int IntKind.i64 0),AV.d (DV.int IntKind.i64 0),AV.d (DV.sl U [])]]):=hc;simp[wd,b,i,hn,c,aG,splice,aX,bg,bm,a_]
def fc(l:List T):List DV:=l.flatMap fun t=>(t.enc U).cells
def dW(l:List T):List DV:=l.flatMap fun t=>(t.enc .sub).cells
theorem ZB(l:List T):(l.map (T.enc U)).flatMap DV.cells=fc l:=by unfold fc;rw[sn]
theorem m_(t:T)(l:List T):fc (t::l)= .int .i64 t.f:: .int .i64 t.v:: .sl U (t.kids.map (T.enc U))::fc l:=by
 unfold fc;rw[ei,T.qbJ];rfl
theorem qN(t:T)(l:List T):dW (t::l)= .int .i64 t.f:: .int .i64 t.v:: .sl .sub (t.kids.map (T.enc .sub))::dW l:=by
 unfold dW;rw[ei,T.qbJ];rfl
theorem RB(a b:List T):fc (a++b)=fc a++fc b:=by unfold fc;simp
theorem H8(a b:List T):dW (a++b)=dW a++dW b:=by unfold dW;simp
theorem sL:∀l:List T,(fc l).map DV.clr=dW l
 | []=>rfl
 |t::l=>by rw[m_,qN,bo,bo,bo,sL l];simp
theorem jx:∀l:List T,(fc l).length=l.length*3
 | []=>rfl
 |t::l=>by rw[m_];simp[jx l];omega
theorem Ii:∀l:List T,(dW l).length=l.length*3
 | []=>rfl
 |t::l=>by rw[qN];simp[Ii l];omega
theorem qM(f:AV->Option DV):∀(a b:List AV) {x y:List DV},cp f a=some x->cp f b=some y->cp f (a++b)=some (x++y)
 | [],b,x,y,h1,c=>by simp[cp]at h1;subst h1;simpa using c
 |v::a,b,x,y,h1,c=>by
  simp only[cp]at h1;obtain⟨d,g,h1⟩:=aw.1 h1;obtain⟨x',e,rfl⟩:=au.1 h1;simp only[cP,cp,g,qM f a b e c,aQ,bz]
theorem oa(M:ah)(n:Nat):∀l:List DV,cp (AV.frzC M n) (l.map .d)=some l
 | []=>rfl
 |d::l=>by
  simp only[bo,cp,ER,oa M n l,aQ,bz]
theorem Ji{d:DV}{k:IntKind}{n:Int}(h:d.clr= .int k n):d= .int k n:=by
 cases d<;>simp[DV.clr]at h⊢<;>exact h
theorem OA{d:DV}{l:List DV}(h:d.clr= .sl .sub l):∃g xs,d= .sl g xs/\DV.clrs xs=l:=by
 cases d<;>simp[DV.clr]at h
 exact⟨_,_,rfl,h⟩
theorem Dm{t:T}{l:List T}{ds:List DV}(h:ds.map DV.clr=dW (t::l)):∃g xs r,ds= .int .i64 t.f:: .int .i64 t.v:: .sl g xs::r/\DV.clrs xs=t.kids.map (T.enc .sub)/\r.map DV.clr=dW l:=by
 rw[qN]at h
 match ds,h with
 | [],h=>simp at h
 | [_],h=>simp at h
 | [_,_],h=>simp at h
 |d::d1::d2::r,h=>
  simp only[bo,List.cons.injEq]at h;obtain⟨a,h1,b,c⟩:=h;obtain⟨g,xs,rfl,hx⟩:=OA b;exact⟨g,xs,r,by rw[Ji a,Ji h1],hx,c⟩
theorem Fc:∀(l:List T) (ds:List DV),ds.map DV.clr=dW l->ds.all DV.isCell=true
 | [],ds,h=>by
  have:ds=[]:=by simpa[dW]using h
  subst this;rfl
 |t::l,ds,h=>by
  obtain⟨g,xs,r,rfl,hx,a⟩:=Dm h;simp[aX,bg];simpa using Fc l r a
theorem KE:∀(l:List T) (ds:List DV),ds.map DV.clr=dW l->∃xs,chunks true 3 l.length ds=some xs/\xs.map DV.clr=l.map (T.enc .sub)
 | [],ds,h=>⟨[],rfl,rfl⟩
 |t::l,ds,h=>by
  obtain⟨g,xs,r,rfl,hx,b⟩:=Dm h;obtain⟨ys,h1,a⟩:=KE l r b;refine⟨.agg [.int .i64 t.f,.int .i64 t.v,.sl g xs]::ys,?_,?_⟩
  ·simp[chunks,cut,aX,bg,h1,DV.cells]
  ·rw[bo,bo,a,T.qbJ]
   simp only[DV.clr,DV.clrs,hx]
theorem PO(B:ah)(i:Nat)(h:2<=i):aI (cC 2 B) i=aI B i:=by
 unfold aI cC;rw[cj (by simp;exact h),Cv,gk,show 2+(i-2)=i by omega]
def Ctx(j:Nat)(B:ah)(A D:List T)(N:Nat):Prop:=
 ∀(B':ah) (cs:List AV) (u:T) (ds:List DV),B'.length=6->(∀i,j<i->B'[i]?=B[i]?)->B'[j]?=some (some cs)->cp (AV.frzC (cC 2 B') (j+1)) cs=some ds->ds.map DV.clr=dW (A++u::D)->
  ∃(c:List AV) (a:List DV) (b:T),B'[5]?=some (some c)/\cp (AV.frzC (cC 2 B') 6) c=some a/\a.map DV.clr=dW [b]/\b.inner<=N+u.inner/\(u.rng->b.rng)
theorem Ctx.base(B:ah):Ctx 5 B [] [] 0:=fun B' cs u ds h1 d b a c=>⟨cs,ds,u,b,a,c,by omega,id⟩
theorem uJ:∀a b:List T,T.inners (a++b)=T.inners a+T.inners b
 | [],b=>by simp[T.inners]
 |t::a,b=>by simp only[cP,T.inners,uJ a b];omega
theorem Ctx.step{j:Nat}{B s:ah}{A D A' a:List T}{N m:Nat}{f v:Int}(hj:2<=j)(h:Ctx (j+1) B A D N)(r:∀i,j+1<i->s[i]?=B[i]?)
 (n:s[j+1]?=some (some ((fc A).map .d++([aa f,aa v,.tsl true j 3 m]++(fc D).map .d)))) (hm:A'.length+1+a.length=m) (x: -9223372036854775808<=v/\v<=9223372036854775807) (H:T.rngs A') (F:T.rngs a):Ctx j s A' a (N+(m+T.inners A'+T.inners a)):=by
 intro B' cs u ds h1 t z I w;have hlen:ds.length=m*3:=by
  have:=li List.length w;rw[dK,Ii]at this;rw[this];simp only[dz,cB];rw[<-hm];congr 1;omega
 obtain⟨xs,k,o⟩:=KE _ _ w;have e:(A'++u::a).length=m:=by simp only[dz,cB];omega
 rw[e]at k;have g:AV.frzC (cC 2 B') (j+1+1) (.tsl true j 3 m)=some (.sl .sub xs):=by
  simp only[AV.frzC];rw[PO _ _ hj];simp only[aI,z,aQ,I,hlen,if_true,k,bz]
 have b:cp (AV.frzC (cC 2 B') (j+1+1)) [aa f,aa v,.tsl true j 3 m]=some [.int .i64 f,.int .i64 v,.sl .sub xs]:=by
  simp only[cp,g,ER,aQ,bz]
 have l:=qM _ _ _ (oa (cC 2 B') (j+1+1) (fc A)) (qM _ _ _ b (oa (cC 2 B') (j+1+1) (fc D)));have c:(fc A++([DV.int .i64 f,DV.int .i64 v,DV.sl .sub xs]++fc D)).map DV.clr=dW (A++(T.node f v (A'++u::a))::D):=by
  rw[ea,ea,sL,sL,H8,qN];simp only[bo,cv,DV.clr,DV.qax,o,T.qaP,T.qb7,T.qaC,cP,dj]
 obtain⟨y,p,G,K,J,e3,M,q⟩:=h B' _ _ _ h1 (fun i hi=>by rw[t i (by omega),r i hi]) (by rw[t (j+1) (by omega),n]) l c;refine⟨y,p,G,K,J,e3,?_,fun C=>q ⟨x,BQ H ⟨C,F⟩⟩⟩;have O:(T.node f v (A'++u::a)).inner=m+(T.inners A'+(u.inner+T.inners a)):=by rw[T.qdX,T.qaC,e,uJ];rfl
 omega
def bG(A:List T)(a c b:AV)(D:List T):List AV:=(fc A).map .d++([a,c,b]++(fc D).map .d)
theorem kv(A:List T)(a c b:AV)(D:List T):(bG A a c b D).length=A.length*3+3+D.length*3:=by
 unfold bG;simp[jx];omega
theorem td(A:List T)(b c a:AV)(D:List T):(bG A b c a D)[A.length*3+2]?=some a:=by
 unfold bG;rw[cj (by simp[jx])];simp[jx]
theorem Hb(A:List T)(a b c y:AV)(D:List T):(bG A a b c D).set (A.length*3+2) y=bG A a b y D:=by
 unfold bG;rw[mJ _ _ (by simp[jx])];simp[jx]
theorem TL(A:List T)(c b a y:AV)(D:List T):(bG A c b a D).set (A.length*3) y=bG A y b a D:=by
 unfold bG;rw[mJ _ _ (by simp[jx])];simp[jx]
theorem qMh(A:List T)(a c b y:AV)(D:List T):(bG A a c b D).set (A.length*3+1) y=bG A a y b D:=by
 unfold bG;rw[mJ _ _ (by simp[jx])];simp[jx]
theorem Dg{cs:List AV}{k:Nat}(h:k<cs.length)(y:AV):splice cs k [y]=cs.set k y:=by
 unfold splice;rw[rZ,ap h];simp
theorem Qk(A:List T)(c b a y:AV)(D:List T):splice (bG A c b a D) (A.length*3) [y]=bG A y b a D:=by
 rw[Dg (by rw[kv];omega),TL]
theorem qMj(A:List T)(a c b y:AV)(D:List T):splice (bG A a c b D) (A.length*3+1) [y]=bG A a y b D:=by
 rw[Dg (by rw[kv];omega),qMh]
theorem Kw(A:List T)(a b c y:AV)(D:List T):splice (bG A a b c D) (A.length*3+2) [y]=bG A a b y D:=by
 rw[Dg (by rw[kv];omega),Hb]
def TR(rs:List DV):Prop:=rs.all (fun r=> !(DV.int .u8 0).like r)=true
theorem JF:∀l:List T,TR (fc l)
 | []=>rfl
 |t::l=>by
  have:=JF l;unfold TR at this⊢
  rw[m_];simp only[fM,this,mp];rfl
mutual
theorem P8(rs:List DV):∀t:T,DV.xrest rs (t.enc U)=true
 | .node f v ks=>by
  rw[T.qbJ];simp only[FJ,Cr,IQ,Lz,Dw,mp,eP,T.qaC];exact kC rs ks
theorem kC(rs:List DV):∀l:List T,DV.xrests rs (l.map (T.enc U))=true
 | []=>by simp only[cv,Dw]
 |t::l=>by simp only[bo,Cr,P8 rs t,kC rs l,mp]
end
theorem KJ(rs:List DV):∀l:List T,DV.xrests rs (fc l)=true
 | []=>by simp[fc]
 |t::l=>by rw[m_];simp[kC,KJ rs l]
theorem oe(rs:List DV):∀l:List T,gA rs ((fc l).map .d)=true
 | []=>by simp[fc]
 |t::l=>by rw[m_];simp[kC,oe rs l]
theorem xl(rs:List DV)(a b:List AV):gA rs (a++b)=(gA rs a&&gA rs b):=by simp[gA]
theorem qg(rs:List DV)(B:ah)(i:Nat)(cs:List AV)(h:eG rs B=true)(hc:gA rs cs=true):eG rs (B.set i (some cs))=true:=by
 unfold eG at h⊢
 rw[bu]at h⊢
 intro x hx;rcases qh hx with h1|h1
 ·exact h x h1
 ·subst h1;exact hc
structure WS(bs:List Int)(j k:Nat)(B:ah)(A D:List T)(f v:Int)(ks:List T)(N:Nat):Prop where
 jk:j+k=5
 j2:2<=j
 len:B.length=6
 seed:qcG bs 0 B
 one:B[1]?=some (some [aa 0,aa 0,.d (.sl U [])])
 free:∀i,2<=i->i<j->B[i]?=some none
 at_:B[j]?=some (some (bG A (aa f) (aa v) (.d (.sl U (ks.map (T.enc U)))) D))
 rest:∀rs,TR rs->eG rs B=true
 ctx:Ctx j B A D N
 siz:N+(T.node f v ks).inner<=6
 rg:(T.node f v ks).rng
theorem WS.turn{bs:List Int}{j k:Nat}{B:ah}{A D:List T}{f v:Int}{ks:List T}{N:Nat}(h:WS bs j k B A D f v ks N){B':ah}(b:Turned bs 0 B B'):WS bs j k B' A D f v ks N:=by
 have d:=b.at (by rw[h.len];omega);obtain⟨pos,st,g,rfl⟩:=b;have e:∀i,1<=i->(B.set 0 (some (bR bs pos st)))[i]?=B[i]?:=fun i hi=>by rw[dh (by omega)]
 have hj:=h.j2;refine⟨h.jk,h.j2,by simp[h.len],d,by rw[e 1 (by omega)];exact h.one,fun i h1 a=>by rw[e i (by omega)];exact h.free i h1 a,by rw[e j (by omega)];exact h.at_,fun rs c=>qg rs B 0 _ (h.rest rs c) (wg rs c bs pos st),?_,h.siz,h.rg⟩;intro B' cs u ds h1 a;exact h.ctx B' cs u ds h1 (fun i hi=>by rw[a i hi,e i (by omega)])
theorem No{bs:List Int}{j k:Nat}{B:ah}{A D:List T}{f v:Int}{ks:List T}{N:Nat}(h:WS bs (j+1) k B A D f v ks N)(p:0<ks.length)(hj:2<=j)(g e:DV)(q:∀rs,DV.xrest rs g=true):
 fp (.focC 4 2 [0,2,3,4,5]) ⟨[(0,.ptr 0 0),(2,.ptr 1 0),(3,.ptr 5 0),(4,.ptr (j+1) (A.length*3)),(5,.d g),(22,.d e)],B⟩=
  some ⟨[(0,.ptr 0 0),(2,.ptr 1 0),(3,.ptr 5 0),(4,.ptr (j+1) (A.length*3)),(5,.d g)],(B.set (j+1) (some (bG A (aa f) (aa v) (.tsl true j 3 ks.length) D))).set j (some ((fc ks).map .d))⟩:=by
 have m:=h.at_;have c:=h.free j hj (by omega);have r:=h.rest (fc ks) (JF ks);have hc:gA (fc ks) (bG A (aa f) (aa v) (.tsl true j 3 ks.length) D)=true:=by
  unfold bG;rw[xl,xl,oe,oe];simp
 have hb:=qg (fc ks) B (j+1) _ r hc;have hx:=KJ (fc ks) ks;have o:=td A (aa f) (aa v) (.d (.sl U (ks.map (T.enc U)))) D;have hs:=Hb A (aa f) (aa v) (.d (.sl U (ks.map (T.enc U)))) (.tsl true j 3 ks.length) D;have hlen:(ks.map (T.enc U)).length=ks.length:=by simp
 cases ks with
 |nil=>simp at p
 |cons a b=>
  have i:(T.enc U a::b.map (T.enc U)).flatMap DV.cells=fc (a::b):=by rw[<-ZB];rfl
  have l:bJ (a.enc U)=true:=by rw[T.qbJ];rfl
  have hcl:(a.enc U).cells.length=3:=by simp
  have n:aI B (j+1)=some (bG A (aa f) (aa v) (.d (.sl U (T.enc U a::b.map (T.enc U)))) D):=by simp only[aI,m,bo]
  simp only[bo]at o hs hlen;have hw:sR 2 [0,2,3,4,5] ⟨[(0,.ptr 0 0),(2,.ptr 1 0),(3,.ptr 5 0),(4,.ptr (j+1) (A.length*3)),(5,.d g),(22,.d e)],B⟩ j (A.length*3) (bG A (aa f) (aa v) (.d (.sl U (T.enc U a::b.map (T.enc U)))) D) (some (.d (.sl U (T.enc U a::b.map (T.enc U)))))=
   some ⟨[(0,.ptr 0 0),(2,.ptr 1 0),(3,.ptr 5 0),(4,.ptr (j+1) (A.length*3)),(5,.d g)],(B.set (j+1) (some (bG A (aa f) (aa v) (.tsl true j 3 (a::b).length) D))).set j (some ((fc (a::b)).map .d))⟩:=by
   rw[KU,i,l,hcl,show(b.map (T.enc U)).length+1=(a::b).length from by simp,hs,ap ⟨by simp[ct,c],by simp[keep,lk,q],hb,hx⟩];rfl
  rw[EU];simp only[lk,Nat.reduceEqDiff,if_false,if_true];rw[LJ,n,aQ,o];exact hw
theorem vV(bs:List Int)(pos st:Int):aM (bR bs pos st)=some [.sl .sub (bs.map (.int .u8)),.int .i64 pos,.int .i64 st]:=by simp[bR]
theorem fA{B:ah}{i j:Nat}{c:Option (List AV)}(h:i≠j):(B.set i c)[j]?=B[j]?:=by rw[dh h]
theorem qGS{ks:List T}{r:Nat}(h:r<ks.length):(fc ks).map AV.d=bG (ks.take r) (aa (ae ks r).f) (aa (ae ks r).v) (.d (.sl U ((ae ks r).kids.map (T.enc U)))) (ks.drop (r+1)):=by
 have e:ks=ks.take r++ae ks r::ks.drop (r+1):=by
  conv=>lhs;rw[<-List.take_append_drop r ks,cW h,bc h]
 conv=>lhs;rw[e,RB,m_]
 unfold bG;simp
theorem XZ(bs:List Int)(hl:bs.length<=1099511627776){j k:Nat}{B:ah}{A D:List T}{f v:Int}{ks:List T}{N:Nat}(h:WS bs (j+1) k B A D f v ks N)(V:0<ks.length)(hj:2<=j):
 ∃(B':ah) (A' Z:List T) (X v':Int) (C:List T) (N':Nat),WS bs j (k+1) B' A' Z X v' C N'/\
  aH XV (XV.lin 161) (.seq (.block 1 (.ghost (.focC 4 2 [0,2,3,4,5]) (.region true 0 [0,2,3,4,5] rV))) (.region false 0 [0,2,3,4,5] wm)) ⟨[(0,.ptr 0 0),(2,.ptr 1 0),(3,.ptr 5 0),(4,.ptr (j+1) (A.length*3)),(5,aa k),(22,ar true)],B⟩=
   some (.normal,⟨[(0,.ptr 0 0),(2,.ptr 1 0),(3,.ptr 5 0),(4,.ptr j (A'.length*3)),(5,aa ((k+1:Nat):Int))],B'⟩):=by
 have m:=No h V hj (.int .i64 k) (.bool true) (fun rs=>by simp);have hlen:=h.len;have W:=h.jk;obtain⟨pos,st,Y,I⟩:=h.seed;have q:=iL I;have G:qcG bs 0 [some (bR bs pos st)]:=⟨pos,st,Y,rfl⟩;have hsz:=h.siz;rw[T.qcf]at hsz;have h5:=jv ks;obtain⟨r,B1,Q,⟨a,st1,y,rfl⟩,hc⟩:=lP bs hl _ 0 G ks.length (by omega) (by omega);simp only[kq]at hc;have b:r.toNat<ks.length:=by omega
 have hw:=bH (n:=k) (by omega);generalize s:bG A (aa f) (aa v) (.tsl true j 3 ks.length) D=R at m;have w:R[A.length*3+2]?=some (.tsl true j 3 ks.length):=by rw[<-s];exact td _ _ _ _ _
 have F:A.length*3+2<R.length:=by rw[<-s,kv];omega
 have g0:((B.set (j+1) (some R)).set j (some ((fc ks).map .d)))[0]?=some (some (bR bs pos st)):=by rw[fA (by omega),fA (by omega)];exact q
 have g1:((B.set (j+1) (some R)).set j (some ((fc ks).map .d)))[j+1]?=some (some R):=by rw[fA (by omega),hI (by omega)]
 have g2:((B.set (j+1) (some R)).set j (some ((fc ks).map .d))).length=6:=by simp[hlen]
 have S:((B.set (j+1) (some R)).set j (some ((fc ks).map .d)))[j]?=some (some ((fc ks).map .d)):=by rw[hI (by simp;omega)]
 have J:∀i,i≠j->i≠j+1->((B.set (j+1) (some R)).set j (some ((fc ks).map .d)))[i]?=B[i]?:=fun i h1 O=>by rw[fA (Ne.symm h1),fA (Ne.symm O)]
 have g:∀rs,TR rs->eG rs ((B.set (j+1) (some R)).set j (some ((fc ks).map .d)))=true:=fun rs c=>by
  refine qg _ _ _ _ (qg _ _ _ _ (h.rest rs c) ?_) (oe rs ks);rw[<-s];unfold bG;rw[xl,xl,oe,oe];simp
 generalize h4:(B.set (j+1) (some R)).set j (some ((fc ks).map .d))=B2 at*
 have K:¬6<=j+1:=by omega
 have M:∀h:0<B2.length,B2[0]'h=some (bR bs pos st):=fun h=>(aK.1 g0).2
 have z:∀h:A.length*3+2<R.length,R[A.length*3+2]'h= .tsl true j 3 ks.length:=fun h=>(aK.1 w).2
 have o:min r.toNat ks.length=r.toNat:=by omega
 have H:=vV bs pos st;have p:=vV bs a st1;have hcl:=im bs pos st;have l:=im bs a st1;generalize bR bs pos st=S0 at*
 refine⟨B2.set 0 (some (bR bs a st1)),ks.take r.toNat,ks.drop (r.toNat+1),(ae ks r.toNat).f,(ae ks r.toNat).v,(ae ks r.toNat).kids,N+(ks.length+T.inners (ks.take r.toNat)+T.inners (ks.drop (r.toNat+1))),?_,?_⟩
 ·have e:ks=ks.take r.toNat++ae ks r.toNat::ks.drop (r.toNat+1):=by
   conv=>lhs;rw[<-List.take_append_drop r.toNat ks,cW b,bc b]
  refine⟨by omega,hj,by simp[g2],⟨a,st1,y,Lg (by omega)⟩,by rw[fA (by omega),J 1 (by omega) (by omega)];exact h.one,fun i h1 O=>by rw[fA (by omega),J i (by omega) (by omega)];exact h.free i h1 (by omega),by rw[fA (by omega),S];exact li (some∘some) (qGS b),fun rs c=>qg _ _ _ _ (g rs c) (wg rs c bs a st1),?_,?_,?_⟩
  ·refine Ctx.step hj h.ctx (fun i hi=>by rw[fA (by omega),J i (by omega) (by omega)]) (by rw[fA (by omega),g1,<-s];rfl) ?_ h.rg.1 ?_ ?_
   ·have:=li List.length e
    simp only[dz,cB]at this;omega
   ·have:=h.rg.2;rw[T.qgw]at this⊢;exact fun t u=>this t (qk u)
   ·have:=h.rg.2;rw[T.qgw]at this⊢;exact fun t u=>this t (pR u)
  ·have e2:T.inners ks=T.inners (ks.take r.toNat)+((ae ks r.toNat).inner+T.inners (ks.drop (r.toNat+1))):=by
    conv=>lhs;rw[e,uJ]
    rfl
   have e3:(T.node (ae ks r.toNat).f (ae ks r.toNat).v (ae ks r.toNat).kids).inner=(ae ks r.toNat).inner:=by cases ae ks r.toNat;rfl
   have e4:(T.node f v ks).inner=ks.length+T.inners ks:=by rw[T.qdX,T.qaC]
   have:=h.siz;omega
  ·have:=h.rg.2
   rw[T.qgw]at this;have P:=this _ (bS b);generalize ae ks r.toNat=x at P;cases x;exact P
 ·generalize bR bs a st1=S1 at*
  simp only[EW];simp only[mC,I6,Ab,m,aQ];simp[Xf,wm,g2,g1,F,H,p,hcl,l,hc,Q.1,Q.2,hw,K,aG,z,o,M,LA]
theorem RI(bs:List Int)(S:bs.length<=1099511627776):∀(n j k:Nat) (B:ah) (A D:List T) (f v:Int) (ks:List T) (N:Nat),n+2=j->WS bs j k B A D f v ks N->
 ∀s0,aE 6 [0,2,3,4,5] s0=some ⟨[(0,.ptr 0 0),(2,.ptr 1 0),(3,.ptr 5 0),(4,.ptr j (A.length*3)),(5,aa k)],B⟩->
 ∃(s k':Nat) (B':ah) (A' K:List T) (C v':Int) (i:List T) (N':Nat),WS bs s k' B' A' K C v' i N'/\
  bV XV (XV.lin 161) 6 [0,2,3,4,5] mf s0=some (.exit 0,⟨[(0,.ptr 0 0),(2,.ptr 1 0),(3,.ptr 5 0),(4,.ptr s (A'.length*3)),(5,aa k'),(22,ar false)],B'⟩):=by
 intro n
 induction n with
 |zero=>
  intro j k B A D f v ks N hn h s0 r;refine⟨j,k,B,A,D,f,v,ks,N,h,d7 r ?_ (by simp)⟩;have y:=h.jk;have o:¬((k:Int)<3):=by omega
  simp[mf,oB,o]
 |succ n V=>
  intro j k B A D f v ks N hn h s0 r;have y:=h.jk;have o:(k:Int)<3:=by omega
  have x:=h.at_;have q:=td A (aa f) (aa v) (.d (.sl U (ks.map (T.enc U)))) D;generalize Z:bG A (aa f) (aa v) (.d (.sl U (ks.map (T.enc U)))) D=R at*
  have l:A.length*3+2<R.length:=by rw[<-Z,kv];omega
  have c:∀h:A.length*3+2<R.length,R[A.length*3+2]'h= .d (.sl U (ks.map (T.enc U))):=fun h=>(aK.1 q).2
  have g:j<B.length:=by rw[h.len];omega
  have m:∀h:j<B.length,B[j]'h=some R:=fun h=>(aK.1 x).2
  by_cases a:0<ks.length
  ·obtain⟨b,Y,W,hc⟩:=qS bs S B 0 h.seed 2 (by omega) (by omega)
   have h1:=h.turn W;cases b with
   |true=>
    refine⟨j,k,Y,A,D,f,v,ks,N,h1,d7 r ?_ (by simp)⟩;simp[mf,oB,o,a,hc,g,m,l,c,aG]
   |false=>
    subst hn;obtain⟨B',A',K,C,v',i,N',Q,M⟩:=XZ bs S h1 a (by omega);obtain⟨s,k',w,O,z,I,J,p,H,u,P⟩:=V (n+2) (k+1) B' A' K C v' i N' rfl Q ⟨[(0,.ptr 0 0),(2,.ptr 1 0),(3,.ptr 5 0),(4,.ptr (n+2) (A'.length*3)),(5,aa ((k+1:Nat):Int))],B'⟩ (gg (e:=[]) (by simp) (by simp[aD];omega) Q.len (by simp));refine⟨s,k',w,O,z,I,J,p,H,u,?_⟩;rw[<-P];refine eF r ?_;rw[<-M];generalize X:VCode.seq (.block 1 (.ghost (.focC 4 2 [0,2,3,4,5]) (.region true 0 [0,2,3,4,5] rV))) (.region false 0 [0,2,3,4,5] wm)=G;rw[show mf= .seq (.seq (.region false 0 [0,2,3,4,5,22] oB) (.cond (.t 22) .skip (.exit 0))) G from by rw[<-X];rfl];simp[oB,o,a,hc,g,m,l,c,aG]
  ·refine⟨j,k,B,A,D,f,v,ks,N,h,d7 r ?_ (by simp)⟩
   have F:ks.length=0:=by omega
   simp[mf,oB,o,F,g,m,l,c,aG]
theorem WS.read{bs:List Int}{j k:Nat}{B:ah}{A D:List T}{f v:Int}{ks:List T}{N:Nat}(h:WS bs j k B A D f v ks N){B':ah}(e:B'.length=6)(hi:∀i,j<i->B'[i]?=B[i]?)(u:T)(g:Tag)(X:List DV)(l:X.map DV.clr=u.kids.map (T.enc .sub))
 (hj:B'[j]?=some (some (bG A (aa u.f) (aa u.v) (.d (.sl g X)) D))):
 ∃(c:List AV) (a:List DV) (b:T),B'[5]?=some (some c)/\cp (AV.frzC (cC 2 B') 6) c=some a/\a.map DV.clr=dW [b]/\b.inner<=N+u.inner/\(u.rng->b.rng):=by
 refine h.ctx B' _ u (fc A++([.int .i64 u.f,.int .i64 u.v,.sl g X]++fc D)) e hi hj ?_ ?_
 ·unfold bG
  exact qM _ _ _ (oa _ _ _) (qM _ _ _ (oa _ _ [.int .i64 u.f,.int .i64 u.v,.sl g X]) (oa _ _ _))
 ·rw[ea,ea,sL,sL,H8,qN]
  simp only[bo,cv,DV.clr,DV.qax,l,cP,dj]
theorem OM(B:ah)(c Z:Option (List AV))(z0 n j:AV)(hlen:B.length=6)(p:B[0]?=some c)(h1:B[1]?=some (some [z0,n,j]))(r:List (Nat×AV))(q:lk r 2=some (.ptr 1 0))(s:lk r 3=some (.ptr 5 0))(t:T)(l:List AV)(b:List DV)
 (x:B[5]?=some (some l)) (u:cp (AV.frzC (cC 2 B) 6) l=some b) (e3:b.map DV.clr=dW [t]):
 ∃C,aH XV (XV.lin 161) (.seq (.ghost (.frzB 3 2 [2]) (.region false 0 [2] vu)) .ret) ⟨r,B⟩=some (.ret,⟨[(2,.ptr 1 0)],[c,some [aa t.f,aa t.v,.d (aj .sub t.kids)],C]⟩):=by
 have o:keep r [2]=[(2,.ptr 1 0)]:=by simp[keep,q]
 have i:B.take 2=[c,some [z0,n,j]]:=by
  match B,hlen with
  | [F,D,z,b3,b4,G],_=>simp at p h1⊢;exact⟨p,h1⟩
 obtain⟨g,xs,y,rfl,hx,w⟩:=Dm e3;have k:y=[]:=by simpa[dW]using w
 subst k;have a:=Fc _ _ e3;have m:aI B 5=some l:=by simp only[aI,x]
 refine⟨some [aa t.f,aa t.v,.d (aj .sub t.kids)],?_⟩;have e:xs.map DV.clr=t.kids.map (T.enc .sub):=by rw[<-DV.qax];exact hx
 have h:fp (.frzB 3 2 [2]) ⟨r,B⟩=some ⟨[(3,.ptr 2 0),(2,.ptr 1 0)],[c,some [z0,n,j],some [aa t.f,aa t.v,.d (aj .sub t.kids)]]⟩:=by
  rw[Gs];simp only[s];rw[Jy,ap ⟨by omega,by simp,by rw[o];simp[aD],by omega⟩,m,aQ,hlen,u,aQ,ap a,o,i];simp[e]
 simp only[mC,Ab,h,aQ];simp[vu,splice,aX,bg,bm,a_,aG]
def vp:VCode:= .seq (.ghost (.frzB 3 2 [2]) (.region false 0 [2] vu)) .ret
def js:VCode:= .seq (.region false 0 [0,2,3,4,38] l_) (.block 2 (.seq (.region false 0 [0,2,3,4,38,39] mE) (.cond (.t 39) (.region false 0 [2,3] yX) (.seq (.region false 0 [0,2,3,4,38,47] oV) (.cond (.t 47) (.region false 0 [2,3] BM) (.seq (.region false 0 [0,2,3,4,38,55] rK) (.cond (.t 55) (.regionT 0 [2,3] vq ui) (.seq (.region false 0 [0,2,3,69] uY) (.cond (.t 69) (.seq (.region false 0 [2] yW) .ret) .skip)))))))))
theorem Xm:pE=⟨1,[.cell 2 true 3],.seq (.region false 1 [0,2] Eb) (.seq (.region false 4 [0,2,3] Cy) (.seq (.region false 0 [0,2,3,4] EK) (.seq (.seq (.region false 0 [0,2,3,4,5] CE) (.block 0 (.loop [0,2,3,4,5] mf))) (.seq js vp))))⟩:=rfl
def A4(bs:List Int)(B:ah)(n:Nat):Prop:=B.length=6/\qcG bs 0 B/\B[1]?=some (some [aa 0,aa 0,.d (.sl U [])])/\
 ∃(c:List AV) (a:List DV) (b:T),B[5]?=some (some c)/\cp (AV.frzC (cC 2 B) 6) c=some a/\a.map DV.clr=dW [b]/\b.inner<=n/\b.rng
theorem WS.read5{bs:List Int}{j k:Nat}{B:ah}{A D:List T}{f v:Int}{ks:List T}{N:Nat}(h:WS bs j k B A D f v ks N)(u:T)(g:Tag)(X:List DV)(c:X.map DV.clr=u.kids.map (T.enc .sub))(n:Nat)(hn:N+u.inner<=n)(b:u.rng):
 A4 bs (B.set j (some (bG A (aa u.f) (aa u.v) (.d (.sl g X)) D))) n:=by
 have hj:=h.j2;have m:=h.jk;have hlen:=h.len;obtain⟨o,a,l,r,q,e3,s,e⟩:=h.read (B':=B.set j (some (bG A (aa u.f) (aa u.v) (.d (.sl g X)) D))) (by simp[hlen]) (fun i hi=>by rw[fA (by omega)]) u g X c (by rw[hI (by omega)]);refine⟨by simp[hlen],?_,by rw[fA (by omega)];exact h.one,o,a,l,r,q,e3,by omega,e b⟩;obtain⟨pos,st,p,hb⟩:=h.seed;exact⟨pos,st,p,by simp only[aI];rw[fA (by omega),iL hb]⟩
theorem C4(ks:List T):(ks.map (T.enc U)).map DV.clr=ks.map (T.enc .sub):=j1 _ _
theorem NF(bs:List Int)(hl:bs.length<=1099511627776){j k:Nat}{B:ah}{A D:List T}{f v:Int}{ks:List T}{N:Nat}(h:WS bs j k B A D f v ks N)(x5 Y:DV):
 (∃(r':List (Nat×AV)) (B':ah),aH XV (XV.lin 161) js ⟨[(0,.ptr 0 0),(2,.ptr 1 0),(3,.ptr 5 0),(4,.ptr j (A.length*3)),(5,.d x5),(22,.d Y)],B⟩=some (.normal,⟨r',B'⟩)/\lk r' 2=some (.ptr 1 0)/\lk r' 3=some (.ptr 5 0)/\A4 bs B' 12)\/
 (∃(t:T) (g:Tag) (B':ah),aH XV (XV.lin 161) js ⟨[(0,.ptr 0 0),(2,.ptr 1 0),(3,.ptr 5 0),(4,.ptr j (A.length*3)),(5,.d x5),(22,.d Y)],B⟩=some (.ret,⟨[(2,.ptr 1 0)],B'⟩)/\qcG bs 0 B'/\B'.length=6/\B'[1]?=some (some [aa t.f,aa t.v,.d (.sl g (t.kids.map (T.enc g)))])/\t.inner<=14/\t.rng):=by
 obtain⟨r,m,hr,a1,hc⟩:=lP bs hl B 0 h.seed 12 (by omega) (by omega);have h1:=h.turn a1;have w:=h1.at_;have hj2:=h.j2;have hjk:=h.jk;have hsz:=h.siz;have O:∀(B':ah),Turned bs 0 m B'->B'[j]?=some (some (bG A (aa f) (aa v) (.d (.sl U (ks.map (T.enc U)))) D)):=fun B' hT=>(h1.turn hT).at_
 by_cases c0:r=0
 ·subst c0
  obtain⟨i,hi,G,s,l⟩:=wz bs hl m 0 h1.seed [-2,-1,0,5,7] (by simp) (by simp);generalize ([-2,-1,0,5,7]:List Int)[i]=x at l;have p:=h1.turn s;have z:=p.at_;have q:=p.len;have K:∀h:j<G.length,G[j]'h=some (bG A (aa f) (aa v) (.d (.sl U (ks.map (T.enc U)))) D):=fun h=>(aK.1 z).2
  have u:=kv A (aa f) (aa v) (.d (.sl U (ks.map (T.enc U)))) D;have hsp:=Qk A (aa f) (aa v) (.d (.sl U (ks.map (T.enc U)))) (aa x) D;have hle:A.length*3+1<=A.length*3+3+D.length*3:=by omega
  have C:j<6:=by omega
  have n:∀a b:Int,(T.node a b ks).inner=(T.node f v ks).inner:=fun a b=>by simp only[T.inner]
  have c:=p.read5 (.node x v ks) U (ks.map (T.enc U)) (C4 ks) 12 (by rw[n];omega) ⟨h.rg.1,h.rg.2⟩;simp only[T.qaP,T.qb7]at c;refine .inl ⟨[(2,.ptr 1 0),(3,.ptr 5 0)],_,?_,rfl,rfl,c⟩;simp only[bo,cv]at l;generalize bG A (aa f) (aa v) (.d (.sl U (ks.map (T.enc U)))) D=R at*
  generalize bG A (aa x) (aa v) (.d (.sl U (ks.map (T.enc U)))) D=R' at*
  simp[js,l_,mE,yX,hc,l,q,K,C,u,hsp,hle,cF,List.replicate,aX,bm,a_,fZ]
 by_cases c1:r=1
 ·subst c1
  obtain⟨i,hi,G,s,l⟩:=wz bs hl m 0 h1.seed [-1,1,99,100] (by simp) (by simp);have hxx:∀y:Int,y∈([-1,1,99,100]:List Int)->-9223372036854775808<=y/\y<=9223372036854775807:=fun y hy=>by
   simp only[br,kU,lT]at hy;omega
  have h5:=hxx _ (il hi);generalize ([-1,1,99,100]:List Int)[i]=x at l h5;have p:=h1.turn s;have z:=p.at_;have q:=p.len;have K:∀h:j<G.length,G[j]'h=some (bG A (aa f) (aa v) (.d (.sl U (ks.map (T.enc U)))) D):=fun h=>(aK.1 z).2
  have u:=kv A (aa f) (aa v) (.d (.sl U (ks.map (T.enc U)))) D;have hsp:=qMj A (aa f) (aa v) (.d (.sl U (ks.map (T.enc U)))) (aa x) D;have hle:A.length*3+1+1<=A.length*3+3+D.length*3:=by omega
  have C:j<6:=by omega
  have n:∀a b:Int,(T.node a b ks).inner=(T.node f v ks).inner:=fun a b=>by simp only[T.inner]
  have c:=p.read5 (.node f x ks) U (ks.map (T.enc U)) (C4 ks) 12 (by rw[n];omega) ⟨h5,h.rg.2⟩;simp only[T.qaP,T.qb7]at c;refine .inl ⟨[(2,.ptr 1 0),(3,.ptr 5 0)],_,?_,rfl,rfl,c⟩;simp only[bo,cv]at l;generalize bG A (aa f) (aa v) (.d (.sl U (ks.map (T.enc U)))) D=R at*
  generalize bG A (aa f) (aa x) (.d (.sl U (ks.map (T.enc U)))) D=R' at*
  simp[js,l_,mE,oV,BM,hc,l,q,K,C,u,hsp,hle,cF,List.replicate,aX,bm,a_,fZ]
 have n0:(r==0)=false:=by simpa using c0
 have n1:(r==1)=false:=by simpa using c1
 by_cases c2:r=2
 ·subst c2
  have hs:=h1.seed;obtain⟨pos,st,hp,hb0⟩:=hs;obtain⟨o,g2,G,H,⟨e,st2,P,rfl⟩,l⟩:=Da bs hl 1 (by omega) 2 (by omega) [some (bR bs pos st)] 0 ⟨pos,st,hp,rfl⟩;simp only[kq]at l;have p:=h1.turn (B':=m.set 0 (some (bR bs e st2))) ⟨e,st2,P,rfl⟩;have Q:=h1.len;have hB1:∀h:j<m.length,m[j]'h=some (bG A (aa f) (aa v) (.d (.sl U (ks.map (T.enc U)))) D):=fun h=>(aK.1 w).2
  have hX:(ks.map (T.enc U)++[o.enc g2]).map DV.clr=(T.node f v (ks++[o])).kids.map (T.enc .sub):=by
   rw[ea,j1,T.qaC,ea];simp
  have n:N+(T.node f v (ks++[o])).inner<=12:=by
   have e1:(T.node f v (ks++[o])).inner=ks.length+1+(T.inners ks+(o.inner+0)):=by
    rw[T.qdX,T.qaC,uJ];simp only[dz,cB,h_,T.inners]
   have e2:(T.node f v ks).inner=ks.length+T.inners ks:=by rw[T.qdX,T.qaC]
   omega
  have c:=p.read5 (.node f v (ks++[o])) U _ hX 12 n ⟨h.rg.1,BQ h.rg.2 ⟨H.2,trivial⟩⟩;simp only[T.qaP,T.qb7]at c;have M:(0:Nat)≠j:=by omega
  have hkl:(ks.length+1)*40<=140737488355328:=by
   have e2:(T.node f v ks).inner=ks.length+T.inners ks:=by rw[T.qdX,T.qaC]
   omega
  have ha:cG 3 40 (.sl U (ks.map (T.enc U))) (.sl .sub [o.enc g2])=some (.sl U (ks.map (T.enc U)++[o.enc g2])):=by
   unfold cG;simp only;rw[ap (by simp[aX,bg])];simp only[iV,bI,if_false];rw[ap ⟨by simpa using hkl,trivial,by simp⟩]
  have u:=kv A (aa f) (aa v) (.d (.sl .sub (ks.map (T.enc .sub)))) D;have W:=td A (aa f) (aa v) (.d (.sl U (ks.map (T.enc U)))) D;have hsp:=Kw A (aa f) (aa v) (.d (.sl .sub (ks.map (T.enc .sub)))) (.d (.sl U (ks.map (T.enc U)++[o.enc g2]))) D;have b1:A.length*3+2<(bG A (aa f) (aa v) (.d (.sl U (ks.map (T.enc U)))) D).length:=by rw[kv];omega
  have X:gG m j (A.length*3+2) 1=m.set j (some (bG A (aa f) (aa v) (.d (.sl .sub (ks.map (T.enc .sub)))) D)):=by
   unfold gG;simp only[aI,w];rw[cW b1,(aK.1 W).2];simp only[sb,rI,AV.clrs,AV.clr,DV.clr,DV.qax,j1];rw[Kw]
  have a2:aG m false 1 j (A.length*3+2)=some (.d (.sl U (ks.map (T.enc U)))):=by
   simp only[aG,aI,w,aQ,bI,if_false,W]
  have heq:((m.set j (some (bG A (aa f) (aa v) (.d (.sl .sub (ks.map (T.enc .sub)))) D))).set 0 (some (bR bs e st2))).set j (some (bG A (aa f) (aa v) (.d (.sl U (ks.map (T.enc U)++[o.enc g2]))) D))=(m.set 0 (some (bR bs e st2))).set j (some (bG A (aa f) (aa v) (.d (.sl U (ks.map (T.enc U)++[o.enc g2]))) D)):=by
   rw[DI _ _ (Ne.symm M),List.set_set]
  rw[<-heq]at c;have hle:A.length*3+2+1<=A.length*3+3+D.length*3:=by omega
  have C:j<6:=by omega
  have hn6:¬6<=j:=by omega
  have h4:¬j=0:=by omega
  refine .inl ⟨[(2,.ptr 1 0),(3,.ptr 5 0)],_,?_,rfl,rfl,c⟩;have g0:(m.set j (some (bG A (aa f) (aa v) (.d (.sl .sub (ks.map (T.enc .sub)))) D)))[0]?=some (some (bR bs pos st)):=by rw[fA (Ne.symm M),iL hb0]
  have gl:(m.set j (some (bG A (aa f) (aa v) (.d (.sl .sub (ks.map (T.enc .sub)))) D))).length=6:=by simp[Q]
  have gj:((m.set j (some (bG A (aa f) (aa v) (.d (.sl .sub (ks.map (T.enc .sub)))) D))).set 0 (some (bR bs e st2)))[j]?=some (some (bG A (aa f) (aa v) (.d (.sl .sub (ks.map (T.enc .sub)))) D)):=by rw[fA M,hI (by omega)]
  clear c heq w O hB1;generalize hR':bG A (aa f) (aa v) (.d (.sl .sub (ks.map (T.enc .sub)))) D=R' at*
  generalize bG A (aa f) (aa v) (.d (.sl U (ks.map (T.enc U)++[o.enc g2]))) D=R'' at*
  generalize hB3:m.set j (some R')=B3 at*
  have g0':∀h:0<B3.length,B3[0]'h=some (bR bs pos st):=fun h=>(aK.1 g0).2
  have b2:=vV bs pos st;have Z:=vV bs e st2;have hcl:=im bs pos st;have S:=im bs e st2;generalize bR bs pos st=S0 at*
  generalize bR bs e st2=S1 at*
  have x2:∀h:j<(B3.set 0 (some S1)).length,(B3.set 0 (some S1))[j]'h=some R':=fun h=>(aK.1 gj).2
  have F:al XV 166 [.ptr 0 0,aa 1,aa 2] [some S0]=some (.d (o.enc g2),[some S1]):=l;simp[js,l_,mE,oV,rK,Q3,hc,Q,gl,hn6,C,a2,X,F,g0',b2,Z,hcl,S,ha,hsp,u,hle,x2,cF,List.replicate,aX,bg,bm,a_,fZ,-gG,-aG,lk,h4]
 have n2:(r==2)=false:=by simpa using c2
 by_cases c3:r=3
 ·subst c3
  obtain⟨o,g2,G,H,s,l⟩:=Da bs hl 3 (by omega) 3 (by omega) m 0 h1.seed;have p:=h1.turn s;have q:=p.len;have x3:=p.one;have h3:∀h:1<G.length,G[1]'h=some [aa 0,aa 0,.d (.sl U [])]:=fun h=>(aK.1 x3).2
  obtain⟨f2,I,J⟩:=o;obtain⟨e,st2,P,x1⟩:=p.seed;have F:al XV 166 [.ptr 0 0,aa 3,aa 3] m=some (.d ((T.node f2 I J).enc g2),G):=l;refine .inr ⟨.node f2 I J,g2,G.set 1 (some [aa f2,aa I,.d (.sl g2 (J.map (T.enc g2)))]),?_,⟨e,st2,P,by simp only[aI];rw[fA (by omega),iL x1]⟩,by simp[q],by rw[hI (by omega)];simp,by have:=H.1;simp at this;omega,H.2⟩;simp[js,l_,mE,oV,rK,uY,yW,hc,F,q,h3,splice,aX,bg,bm,a_,fZ]
 have n3:(r==3)=false:=by simpa using c3
 have n:A4 bs m 12:=by
  have:=h1.read5 (.node f v ks) U (ks.map (T.enc U)) (C4 ks) 12 (by omega) h.rg;simp only[T.qaP,T.qb7]at this;rwa[show m.set j (some (bG A (aa f) (aa v) (.d (.sl U (ks.map (T.enc U)))) D))=m from by
   apply iO;intro i
   by_cases V:j=i
   ·subst V;rw[gR,w];simp
   ·rw[dh V]]at this
 refine .inl ⟨[(0,.ptr 0 0),(2,.ptr 1 0),(3,.ptr 5 0),(69,ar false)],m,?_,rfl,rfl,n⟩;simp[js,l_,mE,oV,rK,uY,hc,n0,n1,n2,n3]
theorem Aq(bs:List Int)(o:bs.length<=1099511627776)(pos st:Int)(W:0<=pos/\pos<=bs.length):
 ∃(t:T) (g:Tag) (pos' u:Int),(t.inner<=14/\t.rng)/\(0<=pos'/\pos'<=bs.length)/\al XV 161 [.ptr 0 0] [some (bR bs pos st)]=some (.d (t.enc g),[some (bR bs pos' u)]):=by
 have p:qcG bs 0 [some (bR bs pos st),some [aa 0,aa 0,.d (.sl U [])],none,none,none,none]:=⟨pos,st,W,rfl⟩;obtain⟨t0,B1,I,_,⟨b,st1,y,rfl⟩,hc⟩:=IY bs o 3 (by omega) _ 0 p;simp only[kq]at hc;obtain⟨f,v,ks⟩:=t0;have J:WS bs 5 0 [some (bR bs b st1),some [aa 0,aa 0,.d (.sl U [])],none,none,none,some [aa f,aa v,.d (.sl U (ks.map (T.enc U)))]] [] [] f v ks 0:=by
  refine⟨rfl,by omega,rfl,⟨b,st1,y,rfl⟩,rfl,fun i h1 h2=> ?_,rfl,fun rs Y=> ?_,Ctx.base _,by omega,I.2⟩
  ·rcases i with _|_|_|_|_|i<;>first|omega|rfl
  ·simp[wg rs Y bs b st1,kC]
 obtain⟨j,k,Q,A,D,f',v',Z,N,s,e⟩:=RI bs o 3 5 0 _ [] [] f v ks 0 rfl J ⟨[(0,.ptr 0 0),(2,.ptr 1 0),(3,.ptr 5 0),(4,.ptr 5 0),(5,aa 0)],[some (bR bs b st1),some [aa 0,aa 0,.d (.sl U [])],none,none,none,some [aa f,aa v,.d (.sl U (ks.map (T.enc U)))]]⟩ (by simp[aE,aD]);have h:=NF bs o s (.int .i64 k) (.bool false);have start:∀q:Option (AV×ah),qQ 1 [.cell 2 true 3] (aH XV (XV.lin 161) (.seq js vp) ⟨[(0,.ptr 0 0),(2,.ptr 1 0),(3,.ptr 5 0),(4,.ptr j (A.length*3)),(5,aa k),(22,ar false)],Q⟩)=q->al XV 161 [.ptr 0 0] [some (bR bs pos st)]=q:=by
  intro q M;rw[Gc XV _ _ _ pE rfl P9 rfl (m:=1) rfl rfl,Xm];simp only[Db,AX,im];rw[<-M];simp only[EW]at e⊢
  generalize VCode.seq js vp=G;simp[Eb,Cy,EK,CE,hc,splice,aX,bg,bm,a_];rw[e];simp
 rcases h with⟨r',B',F,X,e3,hlen,⟨c,st2,l,hb⟩,a,S,H,z,V,O,R,q4,P⟩|⟨t,g,B',F,⟨c,st2,l,hb⟩,hlen,a,hi,w⟩
 ·obtain⟨C,K⟩:=OM B' (some (bR bs c st2)) none _ _ _ hlen (iL hb) a r' X e3 z S H V O R
  refine⟨z,.sub,c,st2,⟨by omega,P⟩,l,start _ ?_⟩;rw[mC,F];simp only[HA];unfold vp;rw[K];obtain⟨f2,r,x⟩:=z;simp[aG]
 ·refine⟨t,g,c,st2,⟨hi,w⟩,l,start _ ?_⟩
  rw[mC,F];simp only[Jp];obtain⟨f2,r,x⟩:=t
  match B',hlen with
  | [b0,b1,b2,b3,b4,b5],_=>
   have n:=iL hb;simp at n a;subst n;subst a
   simp[aG]
theorem nt(bs:List Int)(pos st:Int):aM (bR bs pos st)=some [.sl .sub (bs.map (.int .u8)),.int .i64 pos,.int .i64 st]:=by simp[bR]
end Go.Proofs.YtpcoohnjllclnaaGreat.VS
