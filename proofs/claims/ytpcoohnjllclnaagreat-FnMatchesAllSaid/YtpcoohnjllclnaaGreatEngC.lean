/- The engine, part 5: a call of the program answers what an evaluator of values without memory answers, for the functions whose code is the one that the evaluator is given. -/
import Derived.Test.YtpcoohnjllclnaaGreatEngE
set_option linter.unusedSimpArgs false
set_option linter.unusedVariables false
namespace Go.Proofs.YtpcoohnjllclnaaGreat.VS
open Classical
section
variable {A0:Ids} {T:List Nat} {F:Id->Prop} {p:Id} {sx:XS} {sv:St}
structure Back(F:Id->Prop)(p:Id)(A0:Ids)(v':AV)(B':ah)(r:Res):Prop where
 fit:v'.fit r.v
 boxes:qbb B' r.B
 held:Held F (fun _=>False) r.A (ay [(0,v')] B' [(0,r.v)] r.B)
 am:∀a,r.A a=true->A0 a=true\/Fut p 0 a
theorem Rel.back{k:Nat}(h:Rel A0 T F p k sx sv){B' Bv':ah}(hb:qbb B' Bv')(i:∀j,(aW B' Bv' j).Sublist (aW sx.B sv.B j)){v' u:AV}(r:v'.fit u){A':Ids}
 (m:(v'.own u).Nodup) (e:∀a,a∈v'.own u->A' a=true/\¬F a/\∀j,a∉aW B' Bv' j) (q:∀a,sv.A a=true->A' a=true) (n:∀a,A' a=true->A0 a=true\/Fut p 0 a):
 Back F p A0 v' B' ⟨u,A',Bv'⟩:=by
 refine⟨r,hb,⟨fun ℓ=> ?_,fun ℓ ℓ' a ha b=> ?_,fun ℓ a ha=> ?_,fun a ha=>⟨q a (h.held.fr a ha).1,id⟩⟩,n⟩
 ·cases ℓ with
  |reg t=>simp only[ay,eA];split
          ·exact m
          ·simp
  |box j=>exact(h.held.nodup (.box j)).sublist (i j)
 ·cases ℓ with
  |reg t=>
   simp only[ay,eA]at ha;split at ha
   ·rename_i l;subst l
    cases ℓ' with
    |reg x=>
     simp only[ay,eA]at b;split at b
     ·rename_i l;subst l;rfl
     ·simp at b
    |box j=>exact absurd b ((e a ha).2.2 j)
   ·simp at ha
  |box j=>
   cases ℓ' with
   |reg x=>
    simp only[ay,eA]at b;split at b
    ·exact absurd ha ((e a b).2.2 j)
    ·simp at b
   |box o=>
    have:=h.held.apart (.box j) (.box o) a ((i j).subset ha) ((i o).subset b);exact this
 ·cases ℓ with
  |reg t=>
   simp only[ay,eA]at ha;split at ha
   ·exact⟨(e a ha).1,(e a ha).2.1,id⟩
   ·simp at ha
  |box j=>
   obtain⟨y,w,_⟩:=h.held.opn (.box j) a ((i j).subset ha);exact⟨q a y,w,id⟩
theorem iC(B Bv:ah)(n j:Nat):(aW (B.take n) (Bv.take n) j).Sublist (aW B Bv j):=by
 simp only[aW,rS]
 by_cases hj:j<n
 ·simp[hj]
 ·simp[hj]
theorem LN{k:Nat}(h:Rel A0 T F p k sx sv){r:VRes}{v:AV}(b:nY sx r=some v):∃u,iv sv r=some u/\v.fit u/\∀a,a∈v.own u->∃t,r= .tmp t/\T.contains t=true/\a∈a8 sx.r sv.r t:=by
 cases r with
 |tmp t=>
  simp only[nY]at b;obtain⟨u,h1,e⟩:=h.regs t v b;refine⟨u,h1,e,fun a ha=>⟨t,rfl,?_,?_⟩⟩
  ·cases ht:T.contains t with
   |true=>rfl
   |false=>
    have:=h.nl t ht;unfold a8 at this;rw[b,h1]at this;simp only at this
    rw[this]at ha;simp at ha
  ·unfold a8;rw[b,h1];exact ha
 |cell t agg sz=>
  simp only[nY]at b;split at b
  ·rename_i i off h1
   obtain⟨w,e,rfl⟩:=au.1 b;obtain⟨u,cs,ds,n,l,_⟩:=xm h.boxes e;obtain⟨x,m,j⟩:=h.regs t _ h1;simp only[AV.fit]at j;subst j
   exact⟨u,by simp only[iv,m,n],AV.qcK _ _ l,fun a ha=>by rw[AV.qbC]at ha;simp at ha⟩
  ·simp at b
theorem rN{k:Nat}(h:Rel A0 T F p k sx sv):∀(rs:List VRes) (vs:List AV),cS T (rs.flatMap VRes.vx)=true->l8 sx rs=some vs->∃us,iK sv rs=some us/\AV.fits vs us/\(AV.owns vs us).Nodup/\
 (∀a,a∈AV.owns vs us->∃t,VX.t t∈rs.flatMap VRes.vx/\T.contains t=true/\a∈a8 sx.r sv.r t)/\(∀a,a∈AV.owns vs us->sv.A a=true/\¬F a/\∀j,a∉aW sx.B sv.B j)
 | [],vs,_,hx=>by simp[l8]at hx;subst hx;exact⟨[],rfl,by simp[AV.fits],by simp[AV.owns],by simp[AV.owns],by simp[AV.owns]⟩
 |r::rs,vs,hd,hx=>by
  simp only[l8]at hx;obtain⟨v,h1,z⟩:=aw.1 hx;obtain⟨w,J,rfl⟩:=au.1 z;obtain⟨u,q,I,l⟩:=LN h h1;have n:cS T (rs.flatMap VRes.vx)=true:=by
   cases r with
   |tmp t=>exact(lM (by simpa[VRes.vx]using hd)).2
   |cell t a s=>simpa[VRes.vx]using hd
  obtain⟨us,g1,g2,D,y,C⟩:=rN h rs w n J;refine⟨u::us,by simp[iK,q,g1],by simp only[AV.fits];exact⟨_,_,rfl,I,g2⟩,?_,fun a ha=> ?_,fun a ha=> ?_⟩
  ·simp only[AV.owns]
   rw[co];refine⟨?_,D,fun a ha b hb he=> ?_⟩
   ·cases r with
    |tmp t=>
     have:=h.held.nodup (.reg t);simp only[ay,a8]at this;simp only[nY]at h1;simp only[iv]at q
     rw[h1,q]at this;exact this
    |cell t ag s=>
     have:v.own u=[]:=List.eq_nil_iff_forall_not_mem.2 fun a ha=>by obtain⟨x,e,_⟩:=l a ha;simp at e
     rw[this];simp
   ·subst he
    obtain⟨t,rfl,i,e⟩:=l a ha;obtain⟨x,o,K,m⟩:=y a hb;have:=h.held.apart (.reg t) (.reg x) a e m;simp at this;subst this
    exact(lM (by simpa[VRes.vx]using hd)).1 t rfl i o
  ·simp only[AV.owns,bl]at ha
   rcases ha with ha|ha
   ·obtain⟨t,rfl,i,e⟩:=l a ha
    exact⟨t,by simp[VRes.vx],i,e⟩
   ·obtain⟨t,o,m⟩:=y a ha
    exact⟨t,by simp only[ei,bl];exact .inr o,m⟩
  ·simp only[AV.owns,bl]at ha
   rcases ha with ha|ha
   ·obtain⟨t,rfl,i,e⟩:=l a ha
    obtain⟨H,G,M⟩:=h.held.opn (.reg t) a e;exact⟨H,G,fun j hj=>by have:=h.held.apart (.reg t) (.box j) a e hj;simp at this⟩
   ·exact C a ha
theorem NY(h:Rel A0 T F p sv.c sx sv){L:Nat}{rs:List VRes}(hd:cS T (rs.flatMap VRes.vx)=true){v':AV}{B':ah}(hx:yE L sx rs=some (v',B')):
 ∃r,finish L p sv rs=some r/\Back F p A0 v' B' r:=by
 have m:∀a,sv.A a=true->A0 a=true\/Fut p 0 a:=fun a ha=>(h.am a ha).2
 have many:∀vs ds,l8 sx rs=some vs->aM vs=some ds->∃us es,iK sv rs=some us/\AV.fits vs us/\aM us=some es/\us=es.map .d/\Back F p A0 (.d (.tup ds)) (sx.B.take L) ⟨.d (.tup es),sv.A,sv.B.take L⟩:=by
  intro vs ds h1 D;obtain⟨us,g1,g2,k,z,l⟩:=rN h rs vs hd h1;obtain⟨es,C,R,e3⟩:=jO D g2;have M:us=es.map .d:=by
   clear g1 g2 k z l R e3
   induction us generalizing es with
   |nil=>simp[aM]at C;subst C;rfl
   |cons u us V=>
    cases u with
    |d d=>
     simp only[aM]at C;obtain⟨es',o,rfl⟩:=au.1 C;rw[V es' o];rfl
    |_=>simp[aM]at C
  refine⟨us,es,g1,g2,C,M,h.back (h.boxes.take L) (iC _ _ L) (by simp only[AV.fit,DV.fit];exact⟨_,rfl,_,rfl,R⟩) (by simp only[AV.own,DV.own];rw[<-e3];exact k) (fun a ha=> ?_) (fun a ha=>ha) m⟩;simp only[AV.own,DV.own]at ha;rw[<-e3]at ha;obtain⟨w,H,I⟩:=l a ha;exact⟨w,H,fun j hj=>I j ((iC _ _ L j).subset hj)⟩
 unfold yE at hx;split at hx
 ·rename_i v h1
  simp at hx;obtain⟨rfl,rfl⟩:=hx
  obtain⟨us,g1,g2,k,z,l⟩:=rN h rs _ hd h1;simp only[AV.fits]at g2;obtain⟨u,_,rfl,e,rfl⟩:=g2;simp only[AV.fit]at e;obtain⟨y,rfl,K⟩:=e;simp only[AV.owns,dq]at k l;refine⟨_,by unfold finish;rw[g1],h.back (h.boxes.take L) (iC _ _ L) (by simp only[AV.fit];exact⟨_,rfl,K⟩) k (fun a ha=> ?_) (fun a ha=>ha) m⟩;obtain⟨w,H,I⟩:=l a ha;exact⟨w,H,fun j hj=>I j ((iC _ _ L j).subset hj)⟩
 ·rename_i i off h1
  simp at hx;obtain⟨rfl,rfl⟩:=hx
  obtain⟨us,g1,g2,k,z,l⟩:=rN h rs _ hd h1;simp only[AV.fits]at g2;obtain⟨u,_,rfl,e,rfl⟩:=g2;simp only[AV.fit]at e;subst e;exact⟨_,by unfold finish;rw[g1],h.back h.boxes (fun j=>bX _) (by simp[AV.fit]) (by simp[AV.own]) (by simp[AV.own]) (fun a ha=>ha) m⟩
 ·rename_i id agg i sz n h1
  split at hx
  ·rename_i hc
   obtain⟨cs,D,o⟩:=aw.1 hx;obtain⟨bs,P,h5⟩:=aw.1 D;split at o
   ·rename_i hlen
    obtain⟨xs,h6,N⟩:=au.1 o;simp at N;obtain⟨rfl,rfl⟩:=N
    obtain⟨us,g1,g2,k,z,l⟩:=rN h rs _ hd h1;simp only[AV.fits]at g2;obtain⟨u,_,rfl,e,rfl⟩:=g2;simp only[AV.fit]at e;obtain⟨x2,rfl⟩:=e;obtain⟨ds,w,H⟩:=h.boxes.get P;obtain⟨es,I,Q,X⟩:=jO h5 H;obtain⟨ys,S,q7,Z,O,Y⟩:=tW agg sz n cs es xs Q h6;have G:aW sx.B sv.B i=DV.owns cs es:=by unfold aW;rw[P,w];exact X
    have q:∀a,a∈DV.owns xs ys->a∈ay sx.r sx.B sv.r sv.B (.box i):=fun a ha=>by simp only[ay];rw[G];exact O.subset ha
    have t:¬sv.A (sv.c::p)=true:=fun ha=>(h.am _ ha).1 (Fut.self p _)
    refine⟨⟨.d (.sl (.own (sv.c::p) sz) ys),Ids.add (sv.c::p) sv.A,sv.B.take L⟩,?_,?_⟩
    ·unfold finish
     rw[g1];simp only;rw[ap hc,w];simp only[aQ,I];rw[ap (by rw[<-DV.qan Q];exact hlen),S];rfl
    ·refine h.back (h.boxes.take L) (iC _ _ L) ?_ ?_ (fun a ha=> ?_) (fun a ha=>by simp[Ids.add,ha]) (fun a ha=> ?_)
     ·simp only[AV.fit,DV.fit]
      refine⟨_,rfl,_,_,rfl,q7,.inr ⟨rfl,?_⟩⟩
      by_cases hn:xs.length=0
      ·exact .inl ⟨hn,.inr ⟨_,_,rfl⟩⟩
      ·exact .inr ⟨hn,_,_,rfl,Z⟩
     ·simp only[AV.own,DV.own]
      rw[co];refine⟨by split<;>simp[Tag.ids],((h.held.nodup (.box i)).sublist (by simp only[ay];rw[G];exact O)),fun a ha b hb he=> ?_⟩;split at ha<;>simp[Tag.ids]at ha
      subst ha;subst he
      exact t (h.held.opn _ _ (q _ hb)).1
     ·simp only[AV.own,DV.own,bl]at ha
      rcases ha with ha|ha
      ·split at ha<;>simp[Tag.ids]at ha
       subst ha;refine⟨by simp[Ids.add],fun hF=>t (h.held.fr _ hF).1,fun j hj=> ?_⟩;exact t (h.held.opn (.box j) _ ((iC _ _ L j).subset hj)).1
      ·obtain⟨z1,W,_⟩:=h.held.opn _ a (q a ha)
       refine⟨by simp[Ids.add,z1],W,fun j hj=> ?_⟩;have:=h.held.apart (.box i) (.box j) a (q a ha) ((iC _ _ L j).subset hj);simp at this;subst this
       simp only[aW,rS]at hj;rw[ak (by omega)]at hj;simp at hj
     ·simp only[Ids.add,ci,ba]at ha
      rcases ha with rfl|ha
      ·exact .inr ((Fut.self p _).le (cE _))
      ·exact m a ha
   ·simp at o
  ·simp at hx
 ·simp at hx
 ·rename_i vs x3 x1 a1 J h1
  obtain⟨ds,D,o⟩:=au.1 hx;simp at o;obtain⟨rfl,rfl⟩:=o
  obtain⟨us,es,g1,g2,k,z,l⟩:=many vs ds h1 D;refine⟨_,?_,l⟩;unfold finish;rw[g1]
  match us,g2 with
  | [],_=>simp at z;simp[aM]at k;subst k;rfl
  | [u],g2=>
   have hl:=AV.qan g2
   match vs,hl with
   | [x],_=>exact absurd rfl (J x)
  |u::u'::us,_=>simp only[k,bz]
 ·simp at hx
theorem Ev(h:Rel A0 T F p sv.c sx sv){L:Nat}{rs:List VRes}(hd:cS T (rs.flatMap VRes.vx)=true){v':AV}{B':ah}(hx:fB L sx rs=some (v',B')):
 ∃r,finish L p sv rs=some r/\Back F p A0 v' B' r:=by
 unfold fB at hx;split at hx
 ·rename_i t agg sz
  unfold Do at hx;split at hx
  ·rename_i i off h1
   split at hx
   ·rename_i Y
    split at hx
    ·rename_i v h2
     simp at hx;obtain⟨rfl,rfl⟩:=hx
     obtain⟨u,cs,ds,Q,G,P,N,o,S,h9⟩:=xm h.boxes h2;obtain⟨x,g1,g2⟩:=h.regs t _ h1;simp only[AV.fit]at g2;subst g2
     have k:=G;simp only[AV.fit]at k;obtain⟨y,rfl,hy⟩:=k;have m:aW sx.B sv.B i=AV.owns cs ds:=by unfold aW;rw[P,N]
     have e:((AV.d v).own (.d y)).Sublist (AV.owns cs ds):=by
      rw[S,AV.qbN (AV.qan o) off];refine List.Sublist.trans ?_ (gi _ _);rw[AV.qbN (a:=cs.drop off) (c:=ds.drop off) (by simp[AV.qan o]) (if agg=true then sz else 1)];exact n_ _ _
     refine⟨_,by unfold finish;simp only[iK,iv,g1,Q,aQ,bz],h.back (h.boxes.take L) (iC _ _ L) G ((h.held.nodup (.box i)).sublist (by simp only[ay];rw[m];exact e)) (fun a ha=> ?_) (fun a ha=>ha) (fun a ha=>(h.am a ha).2)⟩;have l:a∈ay sx.r sx.B sv.r sv.B (.box i):=by simp only[ay];rw[m];exact e.subset ha
     obtain⟨w,C,_⟩:=h.held.opn _ a l;refine⟨w,C,fun j hj=> ?_⟩;have:=h.held.apart (.box i) (.box j) a l ((iC _ _ L j).subset hj);simp at this;subst this
     simp only[aW,rS]at hj;rw[ak (by omega)]at hj;simp at hj
    ·simp at hx
   ·simp at hx
  ·simp at hx
 ·rename_i t1 g1 z1 t2 g2 z2 t3
  unfold EF at hx;split at hx
  ·rename_i H Z D o2 b e1 e2 e3
   split at hx
   ·rename_i Y
    obtain⟨W,R,J⟩:=Y;split at hx
    ·rename_i v1 v2 l1 l2
     simp at hx;obtain⟨rfl,rfl⟩:=hx
     have one:∀(t i off:Nat) (g:Bool) (z:Nat) (v:DV),lk sx.r t=some (.ptr i off)->aG sx.B g z i off=some (.d v)->∃y,iv sv (.cell t g z)=some (.d y)/\v.fit y/\(v.own y).Sublist (aW sx.B sv.B i):=by
      intro t i off g z v w C;obtain⟨u,cs,ds,Q,G,P,N,o,S,h9⟩:=xm h.boxes C;obtain⟨x,r1,X⟩:=h.regs t _ w;simp only[AV.fit]at X;subst X
      have k:=G;simp only[AV.fit]at k;obtain⟨y,rfl,hy⟩:=k;have m:aW sx.B sv.B i=AV.owns cs ds:=by unfold aW;rw[P,N]
      have e:((AV.d v).own (.d y)).Sublist (AV.owns cs ds):=by
       rw[S,AV.qbN (AV.qan o) off];refine List.Sublist.trans ?_ (gi _ _);rw[AV.qbN (a:=cs.drop off) (c:=ds.drop off) (by simp[AV.qan o]) (if g=true then z else 1)];exact n_ _ _
      exact⟨y,by simp only[iv,r1,Q],hy,by rw[m];exact e⟩
     obtain⟨K,a1,a2,a3⟩:=one t1 H Z g1 z1 v1 e1 l1;obtain⟨I,b1,b2,b3⟩:=one t2 D o2 g2 z2 v2 e2 l2;obtain⟨x,c1,c2⟩:=h.regs t3 _ e3;simp only[AV.fit]at c2;obtain⟨y3,rfl,c3⟩:=c2;have M:y3= .bool b:=by simpa only[DV.fit]using c3
     subst M;have n:DV.owns [v1,v2,.bool b] [K,I,.bool b]=v1.own K++(v2.own I++[]):=by simp only[DV.owns,DV.own,dq]
     have good:∀i a,L<=i->a∈aW sx.B sv.B i->sv.A a=true/\¬F a/\∀j,a∉aW (sx.B.take L) (sv.B.take L) j:=fun i a hi ha=>by
      have l:a∈ay sx.r sx.B sv.r sv.B (.box i):=ha;obtain⟨w,C,_⟩:=h.held.opn _ a l;refine⟨w,C,fun j hj=> ?_⟩;have:=h.held.apart (.box i) (.box j) a l ((iC _ _ L j).subset hj);simp at this;subst this
      simp only[aW,rS]at hj;rw[ak (by omega)]at hj;simp at hj
     have O:iv sv (.tmp t3)=some (ar b):=c1;refine⟨⟨.d (.tup [K,I,.bool b]),sv.A,sv.B.take L⟩,by unfold finish;simp only[iK,a1,b1,O,aQ,bz,aM],h.back (h.boxes.take L) (iC _ _ L) ?_ ?_ (fun a ha=> ?_) (fun a ha=>ha) (fun a ha=>(h.am a ha).2)⟩
     ·simp only[AV.fit,DV.fit,DV.fits]
      exact⟨_,rfl,_,rfl,_,_,rfl,a2,_,_,rfl,b2,_,_,rfl,rfl,rfl⟩
     ·simp only[AV.own,DV.own,n,dq]
      rw[co];refine⟨(h.held.nodup (.box H)).sublist a3,(h.held.nodup (.box D)).sublist b3,fun q hq q' V he=> ?_⟩;subst he;have:=h.held.apart (.box H) (.box D) q (a3.subset hq) (b3.subset V);simp at this;exact J this
     ·simp only[AV.own,DV.own,n,dq,bl]at ha
      rcases ha with ha|ha
      ·exact good H a W (a3.subset ha)
      ·exact good D a R (b3.subset ha)
    ·simp at hx
   ·simp at hx
  ·simp at hx
 ·exact NY h hd hx
theorem rT{x v:DV}(h:x.fit v):v.flat=x.flat:=by
 cases x<;>simp only[DV.fit]at h
 case agg cs=>obtain⟨ds,rfl,h1⟩:=h;rfl
 case sl g xs=>
  obtain⟨g',ys,rfl,h1,b⟩:=h;cases xs with
  |nil=>simp only[DV.fits]at h1;subst h1;rfl
  |cons x r=>simp only[DV.fits]at h1;obtain⟨y,a,rfl,_,_⟩:=h1;rfl
 case tup cs=>obtain⟨ds,rfl,h1⟩:=h;rfl
 all_goals subst h;rfl
theorem Rb{sx:XS}{sv:St}{k:Nat}(h:Rel A0 T F p k sx sv){y:DV×DV}(hy:mZ sx=some y):
 ∃a,om sv=some a/\y.1.fit a.1/\y.2.fit a.2/\y.1.own a.1=[]/\y.2.own a.2=[]:=by
 unfold mZ at hy;split at hy
 ·rename_i J K N z0 M I D C e3
  split at hy
  ·rename_i hc
   simp only[aB]at hy;subst hy
   obtain⟨v3,g1,g2⟩:=h.regs 3 _ D;obtain⟨v4,x,i⟩:=h.regs 4 _ C;simp only[AV.fit]at g2 i;subst g2;subst i
   have hb:=h.boxes;rw[e3]at hb;obtain⟨c0,e,j⟩:=(hb.2 0).2 _ rfl;obtain⟨c1,b3,b4⟩:=(hb.2 1).2 _ rfl;simp only[AV.fits,AV.fit]at j b4;obtain⟨_,_,rfl,⟨w0,rfl,b⟩,_,_,rfl,⟨l,rfl,f1⟩,w,_,rfl,_,rfl⟩:=j;obtain⟨_,_,rfl,⟨H,rfl,o⟩,_,_,rfl,⟨q,rfl,r⟩,_,_,rfl,⟨G,rfl,z⟩,rfl⟩:=b4;have t:sv.B=[some [.d w0,.d l,w],some [.d H,.d q,.d G]]:=by
    have u:=hb.1
    match hs:sv.B,u with
    | [m,n],_=>
     rw[hs]at e b3;simp at e b3;subst e;subst b3;rfl
   refine⟨(w0,l),?_,DV.qcK _ _ b,DV.qcK _ _ f1,DV.qbC _ _,DV.qbC _ _⟩;unfold om;rw[g1,x,t];simp only;rw[rT b,rT f1,rT o,rT r,rT z,DV.qd5 b,DV.qd5 f1,ap hc]
  ·simp at hy
 ·simp at hy
theorem Ic:∀{xs vs:List DV},DV.fits xs vs->DV.fits (xs.flatMap DV.cells) (vs.flatMap DV.cells)/\DV.owns (xs.flatMap DV.cells) (vs.flatMap DV.cells)=DV.owns xs vs
 | [],vs,h=>by simp only[DV.fits]at h;subst h;simp[DV.fits,DV.owns]
 |x::xs,vs,h=>by
  simp only[DV.fits]at h;obtain⟨v,vs,rfl,h1,b⟩:=h;obtain⟨a,e⟩:=Ic b;simp only[ei];exact⟨DV.qaU (DV.qa2 h1) a,by rw[DV.qaR (DV.qan (DV.qa2 h1)),DV.qdo h1,e];simp only[DV.owns]⟩
theorem QH{X:bM}{V:aZ}{lin:Nat->List Nat}(J:gr X V lin){sf:SFn}{A:Ids}{a:Id}{sz:Nat}{x y:DV}{xr k:List DV}{q:Id}
 (h1:x.fit y) (O:DV.fits xr k) (N:∀b,b∈a::DV.owns (x::xr) (y::k)->A b=true/\¬Fut q 0 b) (z:(a::DV.owns (x::xr) (y::k)).Nodup)
 (hsz:∀e:DV,e∈y::k->e.cells.length=sz) {r:List DV} (hx:gI X sf x xr=some r):
 ∃o A1,j3 V q sf A a y k=some (o,Ids.add a A1)/\DV.fits r o/\r.length=xr.length+1/\(∀e:DV,e∈o->e.cells.length=sz)/\(a::DV.owns r o).Nodup/\(∀b,b∈DV.owns r o->A1 b=true)/\(∀b,A1 b=true->b∈DV.owns (x::xr) (y::k)\/Fut q 0 b):=by
 unfold gI at hx;split at hx
 ·rename_i hu
  have hf:DV.fits (x::xr) (y::k):=by simp only[DV.fits];exact⟨_,_,rfl,h1,O⟩
  obtain⟨l,P,n⟩:=yM _ _ hf hu;obtain⟨c1,c2⟩:=Ic hf;rw[iZ]at z;split at hx
  ·rename_i v cs G
   obtain⟨es,d1,hx⟩:=aw.1 hx;split at hx
   ·rename_i hlen
    have hfa:AV.fits [AV.tsl true 0 x.cells.length (xr.length+1),.fn sf.cmp []] [AV.tsl true 0 y.cells.length (k.length+1),.fn sf.cmp []]:=by
     simp only[AV.fits,AV.fit];rw[DV.qby h1,<-DV.qan O];exact⟨_,_,rfl,rfl,_,_,rfl,⟨_,rfl,rfl,by simp[AV.owns]⟩,rfl⟩
    have D:∀j,a8 (aV 0 [AV.tsl true 0 x.cells.length (xr.length+1),.fn sf.cmp []]) (aV 0 [AV.tsl true 0 y.cells.length (k.length+1),.fn sf.cmp []]) j=[]:=by
     intro j;rw[mV]
     match j with
     |0=>simp[AV.own]
     |1=>simp[AV.own]
     |j+2=>simp
    have M:∀j,aW [some (((x::xr).flatMap DV.cells).map AV.d)] [some (((y::k).flatMap DV.cells).map AV.d)] j=if j=0 then DV.owns (x::xr) (y::k)else []:=by
     intro j;unfold aW aI
     match j with
     |0=>simp only[d9,if_true];show AV.owns _ _=_;rw[AV.qin,c2]
     |j+1=>simp
    have w:∀ℓ b,b∈ay (aV 0 [AV.tsl true 0 x.cells.length (xr.length+1),.fn sf.cmp []]) [some (((x::xr).flatMap DV.cells).map AV.d)] (aV 0 [AV.tsl true 0 y.cells.length (k.length+1),.fn sf.cmp []]) [some (((y::k).flatMap DV.cells).map AV.d)] ℓ->ℓ= .box 0/\b∈DV.owns (x::xr) (y::k):=by
     intro ℓ b hb;cases ℓ with
     |reg t=>simp only[ay,D]at hb;simp at hb
     |box j=>
      simp only[ay,M]at hb;split at hb
      ·rename_i hj;subst hj;exact⟨rfl,hb⟩
      ·simp at hb
    obtain⟨u,Bv',A1,hV,_,I,hh,Q⟩:=J _ _ _ _ _ G q _ [some (((y::k).flatMap DV.cells).map AV.d)] (fun b=>l.contains b) (fun _=>False) hfa
     ⟨rfl,fun i=>by
      match i with
      |0=>exact⟨by simp,fun cs hc=>by simp at hc;subst hc;exact⟨_,rfl,by have:=AV.qip c1;simpa using this⟩⟩
      |i+1=>exact⟨by simp,fun cs hc=>by simp at hc⟩⟩
     ⟨fun ℓ=>by
      cases ℓ with
      |reg t=>simp only[ay,D];simp
      |box j=>simp only[ay,M];split
              ·exact z.2
              ·simp,
      fun ℓ ℓ' b hb W=>by rw[(w ℓ b hb).1,(w ℓ' b W).1],
      fun ℓ b hb=>⟨by simpa using n.mem_iff.2 (w ℓ b hb).2,id,(N b (dH _ (w ℓ b hb).2)).2⟩,fun b hb=>by simp at hb⟩
     (fun j _=>D j) (fun b hb=>by
      have:b∈l:=by simpa using hb
      exact(N b (dH _ (n.mem_iff.1 this))).2)
    obtain⟨ds,e1,e2⟩:=(I.2 0).2 cs rfl;have S:Bv'=[some ds]:=by
     have hl:=I.1
     match Bv',hl with
     | [m],_=>simp at e1;subst e1;rfl
    subst S;obtain⟨es',d2,d3,d4⟩:=jO d1 e2;obtain⟨o,k1,k2,k3,Y,k5⟩:=tW _ _ _ _ _ _ d3 hx;have C:∀b,b∈DV.owns r o->A1 b=true:=fun b hb=>(hh.opn (.box 0) b (by simp only[ay,aW,aI];simp only[d9];show b∈AV.owns _ _;rw[d4];exact Y.subset hb)).1
    have H:(DV.owns r o).Nodup:=by
     have:=hh.nodup (.box 0);simp only[ay,aW,aI,d9]at this;have Z:(AV.owns cs ds).Nodup:=this;rw[d4]at Z;exact Z.sublist Y
    have K:∀b,A1 b=true->b∈DV.owns (x::xr) (y::k)\/Fut q 0 b:=fun b hb=>(Q b hb).imp_left fun h=>n.mem_iff.1 (by simpa using h)
    refine⟨o,A1,?_,k2,k5,fun e he=>by rw[k3 e he,<-DV.qby h1];exact hsz y (by simp),?_,C,K⟩
    ·unfold j3
     rw[P,aQ,ap ⟨(N a (by simp)).1,bu.2 fun b hb=>(N b (dH _ (n.mem_iff.1 hb))).1,by
      have:¬a∈l:=fun hm=>z.1 (n.mem_iff.1 hm)
      simpa using this⟩,hV]
     simp only[d2,aQ];rw[DV.qby h1,<-DV.qan O,ap (by rw[<-DV.qan d3];exact hlen),k1];rfl
    ·rw[iZ]
     refine⟨fun hm=> ?_,H⟩;rcases K a (C a hm)with R|R
     ·exact z.1 R
     ·exact(N a (by simp)).2 R
   ·simp at hx
  ·simp at hx
 ·simp at hx
theorem YV{X:bM}{V:aZ}{lin:Nat->List Nat}(l:gr X V lin){T:List Nat}{n:Nat}{sf:SFn}{p:Id}{ds es:List DV}(hf:DV.fits ds es)
 (I:sf.pre.linOK T=true) (D:sf.rest.linOK T=true) (G:cS T (sf.results.flatMap VRes.vx)=true)
 (hz:∀j,a8 (aV 0 (ds.map .d)) (aV 0 (es.map .d)) j=[]) {v:DV} (hx:io X lin T n sf ds=some v):
 ∃u A1,kZ V n p sf es=some (u,A1)/\v.fit u/\(v.own u).Nodup/\(∀a,a∈v.own u->A1 a=true)/\∀a,A1 a=true->Fut p 0 a:=by
 unfold io at hx;split at hx
 ·simp at hx
 rename_i hlen;have Q:=AV.qip hf;have m:∀ℓ,ay (aV 0 (ds.map AV.d)) [] (aV 0 (es.map AV.d)) [] ℓ=[]:=by
  intro ℓ;cases ℓ with
  |reg t=>exact hz t
  |box j=>simp[ay,aW,aI]
 have h0:Rel Ids.none T (fun _=>False) p (⟨aV 0 (es.map .d),[],Ids.none,0⟩:St).c ⟨aV 0 (ds.map .d),[]⟩ ⟨aV 0 (es.map .d),[],Ids.none,0⟩:=by
  refine⟨fun t x H=> ?_,⟨rfl,by simp⟩,⟨fun ℓ=>by rw[m];simp,fun ℓ ℓ' a ha=>by rw[m]at ha;simp at ha,fun ℓ a ha=>by rw[m]at ha;simp at ha,fun a ha=>by simp at ha⟩,fun j _=>hz j,fun t H=> ?_,fun a ha=>by simp[Ids.none]at ha⟩
  ·simp only[j4]at H⊢
   simp only[cE,if_true,kb]at H⊢
   exact AV.qb3 Q H
  ·simp only[j4]at H⊢
   simp only[cE,if_true,kb]at H⊢
   rw[xy]at H⊢
   have:=AV.qan Q;omega
 obtain⟨⟨e,s1⟩,h1,M⟩:=aw.1 hx;obtain⟨v1,h3,k⟩:=uj l n sf.pre I _ _ _ _ h0 h1;have K:¬es.length≠sf.np:=by rw[<-DV.qan hf];exact hlen
 have i:∀{e:Ex},(e= .normal)->((bD X lin T n sf.rest s1).bind fun z=>match z.1 with
  | .exit _=>none
  |_=>(fB 0 z.2 sf.results).bind fun q=>match q.1 with
   | .d v=>some v
   |_=>none)=some v->∃u A1,((bF V p n sf.rest v1).bind fun z=>match z.1 with
  | .exit _=>none
  |_=>(finish 0 p z.2 sf.results).bind fun q=>match q.v with
   | .d v=>some (v,q.A)
   |_=>none)=some (u,A1)/\v.fit u/\(v.own u).Nodup/\(∀a,a∈v.own u->A1 a=true)/\∀a,A1 a=true->Fut p 0 a:=by
  intro _ _ hr;obtain⟨⟨J,s2⟩,r1,z⟩:=aw.1 hr;obtain⟨v2,r3,r4⟩:=uj l n sf.rest D _ _ _ _ k r1;have key:((fB 0 s2 sf.results).bind fun q=>match q.1 with
   | .d v=>some v
   |_=>none)=some v->∃u A1,((finish 0 p v2 sf.results).bind fun q=>match q.v with
   | .d v=>some (v,q.A)
   |_=>none)=some (u,A1)/\v.fit u/\(v.own u).Nodup/\(∀a,a∈v.own u->A1 a=true)/\∀a,A1 a=true->Fut p 0 a:=by
   intro hk;obtain⟨⟨w,B'⟩,O,k2⟩:=aw.1 hk;obtain⟨⟨w',Aw,Bw⟩,k3,W⟩:=Ev r4 G O;split at k2
   ·rename_i d hd
    simp only at hd;subst hd
    simp only[aB]at k2;subst k2
    have k5:=W.fit;simp only[AV.fit]at k5;obtain⟨u,rfl,k6⟩:=k5;refine⟨u,Aw,by rw[k3];rfl,k6,?_,fun a ha=> ?_,fun a ha=> ?_⟩
    ·have:=W.held.nodup (.reg 0)
     simp only[ay,eA]at this;simpa[AV.own]using this
    ·exact(W.held.opn (.reg 0) a (by simp only[ay,eA];simpa[AV.own]using ha)).1
    ·rcases W.am a ha with h|h
     ·simp[Ids.none]at h
     ·exact h
   ·simp at k2
  rw[r3,aQ];cases J with
  |exit id=>simp at z
  |normal=>exact key z
  |ret=>exact key z
 unfold kZ;rw[ak K,h3,aQ];simp only at M⊢
 split at M
 ·rename_i x xr S J
  obtain⟨vb,g1,g2⟩:=k.regs _ _ S;simp only[AV.fit,DV.fit]at g2;obtain⟨_,rfl,rfl⟩:=g2;obtain⟨vr,R,N⟩:=k.regs _ _ J;have x1:=N;simp only[AV.fit,DV.fit]at N;obtain⟨_,rfl,g',ys,rfl,Y,C⟩:=N;rcases C with C|⟨_,C⟩
  ·exact absurd C (by decide)
  rcases C with⟨C,_⟩|⟨_,a,sz,rfl,g7⟩
  ·simp at C
  have h5:=Y;simp only[DV.fits]at Y;obtain⟨y,Z,rfl,f1,f2⟩:=Y;obtain⟨w,m1,m2⟩:=aw.1 M;obtain⟨q,m3,m4⟩:=au.1 m2;subst m4;obtain⟨w',n1,n2,n3,n4,n5⟩:=Rb k m1;have o:∀b,b∈a::DV.owns (x::xr) (y::Z)->b∈ay s1.r s1.B v1.r v1.B (.reg sf.row):=by
   intro b hb;simp only[ay,a8,J,R,AV.own,DV.own];rw[ap ⟨rfl,by simp⟩];simpa[Tag.ids]using hb
  have P:(a::DV.owns (x::xr) (y::Z)).Nodup:=by
   have:=k.held.nodup (.reg sf.row);simp only[ay,a8,J,R,AV.own,DV.own]at this;rw[ap ⟨rfl,by simp⟩]at this;simpa[Tag.ids]using this
  obtain⟨r',A1,s3,s4,s5,s6,s7,s8,s9⟩:=QH l (A:=v1.A) (a:=a) (sz:=sz) (q:=(v1.c+1)::p) f1 f2 (fun b hb=>by
   obtain⟨t1,_,t3⟩:=k.held.opn _ b (o b hb);exact⟨t1,fun hF=>t3 (hF.sub.le (bT _))⟩) P g7 m3
  simp only[g1,R];refine⟨.agg [w'.1,w'.2,.sl (.own a sz) r'],Ids.add a A1,by rw[n1,aQ,s3];rfl,?_,?_,fun b hb=> ?_,fun b hb=> ?_⟩
  ·simp only[DV.fit,DV.fits]
   exact⟨_,rfl,_,_,rfl,n2,_,_,rfl,n3,_,_,rfl,⟨_,_,rfl,s4,.inr ⟨rfl,.inr ⟨by omega,_,_,rfl,s6⟩⟩⟩,rfl⟩
  ·simp only[DV.own,DV.owns,n4,n5]
   rw[ap ⟨trivial,by omega⟩];simpa[Tag.ids]using s7
  ·simp only[DV.own,DV.owns,n4,n5]at hb
   rw[ap ⟨trivial,by omega⟩]at hb;simp only[Ids.add,ci,ba];simp[Tag.ids]at hb;rcases hb with rfl|hb
   ·exact .inl rfl
   ·exact .inr (s8 b hb)
  ·have old:∀b,b∈a::DV.owns (x::xr) (y::Z)->Fut p 0 b:=fun b hb=>by
    rcases(k.am b (k.held.opn _ b (o b hb)).1).2 with h|h
    ·simp[Ids.none]at h
    ·exact h
   simp only[Ids.add,ci,ba]at hb;rcases hb with rfl|hb
   ·exact old b (by simp)
   ·rcases s9 b hb with h|h
    ·exact old b (dH _ h)
    ·exact h.sub.le (cE _)
 ·rename_i S
  obtain⟨vb,g1,g2⟩:=k.regs _ _ S;simp only[AV.fit,DV.fit]at g2;obtain⟨_,rfl,rfl⟩:=g2;obtain⟨u,A1,O,k2⟩:=i (e:= .normal) rfl M;exact⟨u,A1,by simp only[g1];exact O,k2⟩
 ·rename_i g S J
  obtain⟨vb,g1,g2⟩:=k.regs _ _ S;simp only[AV.fit,DV.fit]at g2;obtain⟨_,rfl,rfl⟩:=g2;obtain⟨vr,R,N⟩:=k.regs _ _ J;simp only[AV.fit,DV.fit,DV.fits]at N;obtain⟨_,rfl,g',ys,rfl,rfl,C⟩:=N;obtain⟨u,A1,O,k2⟩:=i (e:= .normal) rfl M;exact⟨u,A1,by simp only[g1,R];exact O,k2⟩
 ·simp at M
def oU(g:List DV->Option DV)(gv:Id->List AV->Option (DV×Ids)):Prop:=
 ∀ds v,g ds=some v->∀es p,DV.fits ds es->∃u A1,gv p (es.map .d)=some (u,A1)/\v.fit u/\(v.own u).Nodup/\(∀a,a∈v.own u->A1 a=true)/\∀a,A1 a=true->Fut p 0 a
structure XOK(X:XEnv):Prop where
 code:∀f vf,X.env.code f=some vf->vf.linOK (X.lin f)=true
 nat:∀f g,X.nat f=some g->∃gv,X.env.nat f=some gv/\oU g gv/\X.lin f=[]
 no:∀f,X.nat f=none->X.env.nat f=none
 spec:∀f sf,X.env.spec f=some sf->sf.pre.linOK (X.lin f)=true/\sf.rest.linOK (X.lin f)=true/\cS (X.lin f) (sf.results.flatMap VRes.vx)=true/\(X.lin f).all (fun j=>decide (sf.np<=j))=true
theorem Dy:∀{cs:List AV} {ds:List DV},aM cs=some ds->cs=ds.map .d
 | [],ds,h=>by simp[aM]at h;subst h;rfl
 |v::cs,ds,h=>by
  cases v with
  |d d=>
   simp only[aM]at h;obtain⟨es,a,rfl⟩:=au.1 h;rw[Dy a];rfl
  |_=>simp[aM]at h
theorem E6{xs vs:List AV}{B Bv:ah}{A A1:Ids}{F:Id->Prop}{p:Id}{v u:DV}{R:Option Res}(hh:Held F (Fut p 0) A (ay (aV 0 xs) B (aV 0 vs) Bv))(hb:qbb B Bv)
 (g2:v.fit u) (m:(v.own u).Nodup) (k:∀a,a∈v.own u->A1 a=true) (i:∀a,A1 a=true->Fut p 0 a) (y:R=some ⟨.d u,Ids.or A1 A,Bv⟩):
 ∃w Bv' A',R=some ⟨w,A',Bv'⟩/\(AV.d v).fit w/\qbb B Bv'/\Held F (fun _=>False) A' (ay [(0,.d v)] B [(0,w)] Bv')/\∀a,A' a=true->A a=true\/Fut p 0 a:=by
 refine⟨.d u,Bv,Ids.or A1 A,y,by simp only[AV.fit];exact⟨_,rfl,g2⟩,hb,⟨fun ℓ=> ?_,fun ℓ ℓ' a ha b=> ?_,fun ℓ a ha=> ?_,fun a ha=>⟨by simp[Ids.or,(hh.fr a ha).1],id⟩⟩,fun a ha=> ?_⟩
 ·cases ℓ with
  |reg t=>simp only[ay,eA];split
          ·exact m
          ·simp
  |box j=>exact hh.nodup (.box j)
 ·have key:∀a j,a∈v.own u->a∉aW B Bv j:=fun a j e l=>(hh.opn (.box j) a l).2.2 (i a (k a e))
  cases ℓ with
  |reg t=>
   simp only[ay,eA]at ha;split at ha
   ·rename_i h;subst h
    cases ℓ' with
    |reg o=>
     simp only[ay,eA]at b;split at b
     ·rename_i h;subst h;rfl
     ·simp at b
    |box j=>exact absurd b (key a j ha)
   ·simp at ha
  |box j=>
   cases ℓ' with
   |reg o=>
    simp only[ay,eA]at b;split at b
    ·exact absurd ha (key a j b)
    ·simp at b
   |box q=>exact hh.apart (.box j) (.box q) a ha b
 ·cases ℓ with
  |reg t=>
   simp only[ay,eA]at ha;split at ha
   ·have e:=k a ha
    exact⟨by simp[Ids.or,e],fun x=>(hh.fr a x).2 (i a e),id⟩
   ·simp at ha
  |box j=>
   obtain⟨r,n,_⟩:=hh.opn (.box j) a ha;exact⟨by simp[Ids.or,r],n,id⟩
 ·simp only[Ids.or,ci]at ha
  rcases ha with ha|ha
  ·exact .inr (i a ha)
  ·exact .inl ha
theorem E5{X:XEnv}(Q:XOK X):∀n,gr (ch X n) (dJ X.env n) X.lin:=by
 intro n
 induction n with
 |zero=>intro f xs B v' B' h;simp[ch]at h
 |succ n R=>
  intro f xs B v' B' hx p vs Bv A F N hb hh hl b1;simp only[ch]at hx;split at hx
  ·rename_i g S
   obtain⟨gv,h1,I,H⟩:=Q.nat f g S;obtain⟨ds,y,J⟩:=aw.1 hx;obtain⟨v,z,l⟩:=au.1 J;simp at l;obtain⟨rfl,rfl⟩:=l
   obtain⟨es,K,e2,e3⟩:=jO y N;have hvs:vs=es.map .d:=by
    clear hx N hh hl e2 e3 y
    induction vs generalizing es with
    |nil=>simp[aM]at K;subst K;rfl
    |cons u us R=>
     cases u with
     |d d=>
      simp only[aM]at K;obtain⟨es',H,rfl⟩:=au.1 K;rw[R es' H];rfl
     |_=>simp[aM]at K
   obtain⟨u,A1,g1,g2,g3,g4,g5⟩:=I ds v z es p e2;refine E6 hh hb g2 g3 g4 g5 ?_;simp only[dJ,h1,K,aQ];rw[hvs,g1];rfl
  ·rename_i S
   split at hx
   ·rename_i C
    split at hx
    ·simp at hx
    rename_i sf hs;obtain⟨ds,y,J⟩:=aw.1 hx;obtain⟨v,z,l⟩:=au.1 J;simp at l;obtain⟨rfl,rfl⟩:=l
    obtain⟨es,K,e2,e3⟩:=jO y N;have Y:=Dy y;have hvs:=Dy K;obtain⟨l1,l2,l3,l4⟩:=Q.spec f sf hs;have O:ds.length=sf.np:=by
     unfold io at z;split at z
     ·simp at z
     ·rename_i hn;simpa using hn
    obtain⟨u,A1,g1,g2,g3,g4,g5⟩:=YV R (p:=p) e2 l1 l2 l3 (fun j=>by
     rw[<-Y,<-hvs]
     by_cases hj:(X.lin f).contains j=true
     ·have V:=bu.1 l4 j (by simpa using hj)
      simp only[ba]at V;rw[mV];rw[Y,f8 (by simp;omega)]
     ·exact hl j (by simpa using hj)) z
    refine E6 hh hb g2 g3 g4 g5 ?_;simp only[dJ,Q.no f S,C,hs,K,aQ,g1];rfl
   ·rename_i vf C
    split at hx
    ·simp at hx
    ·rename_i O
     split at hx
     case h_2 m hbm=>
      split at hx
      ·simp at hx
      rename_i x1;obtain⟨⟨e,s1⟩,h1,I⟩:=aw.1 hx;have k:=Q.code f vf C;simp only[VFn.linOK,aF]at k;have hlen:=AV.qan N;obtain⟨x2,hco⟩:=AV.qbh _ _ N;have a1:qbb (fx B) Bv:=by
       refine⟨by simp[fx,hb.1],fun i=>⟨fun h=> ?_,fun cs h=> ?_⟩⟩
       ·simp only[fx,cH]at h
        obtain⟨o,H,y⟩:=au.1 h;cases o with
        |none=>exact(hb.2 i).1 H
        |some c=>simp at y
       ·simp only[fx,cH]at h
        obtain⟨o,H,y⟩:=au.1 h;cases o with
        |none=>simp at y
        |some c=>
         simp only[bz,aB]at y;subst y;obtain⟨ds,J,z⟩:=(hb.2 i).2 c H;exact⟨ds,J,(AV.qbh _ _ z).1⟩
      have W:∀j,a8 (aV 0 (AV.clrs xs)) (aV 0 vs) j=[]:=by
       intro j;rw[mV,AV.qax,cH];cases xs[j]? with
       |none=>rfl
       |some a=>cases vs[j]? with
        |none=>rfl
        |some b=>simp[AV.qbC]
      have x3:∀j,aW (fx B) Bv j=[]:=by
       intro j;unfold aW;split
       ·rename_i cs ds Z q2
        have q3:=iH.1 Z;simp only[fx,cH]at q3;obtain⟨o,q4,q5⟩:=au.1 q3;cases o with
        |none=>simp at q5
        |some c=>
         simp only[bz,aB]at q5;subst q5;obtain⟨b2,q6,q7⟩:=(hb.2 j).2 c q4;have:=iH.1 q2;rw[q6]at this;simp only[aB]at this;subst this
         exact(AV.qbh _ _ q7).2
       ·rfl
      have G:∀ℓ,ay (aV 0 (AV.clrs xs)) (fx B) (aV 0 vs) Bv ℓ=[]:=by
       intro ℓ;cases ℓ with
       |reg t=>exact W t
       |box j=>exact x3 j
      have h0:Rel Ids.none (X.lin f) (fun _=>False) p 0 ⟨aV 0 (AV.clrs xs),fx B⟩ ⟨aV 0 vs,Bv,Ids.none,0⟩:=by
       refine⟨fun t x w=> ?_,a1,⟨fun ℓ=>by rw[G];simp,fun ℓ ℓ' a ha=>by rw[G]at ha;simp at ha,fun ℓ a ha=>by rw[G]at ha;simp at ha,fun a ha=>by simp at ha⟩,fun t _=>W t,fun t w=> ?_,fun a ha=>by simp[Ids.none]at ha⟩
       ·simp only[j4]at w⊢
        simp only[cE,if_true,kb]at w⊢
        exact AV.qb3 x2 w
       ·simp only[j4]at w⊢
        simp only[cE,if_true,kb]at w⊢
        rw[xy]at w⊢
        rw[AV.qcW]at w;omega
      obtain⟨v1,H,y⟩:=uj (sv:=⟨aV 0 vs,Bv,Ids.none,0⟩) R n vf.code k.1 _ _ _ h0 h1;have hc:(∀id,e≠.exit id)->dJ X.env (n+1) p f vs Bv A=(finish Bv.length p v1 vf.results).map fun q=>⟨q.v,Ids.or q.A A,q.B⟩:=by
       intro P;rw[dJ];simp only[Q.no f S,C,hbm];rw[ak (by rw[<-hlen];exact O),ak (by rw[<-hb.1];exact x1),H];cases e with
       |exit id=>exact absurd rfl (P id)
       |normal=>rfl
       |ret=>rfl
      have D:∀{v' B'},fB B.length s1 vf.results=some (v',B')->(∀id,e≠.exit id)->∃v Bv' A',dJ X.env (n+1) p f vs Bv A=some ⟨v,A',Bv'⟩/\v'.fit v/\qbb B' Bv'/\Held F (fun _=>False) A' (ay [(0,v')] B' [(0,v)] Bv')/\∀a,A' a=true->A a=true\/Fut p 0 a:=by
       intro v' B' J he;obtain⟨r,z,l⟩:=Ev y k.2 J;have M:∀a,r.A a=true->Fut p 0 a:=fun a ha=>by
        rcases l.am a ha with V|V
        ·simp[Ids.none]at V
        ·exact V
       refine⟨r.v,r.B,Ids.or r.A A,?_,l.fit,l.boxes,⟨l.held.nodup,l.held.apart,fun ℓ a ha=> ?_,fun a ha=>⟨by simp[Ids.or,(hh.fr a ha).1],id⟩⟩,fun a ha=> ?_⟩
       ·rw[hc he]
        rw[hb.1]at z;rw[z];rfl
       ·obtain⟨Z,_,_⟩:=l.held.opn ℓ a ha
        exact⟨by simp[Ids.or,Z],fun hF=>(hh.fr a hF).2 (M a Z),id⟩
       ·simp only[Ids.or,ci]at ha
        rcases ha with ha|ha
        ·exact .inr (M a ha)
        ·exact .inl ha
      cases e with
      |exit id=>simp at I
      |normal=>exact D I (fun id h=>by simp at h)
      |ret=>exact D I (fun id h=>by simp at h)
     rename_i a2;obtain⟨⟨e,s1⟩,h1,I⟩:=aw.1 hx;have k:=Q.code f vf C;simp only[VFn.linOK,aF]at k;have hlen:=AV.qan N;have h0:Rel A (X.lin f) F p 0 ⟨aV 0 xs,B⟩ ⟨aV 0 vs,Bv,A,0⟩:=by
      refine⟨fun t x w=> ?_,hb,hh,hl,fun t w=> ?_,fun a ha=>⟨b1 a ha,.inl ha⟩⟩
      ·simp only[j4]at w⊢
       simp only[cE,if_true,kb]at w⊢
       exact AV.qb3 N w
      ·simp only[j4]at w⊢
       simp only[cE,if_true,kb]at w⊢
       rw[xy]at w⊢
       omega
     obtain⟨v1,H,y⟩:=uj (sv:=⟨aV 0 vs,Bv,A,0⟩) R n vf.code k.1 _ _ _ h0 h1;have hc:(∀id,e≠.exit id)->dJ X.env (n+1) p f vs Bv A=finish Bv.length p v1 vf.results:=by
      intro P;rw[dJ];simp only[Q.no f S,C,a2];rw[ak (by rw[<-hlen];exact O),H];cases e with
      |exit id=>exact absurd rfl (P id)
      |normal=>rfl
      |ret=>rfl
     have D:∀{v' B'},fB B.length s1 vf.results=some (v',B')->(∀id,e≠.exit id)->∃v Bv' A',dJ X.env (n+1) p f vs Bv A=some ⟨v,A',Bv'⟩/\v'.fit v/\qbb B' Bv'/\Held F (fun _=>False) A' (ay [(0,v')] B' [(0,v)] Bv')/\∀a,A' a=true->A a=true\/Fut p 0 a:=by
      intro v' B' J he;obtain⟨r,z,l⟩:=Ev y k.2 J;refine⟨r.v,r.B,r.A,?_,l.fit,l.boxes,l.held,l.am⟩;rw[hc he,<-hb.1,z]
     cases e with
     |exit id=>simp at I
     |normal=>exact D I (fun id h=>by simp at h)
     |ret=>exact D I (fun id h=>by simp at h)
end
def iQ(c c':bM):Prop:=∀f as B r,c f as B=some r->c' f as B=some r
theorem Lj{c c':bM}(h:iQ c c')(lin:Nat->List Nat)(T:List Nat)(draw:Bool)(L0:Nat)(o:VOper):gf (aT c lin T draw L0 o) (aT c' lin T draw L0 o):=by
 intro s r a;obtain⟨dst,op,g,af⟩:=o;cases op
 case call iso f args=>
  simp only[aT]at a⊢
  split at a
  ·rename_i k caps vs h1 e
   split at a
   ·rename_i b
    simp only[b,if_true];split at a
    ·rename_i j
     split at a
     ·rename_i hc
      rw[h _ _ _ _ hc];exact a
     ·simp at a
    ·simp at a
   ·rename_i b
    simp only[b];split at a
    ·rename_i hd
     rw[ap hd];split at a
     ·rename_i hc
      rw[h _ _ _ _ hc];exact a
     ·simp at a
    ·simp at a
  ·simp at a
 case callS cc f args=>
  simp only[aT]at a⊢
  split at a
  ·split at a
   ·simp at a
   rename_i hb;rw[ak hb];obtain⟨ds,h1,a⟩:=aw.1 a;obtain⟨cs,e,a⟩:=aw.1 a;obtain⟨es,i,a⟩:=aw.1 a;rw[h1,aQ,e,aQ,i,aQ];split at a
   ·rename_i hc
    rw[h _ _ _ _ hc];exact a
   ·simp at a
  ·simp at a
 all_goals exact a
theorem jL{c c':bM}(h:iQ c c')(lin:Nat->List Nat)(T:List Nat)(draw:Bool)(L0:Nat)(os:List VOper):gf (bd c lin T draw L0 os) (bd c' lin T draw L0 os):=by
 induction os with
 |nil=>intro s r a;exact a
 |cons o os b=>
  intro s r a;simp only[bd]at a⊢
  split at a
  ·obtain⟨s1,h1,e⟩:=aw.1 a
   exact aw.2 ⟨s1,Lj h lin T draw L0 o s s1 h1,b _ _ e⟩
  ·exact b _ _ a
  ·simp at a
theorem J0{c c':bM}(h:iQ c c')(lin:Nat->List Nat)(T:List Nat)(draw:Bool)(na:Nat)(live:List Nat)(ops:List VOper):gf (iA c lin T draw na live ops) (iA c' lin T draw na live ops):=by
 intro s r a;unfold iA at a⊢
 split
 ·simp_all
 ·rename_i hd
  simp only[hd]at a;obtain⟨s1,h1,b⟩:=au.1 a;exact au.2 ⟨s1,jL h lin T draw _ ops _ _ h1,b⟩
theorem F9{c c':bM}(h:iQ c c')(lin:Nat->List Nat)(T:List Nat)(draw:Bool)(L0:Nat)(fs:List FOper):gf (eK c lin T draw L0 fs) (eK c' lin T draw L0 fs):=by
 induction fs with
 |nil=>intro s r a;exact a
 |cons f fs b=>
  intro s r a;simp only[eK]at a⊢
  obtain⟨s1,h1,e⟩:=aw.1 a;obtain⟨s2,j,i⟩:=aw.1 e;exact aw.2 ⟨s1,jL h lin T draw L0 f.pre _ _ h1,aw.2 ⟨s2,j,b _ _ i⟩⟩
theorem G_{c c':bM}(h:iQ c c')(lin:Nat->List Nat)(T:List Nat)(draw:Bool)(na:Nat)(live:List Nat)(fs:List FOper):gf (jf c lin T draw na live fs) (jf c' lin T draw na live fs):=by
 intro s r a;unfold jf at a⊢
 split
 ·simp_all
 ·rename_i hd
  simp only[hd]at a;obtain⟨s1,h1,b⟩:=au.1 a;exact au.2 ⟨s1,F9 h lin T draw _ fs _ _ h1,b⟩
theorem we{f g:XS->Option (Ex×XS)}(h:gf f g)(L1:Nat)(live:List Nat):∀n m,n<=m->gf (fl f L1 live n) (fl g L1 live m):=by
 intro n
 induction n with
 |zero=>intro m _ s r a;simp[fl]at a
 |succ n b=>
  intro m hm s r a;obtain⟨m,rfl⟩:∃k,m=k+1:=⟨m-1,by omega⟩;simp only[fl]at a⊢
  obtain⟨s0,i,a⟩:=aw.1 a;obtain⟨⟨e,s1⟩,h1,a⟩:=aw.1 a;refine aw.2 ⟨s0,i,aw.2 ⟨(e,s1),h _ _ h1,?_⟩⟩;cases e with
  |normal=>exact b m (by omega) _ _ a
  |exit id=>exact a
  |ret=>exact a
theorem gN{c c':bM}(h:iQ c c')(lin:Nat->List Nat)(T:List Nat){n m:Nat}(hn:n<=m)(vc:VCode):gf (bD c lin T n vc) (bD c' lin T m vc):=by
 induction vc with
 |skip=>intro s r i;exact i
 |ret=>intro s r i;exact i
 |exit id=>intro s r i;exact i
 |seq a b k l=>
  intro s r i;simp only[bD]at i⊢
  obtain⟨⟨e,s1⟩,h1,i⟩:=aw.1 i;refine aw.2 ⟨(e,s1),k _ _ h1,?_⟩;cases e with
  |normal=>exact l _ _ i
  |exit id=>exact i
  |ret=>exact i
 |region draw na live ops=>
  intro s r i;simp only[bD]at i⊢
  obtain⟨s1,h1,j⟩:=au.1 i;exact au.2 ⟨s1,J0 h lin T draw na live ops _ _ h1,j⟩
 |regionF draw na live fs=>
  intro s r i;simp only[bD]at i⊢
  obtain⟨s1,h1,j⟩:=au.1 i;exact au.2 ⟨s1,G_ h lin T draw na live fs _ _ h1,j⟩
 |cond x a b k l=>
  intro s r i;simp only[bD]at i⊢
  split at i
  ·exact k _ _ i
  ·exact l _ _ i
  ·simp at i
 |block id q o=>
  intro s r i;simp only[bD]at i⊢
  obtain⟨s1,h1,j⟩:=au.1 i;exact au.2 ⟨s1,o _ _ h1,j⟩
 |loop live q o=>
  intro s r i;simp only[bD]at i⊢
  exact we o _ _ n m hn _ _ i
 |ghost x q o=>
  intro s r i;simp only[bD]at i⊢
  obtain⟨s1,h1,j⟩:=aw.1 i;exact aw.2 ⟨s1,h1,o _ _ j⟩
 |regionT na live pre tl=>
  intro s r i;simp only[bD]at i⊢
  obtain⟨s1,h1,j⟩:=au.1 i;refine au.2 ⟨s1,?_,j⟩;unfold kl at h1⊢
  split
  ·rename_i hd;rw[ap hd]at h1;simp at h1
  ·rename_i hd
   rw[ak hd]at h1;obtain⟨s2,z,w⟩:=aw.1 h1;obtain⟨t,y,u⟩:=au.1 w;exact aw.2 ⟨s2,jL h lin T true _ pre _ _ z,au.2 ⟨t,jL h lin T false _ tl _ _ y,u⟩⟩
theorem Dp{c c':bM}(h:iQ c c')(sf:SFn)(x:DV)(xr:List DV):∀r,gI c sf x xr=some r->gI c' sf x xr=some r:=by
 intro r a;unfold gI at a⊢
 split at a
 ·rename_i hc
  rw[ap hc];split at a
  ·rename_i v cs b
   rw[h _ _ _ _ b];exact a
  ·simp at a
 ·simp at a
theorem YW{c c':bM}(h:iQ c c'){n m:Nat}(hn:n<=m)(lin:Nat->List Nat)(T:List Nat)(sf:SFn)(ds:List DV):∀r,io c lin T n sf ds=some r->io c' lin T m sf ds=some r:=by
 intro r j;unfold io at j⊢
 split at j
 ·simp at j
 rename_i hlen;rw[ak hlen];obtain⟨⟨e,s⟩,h1,a⟩:=aw.1 j;refine aw.2 ⟨(e,s),gN h lin T hn sf.pre _ _ h1,?_⟩;simp only at a⊢
 split at a
 ·rename_i x xr k t
  obtain⟨y,o,l⟩:=aw.1 a;obtain⟨q,i,b⟩:=au.1 l;exact aw.2 ⟨y,o,au.2 ⟨q,Dp h _ _ _ _ i,b⟩⟩
 ·rename_i k
  obtain⟨q,i,b⟩:=aw.1 a;exact aw.2 ⟨q,gN h lin T hn sf.rest _ _ i,b⟩
 ·rename_i g k t
  obtain⟨q,i,b⟩:=aw.1 a;exact aw.2 ⟨q,gN h lin T hn sf.rest _ _ i,b⟩
 ·simp at a
theorem VD(X:XEnv):∀n,iQ (ch X n) (ch X (n+1)):=by
 intro n
 induction n with
 |zero=>intro f as B r a;simp[ch]at a
 |succ n h=>
  intro f as B r a;rw[ch]at a⊢
  split
  ·rename_i g i
   rw[i]at a;exact a
  ·rename_i i
   simp only[i]at a;split
   ·rename_i e
    simp only[e]at a;split
    ·rename_i hs;simp[hs]at a
    ·rename_i sf hs
     simp only[hs]at a;obtain⟨ds,h1,b⟩:=aw.1 a;obtain⟨q,l,k⟩:=au.1 b;exact aw.2 ⟨ds,h1,au.2 ⟨q,YW h (bT n) _ _ sf ds _ l,k⟩⟩
   ·rename_i vf e
    simp only[e]at a;split at a
    ·simp at a
    ·rename_i j
     rw[ak j];split at a
     ·rename_i hb
      obtain⟨s1,h1,b⟩:=aw.1 a;exact aw.2 ⟨s1,gN h _ _ (bT n) vf.code _ _ h1,b⟩
     ·rename_i m hb
      split at a
      ·simp at a
      rename_i hm;rw[ak hm];obtain⟨s1,h1,b⟩:=aw.1 a;exact aw.2 ⟨s1,gN h _ _ (bT n) vf.code _ _ h1,b⟩
theorem fz(X:XEnv){n m:Nat}(h:n<=m):iQ (ch X n) (ch X m):=by
 induction h with
 |refl=>intro f as B r a;exact a
 |step _ b=>intro f as B r a;exact VD X _ _ _ _ _ (b _ _ _ _ a)
noncomputable def al(X:XEnv):bM:=fun f as B=>lim fun n=>ch X n f as B
noncomputable def aH(X:XEnv)(T:List Nat)(c:VCode)(s:XS):Option (Ex×XS):=lim fun n=>bD (ch X n) X.lin T n c s
theorem iD{X:XEnv}{f:Nat}{as:List AV}{B:ah}{r:AV×ah}:al X f as B=some r↔∃n,ch X n f as B=some r:=
 xI (fun n m r h a=>fz X h _ _ _ _ a) r
theorem cY{X:XEnv}{T:List Nat}{c:VCode}{s:XS}{r:Ex×XS}:aH X T c s=some r↔∃n,bD (ch X n) X.lin T n c s=some r:=
 xI (fun n m r h a=>gN (fz X h) _ _ h c _ _ a) r
theorem pI(X:XEnv)(n:Nat):iQ (ch X n) (al X):=fun _ _ _ _ h=>iD.2 ⟨n,h⟩
theorem QG(X:XEnv)(T:List Nat)(draw:Bool)(L0:Nat)(o:VOper)(s r:XS)(a:aT (al X) X.lin T draw L0 o s=some r):∃n,aT (ch X n) X.lin T draw L0 o s=some r:=by
 obtain⟨dst,op,g,af⟩:=o;cases op
 case call iso f args=>
  simp only[aT]at a⊢
  split at a
  ·rename_i k caps vs h1 e
   split at a
   ·rename_i b
    simp only[b,if_true];split at a
    ·rename_i i
     split at a
     ·rename_i hc
      obtain⟨n,hn⟩:=iD.1 hc;exact⟨n,by rw[hn];exact a⟩
     ·simp at a
    ·simp at a
   ·rename_i b
    simp only[b];split at a
    ·rename_i hd
     split at a
     ·rename_i hc
      obtain⟨n,hn⟩:=iD.1 hc;exact⟨n,by rw[ap hd,hn];exact a⟩
     ·simp at a
    ·simp at a
  ·simp at a
 case callS cc f args=>
  simp only[aT]at a⊢
  split at a
  ·split at a
   ·simp at a
   rename_i hb;obtain⟨ds,h1,a⟩:=aw.1 a;obtain⟨cs,e,a⟩:=aw.1 a;obtain⟨es,h,a⟩:=aw.1 a;split at a
   ·rename_i hc
    obtain⟨n,hn⟩:=iD.1 hc;exact⟨n,by rw[ak hb,h1,aQ,e,aQ,h,aQ,hn];exact a⟩
   ·simp at a
  ·simp at a
 all_goals exact⟨0,a⟩
theorem x9(X:XEnv)(T:List Nat)(draw:Bool)(L0:Nat)(os:List VOper):∀s r,bd (al X) X.lin T draw L0 os s=some r->∃n,bd (ch X n) X.lin T draw L0 os s=some r:=by
 induction os with
 |nil=>intro s r a;exact⟨0,a⟩
 |cons o os b=>
  intro s r a;simp only[bd]at a⊢
  split at a
  ·obtain⟨s1,h1,e⟩:=aw.1 a
   obtain⟨n,hn⟩:=QG X T draw L0 o s s1 h1;obtain⟨m,hm⟩:=b _ _ e;exact⟨Nat.max n m,aw.2 ⟨s1,Lj (fz X (iJ n m)) _ _ _ _ _ _ _ hn,jL (fz X (hO n m)) _ _ _ _ _ _ _ hm⟩⟩
  ·exact b _ _ a
  ·simp at a
theorem Le(X:XEnv)(T:List Nat)(draw:Bool)(na:Nat)(live:List Nat)(ops:List VOper)(s:XS):
 aH X T (.region draw na live ops) s=(iA (al X) X.lin T draw na live ops s).map fun s'=>(.normal,s'):=by
 refine jd fun r=> ?_
 rw[cY];constructor
 ·rintro⟨n,hn⟩
  simp only[bD]at hn;obtain⟨s1,h1,a⟩:=au.1 hn;exact au.2 ⟨s1,J0 (pI X n) _ _ _ _ _ _ _ _ h1,a⟩
 ·intro h
  obtain⟨s1,h1,a⟩:=au.1 h;unfold iA at h1;split at h1
  ·simp at h1
  ·rename_i hd
   obtain⟨s2,e,b⟩:=au.1 h1;obtain⟨n,hn⟩:=x9 _ _ _ _ _ _ _ e;refine⟨n,?_⟩;simp only[bD];refine au.2 ⟨s1,?_,a⟩;unfold iA;rw[ak hd];exact au.2 ⟨s2,hn,b⟩
theorem Z7(X:XEnv)(T:List Nat)(s:XS):aH X T .skip s=some (.normal,s):=cY.2 ⟨0,rfl⟩
theorem Nr(X:XEnv)(T:List Nat)(s:XS):aH X T .ret s=some (.ret,s):=cY.2 ⟨0,rfl⟩
theorem YL(X:XEnv)(T:List Nat)(id:Nat)(s:XS):aH X T (.exit id) s=some (.exit id,s):=cY.2 ⟨0,rfl⟩
def lp(r:Option (Ex×XS))(k:XS->Option (Ex×XS)):Option (Ex×XS):=
 r.bind fun r=>match r.1 with
  | .normal=>k r.2
  |_=>some r
theorem mC(X:XEnv)(T:List Nat)(a b:VCode)(s:XS):aH X T (.seq a b) s=lp (aH X T a s) (aH X T b):=by
 refine jd fun r=> ?_
 unfold lp;rw[cY];constructor
 ·rintro⟨n,hn⟩
  simp only[bD]at hn;obtain⟨⟨e,s1⟩,h1,i⟩:=aw.1 hn;refine aw.2 ⟨(e,s1),cY.2 ⟨n,h1⟩,?_⟩;cases e with
  |normal=>exact cY.2 ⟨n,i⟩
  |exit id=>exact i
  |ret=>exact i
 ·intro h
  obtain⟨⟨e,s1⟩,h1,i⟩:=aw.1 h;obtain⟨n,hn⟩:=cY.1 h1;cases e with
  |normal=>
   obtain⟨m,hm⟩:=cY.1 i;refine⟨Nat.max n m,?_⟩;simp only[bD];exact aw.2 ⟨_,gN (fz X (iJ n m)) _ _ (iJ n m) _ _ _ hn,gN (fz X (hO n m)) _ _ (hO n m) _ _ _ hm⟩
  |exit id=>exact⟨n,by simp only[bD];exact aw.2 ⟨_,hn,i⟩⟩
  |ret=>exact⟨n,by simp only[bD];exact aw.2 ⟨_,hn,i⟩⟩
theorem XU(X:XEnv)(T:List Nat)(x:VX)(a b:VCode)(s:XS):
 aH X T (.cond x a b) s=match aY s.r x with
  |some (.d (.bool true))=>aH X T a s
  |some (.d (.bool false))=>aH X T b s
  |_=>none:=by
 unfold aH;split<;>simp only[bD, *]
 unfold lim;split
 ·rename_i h;obtain⟨n,hn⟩:=h;simp at hn
 ·rfl
theorem Qz(X:XEnv)(T:List Nat)(id:Nat)(c:VCode)(s:XS):
 aH X T (.block id c) s=(aH X T c s).map fun r=>if r.1= .exit id then(.normal,r.2)else r:=by
 refine jd fun r=> ?_
 rw[cY];constructor
 ·rintro⟨n,hn⟩
  simp only[bD]at hn;obtain⟨s1,h1,a⟩:=au.1 hn;exact au.2 ⟨s1,cY.2 ⟨n,h1⟩,a⟩
 ·intro h
  obtain⟨s1,h1,a⟩:=au.1 h;obtain⟨n,hn⟩:=cY.1 h1;exact⟨n,by simp only[bD];exact au.2 ⟨s1,hn,a⟩⟩
noncomputable def bV(X:XEnv)(T:List Nat)(L1:Nat)(live:List Nat)(c:VCode)(s:XS):Option (Ex×XS):=lim fun n=>fl (bD (ch X n) X.lin T n c) L1 live n s
theorem CV{X:XEnv}{T:List Nat}{L1:Nat}{live:List Nat}{c:VCode}{s:XS}{r:Ex×XS}:bV X T L1 live c s=some r↔∃n,fl (bD (ch X n) X.lin T n c) L1 live n s=some r:=
 xI (fun n m r h a=>we (gN (fz X h) _ _ h c) _ _ n m h _ _ a) r
theorem Yc(X:XEnv)(T:List Nat)(live:List Nat)(c:VCode)(s:XS):aH X T (.loop live c) s=bV X T s.B.length live c s:=rfl
theorem lX(X:XEnv)(T:List Nat)(L1:Nat)(live:List Nat)(c:VCode)(s:XS):
 bV X T L1 live c s=(aE L1 live s).bind fun s0=>lp (aH X T c s0) (bV X T L1 live c):=by
 refine jd fun r=> ?_
 unfold lp;rw[CV];constructor
 ·rintro⟨n,hn⟩
  cases n with
  |zero=>simp[fl]at hn
  |succ n=>
   simp only[fl]at hn;obtain⟨s0,b,hn⟩:=aw.1 hn;obtain⟨⟨e,s1⟩,h1,a⟩:=aw.1 hn;refine aw.2 ⟨s0,b,aw.2 ⟨(e,s1),cY.2 ⟨n+1,h1⟩,?_⟩⟩;cases e with
   |normal=>exact CV.2 ⟨n+1,we (fun _ _ h=>h) _ _ n (n+1) (bT n) _ _ a⟩
   |exit id=>exact a
   |ret=>exact a
 ·intro h
  obtain⟨s0,b,h⟩:=aw.1 h;obtain⟨⟨e,s1⟩,h1,a⟩:=aw.1 h;obtain⟨n,hn⟩:=cY.1 h1;have one:∀m,n<=m->bD (ch X m) X.lin T m c s0=some (e,s1):=fun m hm=>gN (fz X hm) _ _ hm c _ _ hn
  cases e with
  |normal=>
   obtain⟨m,hm⟩:=CV.1 a;refine⟨n+m+1,?_⟩;simp only[fl];refine aw.2 ⟨s0,b,aw.2 ⟨(.normal,s1),one _ (by omega),?_⟩⟩;exact we (gN (fz X (by omega)) _ _ (by omega) c) _ _ m _ (by omega) _ _ hm
  |exit id=>
   refine⟨n+1,?_⟩;simp only[fl];exact aw.2 ⟨s0,b,aw.2 ⟨(.exit id,s1),one _ (by omega),a⟩⟩
  |ret=>
   refine⟨n+1,?_⟩;simp only[fl];exact aw.2 ⟨s0,b,aw.2 ⟨(.ret,s1),one _ (by omega),a⟩⟩
theorem qy0(X:XEnv)(f:Nat)(as:List AV)(B:ah)(vf:VFn)(hn:X.nat f=none)(e:X.env.code f=some vf)(hb:X.env.base f=none)(a:as.length=vf.np):
 al X f as B=(aH X (X.lin f) vf.code ⟨aV 0 as,B⟩).bind fun r=>
  match r.1 with
  | .exit _=>none
  |_=>fB B.length r.2 vf.results:=by
 refine jd fun r=> ?_
 rw[iD];constructor
 ·rintro⟨n,h⟩
  cases n with
  |zero=>simp[ch]at h
  |succ n=>
   rw[ch]at h;simp only[hn,e,hb]at h;rw[ak (by simp[a])]at h;obtain⟨s1,h1,b⟩:=aw.1 h;exact aw.2 ⟨s1,cY.2 ⟨n,h1⟩,b⟩
 ·intro h
  obtain⟨s1,h1,b⟩:=aw.1 h;obtain⟨n,i⟩:=cY.1 h1;refine⟨n+1,?_⟩;rw[ch];simp only[hn,e,hb];rw[ak (by simp[a])];exact aw.2 ⟨s1,i,b⟩
theorem Ul(X:XEnv)(f:Nat)(as:List AV)(B:ah)(vf:VFn)(hn:X.nat f=none)(e:X.env.code f=some vf){m:Nat}(hb:X.env.base f=some m)(hm:B.length=m)(a:as.length=vf.np):
 al X f as B=(aH X (X.lin f) vf.code ⟨aV 0 (AV.clrs as),fx B⟩).bind fun r=>
  match r.1 with
  | .exit _=>none
  |_=>fB B.length r.2 vf.results:=by
 refine jd fun r=> ?_
 rw[iD];constructor
 ·rintro⟨n,h⟩
  cases n with
  |zero=>simp[ch]at h
  |succ n=>
   rw[ch]at h;simp only[hn,e,hb]at h;rw[ak (by simp[a]),ak (by simp[hm])]at h;obtain⟨s1,h1,b⟩:=aw.1 h;exact aw.2 ⟨s1,cY.2 ⟨n,h1⟩,b⟩
 ·intro h
  obtain⟨s1,h1,b⟩:=aw.1 h;obtain⟨n,i⟩:=cY.1 h1;refine⟨n+1,?_⟩;rw[ch];simp only[hn,e,hb];rw[ak (by simp[a]),ak (by simp[hm])];exact aw.2 ⟨s1,i,b⟩
theorem Q7(X:XEnv)(T:List Nat)(draw:Bool)(L0:Nat):∀(fs:List FOper) (s r:XS),eK (al X) X.lin T draw L0 fs s=some r->∃n,eK (ch X n) X.lin T draw L0 fs s=some r:=by
 intro fs
 induction fs with
 |nil=>intro s r a;exact⟨0,a⟩
 |cons f fs b=>
  intro s r a;simp only[eK]at a⊢
  obtain⟨s1,h1,e⟩:=aw.1 a;obtain⟨s2,i,h⟩:=aw.1 e;obtain⟨n,hn⟩:=x9 _ _ _ _ _ _ _ h1;obtain⟨m,hm⟩:=b _ _ h;exact⟨Nat.max n m,aw.2 ⟨s1,jL (fz X (iJ n m)) _ _ _ _ _ _ _ hn,aw.2 ⟨s2,i,F9 (fz X (hO n m)) _ _ _ _ _ _ _ hm⟩⟩⟩
theorem KX(X:XEnv)(T:List Nat)(draw:Bool)(na:Nat)(live:List Nat)(fs:List FOper)(s:XS):aH X T (.regionF draw na live fs) s=(jf (al X) X.lin T draw na live fs s).map fun s'=>(.normal,s'):=by
 refine jd fun r=> ?_
 rw[cY];constructor
 ·rintro⟨n,hn⟩
  simp only[bD]at hn;obtain⟨s1,h1,a⟩:=au.1 hn;exact au.2 ⟨s1,G_ (pI X n) _ _ _ _ _ _ _ _ h1,a⟩
 ·intro h
  obtain⟨s1,h1,a⟩:=au.1 h;unfold jf at h1;split at h1
  ·simp at h1
  ·rename_i hd
   obtain⟨s2,e,b⟩:=au.1 h1;obtain⟨n,hn⟩:=Q7 _ _ _ _ _ _ _ e;refine⟨n,?_⟩;simp only[bD];refine au.2 ⟨s1,?_,a⟩;unfold jf;rw[ak hd];exact au.2 ⟨s2,hn,b⟩
theorem XY(X:XEnv)(T:List Nat)(na:Nat)(live:List Nat)(pre tl:List VOper)(s:XS):aH X T (.regionT na live pre tl) s=(kl (al X) X.lin T na live pre tl s).map fun s'=>(.normal,s'):=by
 refine jd fun r=> ?_
 rw[cY];constructor
 ·rintro⟨n,hn⟩
  simp only[bD]at hn;obtain⟨s1,h1,i⟩:=au.1 hn;refine au.2 ⟨s1,?_,i⟩;unfold kl at h1⊢
  split at h1
  ·simp at h1
  ·rename_i hd
   rw[ak hd];obtain⟨s2,k,e⟩:=aw.1 h1;obtain⟨b,j,a⟩:=au.1 e;exact aw.2 ⟨s2,jL (pI X n) _ _ _ _ _ _ _ k,au.2 ⟨b,jL (pI X n) _ _ _ _ _ _ _ j,a⟩⟩
 ·intro h
  obtain⟨s1,h1,i⟩:=au.1 h;unfold kl at h1;split at h1
  ·simp at h1
  ·rename_i hd
   obtain⟨s2,k,e⟩:=aw.1 h1;obtain⟨b,j,a⟩:=au.1 e;obtain⟨n,hn⟩:=x9 _ _ _ _ _ _ _ k;obtain⟨m,hm⟩:=x9 _ _ _ _ _ _ _ j;refine⟨Nat.max n m,?_⟩;simp only[bD];refine au.2 ⟨s1,?_,i⟩;unfold kl;rw[ak hd];exact aw.2 ⟨s2,jL (fz X (iJ n m)) _ _ _ _ _ _ _ hn,au.2 ⟨b,jL (fz X (hO n m)) _ _ _ _ _ _ _ hm,a⟩⟩
theorem T_(X:XEnv)(T:List Nat)(x:Gho)(c:VCode)(s:XS):aH X T (.ghost x c) s=(fp x s).bind (aH X T c):=by
 refine jd fun r=> ?_
 rw[cY];constructor
 ·rintro⟨n,h⟩
  simp only[bD]at h;obtain⟨s1,h1,a⟩:=aw.1 h;exact aw.2 ⟨s1,h1,cY.2 ⟨n,a⟩⟩
 ·intro h
  obtain⟨s1,h1,a⟩:=aw.1 h;obtain⟨n,hn⟩:=cY.1 a;exact⟨n,by simp only[bD];exact aw.2 ⟨s1,h1,hn⟩⟩
theorem uH(X:XEnv)(f:Nat)(as:List AV)(B:ah)(g:List DV->Option DV)(hn:X.nat f=some g):
 al X f as B=(aM as).bind fun ds=>(g ds).map fun v=>(.d v,B):=by
 refine jd fun r=> ?_
 rw[iD];constructor
 ·rintro⟨n,h⟩
  cases n with
  |zero=>simp[ch]at h
  |succ n=>rw[ch]at h;simpa only[hn]using h
 ·intro h
  exact⟨1,by rw[ch];simpa only[hn]using h⟩
noncomputable def jY(X:XEnv)(T:List Nat)(sf:SFn)(ds:List DV):Option DV:=
 if ds.length≠sf.np then none else
  (aH X T sf.pre ⟨aV 0 (ds.map .d),[]⟩).bind fun r=>
   match r.1,lk r.2.r sf.cond,lk r.2.r sf.row with
   | .normal,some (.d (.bool true)),some (.d (.sl (.own [] 0) (x::xr)))=>
    (mZ r.2).bind fun y=>(gI (al X) sf x xr).map fun q=> .agg [y.1,y.2,.sl U q]
   | .normal,some (.d (.bool false)),_| .normal,some (.d (.bool true)),some (.d (.sl _ []))=>
    (aH X T sf.rest r.2).bind fun a=>
     match a.1 with
     | .exit _=>none
     |_=>(fB 0 a.2 sf.results).bind fun q=>match q.1 with
      | .d v=>some v
      |_=>none
   |_,_,_=>none
theorem TX(X:XEnv)(sf:SFn)(x:DV)(xr:List DV):∀r,gI (al X) sf x xr=some r->∃n,gI (ch X n) sf x xr=some r:=by
 intro r a;unfold gI at a⊢
 split at a
 ·rename_i hc
  split at a
  ·rename_i v cs b
   obtain⟨n,hn⟩:=iD.1 b;exact⟨n,by rw[ap hc,hn];exact a⟩
  ·simp at a
 ·simp at a
theorem Jr{X:XEnv}{T:List Nat}{sf:SFn}{ds:List DV}{r:DV}:jY X T sf ds=some r↔∃n,io (ch X n) X.lin T n sf ds=some r:=by
 constructor
 ·intro j
  unfold jY at j;split at j
  ·simp at j
  rename_i hlen;obtain⟨⟨e,s⟩,h1,a⟩:=aw.1 j;obtain⟨n,hn⟩:=cY.1 h1;have two:∀m,∀{q:Ex×XS},bD (ch X m) X.lin T m sf.rest s=some q->bD (ch X (Nat.max n m)) X.lin T (Nat.max n m) sf.rest s=some q:=fun m q t=>gN (fz X (hO n m)) _ _ (hO n m) _ _ _ t
  have one:∀m,bD (ch X (Nat.max n m)) X.lin T (Nat.max n m) sf.pre ⟨aV 0 (ds.map .d),[]⟩=some (e,s):=fun m=>gN (fz X (iJ n m)) _ _ (iJ n m) _ _ _ hn
  simp only at a;split at a
  ·rename_i x xr i k
   obtain⟨y,o,l⟩:=aw.1 a;obtain⟨q,h,b⟩:=au.1 l;obtain⟨m,hm⟩:=TX X _ _ _ _ h;refine⟨Nat.max n m,?_⟩;unfold io;rw[ak hlen,one m];simp only[aQ,i,k];exact aw.2 ⟨y,o,au.2 ⟨q,Dp (fz X (hO n m)) _ _ _ _ hm,b⟩⟩
  ·rename_i i
   obtain⟨q,h,b⟩:=aw.1 a;obtain⟨m,hm⟩:=cY.1 h;refine⟨Nat.max n m,?_⟩;unfold io;rw[ak hlen,one m];simp only[aQ,i];exact aw.2 ⟨q,two m hm,b⟩
  ·rename_i g i k
   obtain⟨q,h,b⟩:=aw.1 a;obtain⟨m,hm⟩:=cY.1 h;refine⟨Nat.max n m,?_⟩;unfold io;rw[ak hlen,one m];simp only[aQ,i,k];exact aw.2 ⟨q,two m hm,b⟩
  ·simp at a
 ·rintro⟨n,j⟩
  unfold io at j;unfold jY;split at j
  ·simp at j
  rename_i hlen;rw[ak hlen];obtain⟨⟨e,s⟩,h1,a⟩:=aw.1 j;refine aw.2 ⟨(e,s),cY.2 ⟨n,h1⟩,?_⟩;simp only at a⊢
  split at a
  ·rename_i x xr i k
   obtain⟨y,o,l⟩:=aw.1 a;obtain⟨q,h,b⟩:=au.1 l
   try simp only[i,k]
   exact aw.2 ⟨y,o,au.2 ⟨q,Dp (pI X n) _ _ _ _ h,b⟩⟩
  ·rename_i i
   obtain⟨q,h,b⟩:=aw.1 a
   try simp only[i]
   exact aw.2 ⟨q,cY.2 ⟨n,h⟩,b⟩
  ·rename_i g i k
   obtain⟨q,h,b⟩:=aw.1 a
   try simp only[i,k]
   exact aw.2 ⟨q,cY.2 ⟨n,h⟩,b⟩
  ·simp at a
theorem Ss(X:XEnv)(f:Nat)(as:List AV)(B:ah)(sf:SFn)(hn:X.nat f=none)(i:X.env.code f=none)(hs:X.env.spec f=some sf):
 al X f as B=(aM as).bind fun ds=>(jY X (X.lin f) sf ds).map fun v=>(.d v,B):=by
 refine jd fun r=> ?_
 rw[iD];constructor
 ·rintro⟨n,h⟩
  cases n with
  |zero=>simp[ch]at h
  |succ n=>
   rw[ch]at h;simp only[hn,i,hs]at h;obtain⟨ds,h1,b⟩:=aw.1 h;obtain⟨q,e,a⟩:=au.1 b;exact aw.2 ⟨ds,h1,au.2 ⟨q,Jr.2 ⟨n,e⟩,a⟩⟩
 ·intro h
  obtain⟨ds,h1,b⟩:=aw.1 h;obtain⟨q,e,a⟩:=au.1 b;obtain⟨n,j⟩:=Jr.1 e;refine⟨n+1,?_⟩;rw[ch];simp only[hn,i,hs];exact aw.2 ⟨ds,h1,au.2 ⟨q,j,a⟩⟩
theorem P6{X:XEnv}(l:XOK X){f:Nat}{xs vs:List DV}(hc:DV.clrs xs=xs)(m:DV.fits xs vs){d:DV}{B':ah}(hd:d.clr=d)(h:al X f (xs.map .d) []=some (.d d,B')):
 ∃u A Bv,oX X.env [] f (vs.map .d) [] Ids.none=some ⟨.d u,A,Bv⟩/\d.fit u:=by
 obtain⟨n,hn⟩:=iD.1 h;have o:AV.fits (xs.map .d) (vs.map .d):=AV.qip m;have i:∀j,a8 (aV 0 (xs.map AV.d)) (aV 0 (vs.map AV.d)) j=[]:=by
  intro j;rw[mV];split
  ·rename_i a b ha hb
   have:=AV.qcw ha hb;rw[AV.qin,<-hc,DV.qdW]at this;exact od.1 this
  ·rfl
 have e:∀ℓ,ay (aV 0 (xs.map AV.d)) [] (aV 0 (vs.map AV.d)) [] ℓ=[]:=by
  intro ℓ;cases ℓ with
  |reg t=>exact i t
  |box j=>simp[ay,aW,aI]
 obtain⟨v,Bv,A',h1,k,_⟩:=E5 l n f _ _ _ _ hn [] (vs.map .d) [] Ids.none (fun _=>False) o ⟨rfl,by simp⟩
  ⟨fun ℓ=>by rw[e];simp,fun ℓ ℓ' a ha=>by rw[e]at ha;simp at ha,fun ℓ a ha=>by rw[e]at ha;simp at ha,fun a ha=>by simp at ha⟩ (fun j _=>i j) (fun a ha=>by simp[Ids.none]at ha)
 simp only[AV.fit]at k;obtain⟨y,rfl,q⟩:=k;exact⟨y,A',Bv,JK.2 ⟨n,h1⟩,q⟩
def AA(b:Option Bool)(c:bM)(lin:Nat->List Nat)(T:List Nat)(d:Bool)(L:Nat)(o:VOper)(os:List VOper)(s:XS):Option XS:=
 match b with
 |some true=>(aT c lin T d L o s).bind (bd c lin T d L os)
 |some false=>bd c lin T d L os (aS T s o.dst .und)
 |none=>none
def Iv(r:Option XS)(c:bM)(lin:Nat->List Nat)(T:List Nat)(d:Bool)(L:Nat)(os:List VOper):Option XS:=r.bind (bd c lin T d L os)
def bO(live:List Nat)(r:Option XS):Option (Ex×XS):=r.map fun s'=>(.normal,⟨keep s'.r live,s'.B⟩)
def JP(id:Nat)(r:Option (Ex×XS)):Option (Ex×XS):=r.map fun r=>if r.1= .exit id then(.normal,r.2)else r
noncomputable def EB(v:Option AV)(X:XEnv)(T:List Nat)(a b:VCode)(s:XS):Option (Ex×XS):=
 match v with
 |some (.d (.bool true))=>aH X T a s
 |some (.d (.bool false))=>aH X T b s
 |_=>none
def qQ(L:Nat)(rs:List VRes)(r:Option (Ex×XS)):Option (AV×ah):=
 r.bind fun r=>match r.1 with
  | .exit _=>none
  |_=>fB L r.2 rs
def iW(T:List Nat)(s:XS)(dst:Option Nat)(v:Option AV):Option XS:=v.map fun v=>aS T s dst v
def eu(T:List Nat)(s:XS)(dst:Option Nat)(v:Option AV):Option XS:=v.map fun v=>aS T s dst v.clr
def wE(T:List Nat)(s:XS)(dst:Option Nat)(v:Option DV):Option XS:=v.map fun v=>aS T s dst (.d v)
def CP(T:List Nat)(s:XS)(dst:Option Nat)(B:Option ah):Option XS:=B.map fun B=>aS T ⟨s.r,B⟩ dst .und
def Jw(T:List Nat)(dst:Option Nat)(s:XS)(v:Option (List DV)):Option XS:=v.map fun xs=>aS T s dst (.d (.sl U xs))
def Hz(T:List Nat)(dst:Option Nat)(s:XS)(a b:VX)(v:Option AV):Option XS:=
 match v with
 |some (.d (.bool true))=>(aY s.r a).map fun v=>aS T (dV T dst s [a]) dst v
 |some (.d (.bool false))=>(aY s.r b).map fun v=>aS T (dV T dst s [b]) dst v
 |_=>none
def Kt(T:List Nat)(dst:Option Nat)(sz bytes:Nat)(x y:VX)(s:XS)(v w:Option AV):Option XS:=
 match v,w with
 |some (.d v),some (.d w)=>(cG sz bytes v w).map fun u=>aS T ⟨c7 T s.r (if cu T dst then [x,y]else [x]),s.B⟩ dst (.d u)
 |_,_=>none
def Ix(T:List Nat)(L:Nat)(dst:Option Nat)(k:Nat)(x:VX)(s:XS)(v:Option AV):Option XS:=
 v.bind fun v=>if ct s.B (L+k)/\v.cells.all AV.isCell/\v.safe (L+k)then some (aS T ⟨ey T s.r x,s.B.set (L+k) (some v.cells)⟩ dst (.ptr (L+k) 0))else none
def EI(T:List Nat)(dst:Option Nat)(sz n:Nat)(g:Tag)(xs:List DV)(k:Nat)(s:XS)(e:Option DV):Option XS:=
 e.bind fun e=>if e.cells.length=sz/\sz≠0 then some (aS T (if T.contains n then⟨(n,.d (.sl g (xs.set k e.clr)))::s.r,s.B⟩else s) dst (.ep e.cells))else none
def G7(T:List Nat)(dst:Option Nat)(sz n:Nat)(s:XS)(v w:Option AV):Option XS:=
 match v,w with
 |some (.d (.sl g xs)),some (.d (.int _ k))=>if 0<=k then EI T dst sz n g xs k.toNat s (xs[k.toNat]?)else none
 |_,_=>none
def wK(T:List Nat)(d:Bool)(L:Nat)(dst:Option Nat)(agg:Bool)(sz:Nat)(x:VX)(s:XS)(a:Option AV):Option XS:=
 match a with
 |some (.ep cs)=>(cut agg sz cs).map fun v=>aS T (dV T dst s [x]) dst (.d v)
 |some (.ptr b off)=>if d/\L<=b then none else(aG s.B agg sz b off).map fun v=>aS T (if cu T dst then⟨s.r,gG s.B b off (if agg then sz else 1)⟩else s) dst v
 |_=>none
def K7(T:List Nat)(d:Bool)(L:Nat)(dst:Option Nat)(init:Bool)(sz:Nat)(x:VX)(s:XS)(a v:Option AV):Option XS:=
 match a,v with
 |some (.ptr b off),some v=>if fq d init L b then none else(fZ s.B sz b off v).map fun B=>aS T ⟨ey T s.r x,B⟩ dst .und
 |_,_=>none
def I3(T:List Nat)(d:Bool)(L:Nat)(dst:Option Nat)(sz:Nat)(x:VX)(av:List Nat)(s:XS)(a v:Option AV):Option XS:=
 match a,v with
 |some (.ptr b off),some v=>if fq d false L b|| !et s.r b av then none else(fZ s.B sz b off v).map fun B=>aS T ⟨ey T s.r x,B⟩ dst .und
 |_,_=>none
def Jz(b:Nat):Option AV->Bool
 |some (.ptr a _)=>a !=b
 |_=>false
theorem PP(r:List (Nat×AV))(b:Nat):et r b []=true:=ax rfl
theorem Nw(r:List (Nat×AV))(b t:Nat)(av:List Nat):et r b (t::av)=(Jz b (lk r t)&&et r b av):=by
 unfold et;simp only[fM];congr 1
theorem Nv(b a off:Nat):Jz b (some (.ptr a off))=(a !=b):=ax rfl
def rF(T:List Nat)(dst:Option Nat)(n i:Nat)(s:XS)(v:Option AV):Option XS:=
 match v with
 |some (.ag true vs)=>(vs[i]?).map fun v=>aS T s dst v.clr
 |some (.d (.tup vs))=>(vs[i]?).map fun v=>aS T (if cu T dst&&T.contains n then⟨(n,.d (.tup (vs.set i v.clr)))::s.r,s.B⟩else s) dst (.d v)
 |_=>none
def Je(T:List Nat)(d:Bool)(L:Nat)(dst:Option Nat)(k sz bytes:Nat)(z:DV)(s:XS)(v:Option AV):Option XS:=
 match v with
 |some (.d (.int _ n))=>
  if d=false/\ct s.B (L+k)/\0<=n/\n.toNat*bytes<=140737488355328/\n<9223372036854775808/\z.cells.length=sz/\z.cells.all DV.isCell then
   some (aS T ⟨s.r,s.B.set (L+k) (some (((List.replicate n.toNat z.cn).flatMap DV.cells).map .d))⟩ dst (.bsl [] (isAgg z) (L+k) sz n.toNat))else none
 |_=>none
def uh(c:bM)(T:List Nat)(dst:Option Nat)(s:XS)(f:Option AV)(vs:Option (List AV)):Option XS:=
 match f,vs with
 |some (.fn k caps),some vs=>
  match aM vs,caps with
  |some _,[]=>
   match c k (cK [] 0 vs) []with
   |some (.d v,_)=>some (aS T s dst (.d v))
   |_=>none
  |_,_=>none
 |_,_=>none
def BW(T:List Nat)(dst:Option Nat)(s:XS)(ds:Option (List DV))(r:Option (AV×ah)):Option XS:=
 match ds with
 |some _=>
  match r with
  |some (.d v,_)=>some (aS T s dst (.d v))
  |_=>none
 |none=>none
def yB(T:List Nat)(dst:Option Nat)(s:XS)(xs:List VX)(b:Bool)(r:Option (AV×ah)):Option XS:=
 if b then
  match r with
  |some (v,B)=>some (aS T ⟨c7 T s.r xs,B⟩ dst v)
  |none=>none
 else none
def xN(c:bM)(lin:Nat->List Nat)(T:List Nat)(dst:Option Nat)(s:XS)(args:List VX)(f:Option AV)(vs:Option (List AV)):Option XS:=
 match f,vs with
 |some (.fn k caps),some vs=>yB T dst s (dr (lin k) 0 args) (cS T (dr (lin k) 0 args)) (c k (cK (lin k) 0 vs++caps) s.B)
 |_,_=>none
def BK(T:List Nat)(dst:Option Nat)(thaw:Bool)(s:XS)(r:Option (AV×ah)):Option XS:=
 match r with
 |some (.d v,_)=>nW T thaw s dst v
 |_=>none
def wV(c:bM)(T:List Nat)(dst:Option Nat)(thaw:Bool)(s:XS)(k:Nat)(ds:Option (List DV)):Option XS:=ds.bind fun ds=>BK T dst thaw s (c k (cK [] 0 (ds.map .d)) [])
def xT(c:bM)(T:List Nat)(d:Bool)(dst:Option Nat)(thaw:Bool)(s:XS)(f:Option AV)(vs:Option (List AV)):Option XS:=
 match f,vs with
 |some (.fn k []),some vs=>if d=false\/thaw=false then wV c T dst thaw s k (cp (AV.frz s.B) vs)else none
 |_,_=>none
def Gk(d:Option DV)(ds:Option (List DV)):Option (List DV):=d.bind fun d=>ds.map (d::·)
def sj(v:Option AV)(vs:Option (List AV)):Option (List AV):=match v,vs with|some v,some vs=>some (v::vs)|_,_=>none
def B7(v:DV)(vs:Option (List DV)):Option (List DV):=vs.map (v::·)
def dO(a:Option DV):Option AV:=a.map .d
def ug(v:Option AV):Option AV:=match v with|some (.ptr i o)=>some (.ptr i o)|some (.ep cs)=>some (.ep cs)|some (.fn f c)=>some (.fn f c)|_=>none
def H_(op:BinOp)(x y:Option AV):Option AV:=match x,y with|some (.d a),some (.d b)=>(eR op a b).map .d|_,_=>none
def CH(neg:Bool)(ks:List Nat)(x y:Option AV):Option AV:=match x,y with|some (.d (.agg a)),some (.d (.agg b))=>(dR ks a b).map fun e=> ar (if neg then !e else e)|_,_=>none
def Gb(neg:Bool)(x y:Option AV):Option AV:=match x,y with|some (.d (.bool a)),some (.d (.bool b))=>some (ar (if neg then !(a==b)else(a==b)))|_,_=>none
def Ho(x:Option AV):Option AV:=match x with|some (.d (.bool b))=>some (.d (.bool !b))|_=>none
def Kp(k:IntKind)(x:Option AV):Option AV:=match x with|some (.d (.int _ n))=>some (.d (.int k (k.wrap n)))|_=>none
def Ll(x:Option AV):Option AV:=match x with|some (.d (.int _ n))=>some (.d (.str (Utf8.encode n)))|_=>none
def H2(x:Option AV):Option AV:=match x with|some (.d (.sl _ xs))=>(bytesOf xs).map fun bs=> .d (.str ⟨bs.toArray⟩)|_=>none
def IK(x i:Option AV):Option AV:=match x,i with|some (.d (.str s)),some (.d (.int _ n))=>if 0<=n then(mL s n.toNat).map fun b=> .d (.int .u8 b)else none|_,_=>none
def pu(sz:Nat)(x i:Option AV):Option AV:=
 match x,i with
 |some (.d (.sl _ xs)),some (.d (.int _ n))=>if 0<=n then(xs[n.toNat]?).bind fun e=>if e.cells.length=sz/\sz≠0 then some (.ep e.cells)else none else none
 |some (.bsl _ _ b a m),some (.d (.int _ n))=>if a=sz/\0<=n/\n<m then some (.ptr b (n.toNat*sz))else none
 |some (.tsl _ b a m),some (.d (.int _ n))=>if a=sz/\0<=n/\n<m then some (.ptr b (n.toNat*sz))else none
 |_,_=>none
def A6(sz:Nat)(e:Option DV):Option AV:=e.bind fun e=>if e.cells.length=sz/\sz≠0 then some (.ep e.cells)else none
def Bn(sz m:Nat)(x i:Option AV):Option AV:=
 match x,i with
 |some (.ptr b o),some (.d (.int _ n))=>if 0<=n/\n<m then some (.ptr b (o+n.toNat*sz))else none
 |some (.ep cs),some (.d (.int _ n))=>if 0<=n/\n<m/\n.toNat*sz<=cs.length then some (.ep (cs.drop (n.toNat*sz)))else none
 |_,_=>none
def BA(off:Nat)(x:Option AV):Option AV:=match x with|some (.ptr b o)=>some (.ptr b (o+off))|some (.ep cs)=>if off<=cs.length then some (.ep (cs.drop off))else none|_=>none
def nZ(str:Bool)(x:Option AV):Option AV:=
 match str,x with
 |true,some (.d (.str s))=>some (aa s.size)
 |false,some (.d (.sl _ xs))=>some (aa xs.length)
 |false,some (.bsl _ _ _ _ n)=>some (aa n)
 |false,some (.tsl _ _ _ n)=>some (aa n)
 |_,_=>none
def uL(str:Bool)(sz:Nat)(x:Option AV)(lo hi:Option (Option AV)):Option AV:=
 match str,x,lo,hi with
 |true,some (.d (.str s)),some lo,some hi=>(en s.size hi).bind fun h=>(em h lo).map fun l=> .d (.str (s.extract l h))
 |false,some (.d (.sl g xs)),some lo,some hi=>if xs.all (fun e=>e.cells.length=sz)then(en xs.length hi).bind fun h=>(em h lo).map fun l=> .d (.sl (if g= .nil then .nil else .sub) ((xs.take h).drop l))else none
 |_,_,_,_=>none
def Dl(g:VX->Option AV)(cs:List DV)(off size:Nat)(r:List (Nat×Nat×VX))(v:Option AV):Option (List DV):=
 match v with
 |some (.d v)=>if v.cells.length=size/\off+size<=cs.length/\v.cells.all DV.isCell then dS g (splice cs off v.cells) r else none
 |_=>none
def D3(g:VX->Option AV)(sz:Nat)(cs:List DV)(i:Nat)(r:List (Nat×VX))(v:Option AV):Option (List DV):=
 match v with
 |some (.d v)=>if v.cells.length=sz/\i<cs.length/\v.cells.all DV.isCell then cF g sz (cs.set i v) r else none
 |_=>none
def AM(T:List Nat)(dst:Option Nat)(s:XS)(b:Nat)(q:Option (AV×ah)):Option XS:=
 match q with
 |some (.d v,[some cs'])=>(aM cs').map fun _=>aS T ⟨s.r,s.B.set b (some (AV.clrs cs'))⟩ dst (.d v)
 |_=>none
def Cl(c:bM)(T:List Nat)(dst:Option Nat)(s:XS)(f:Option AV)(as:Option (List AV))(q:Option AV):Option XS:=
 match f,as,q with
 |some (.fn k []),some (.ptr b off::vs),some (.ptr a _)=>if b≠a then none else(aM vs).bind fun _=>(aI s.B b).bind fun cs=>(aM cs).bind fun _=>AM T dst s b (c k (.ptr 0 off::cK [] 0 vs) [some (AV.clrs cs)])
 |_,_,_=>none
def JR(T:List Nat)(d:Bool)(L:Nat)(dst:Option Nat)(agg:Bool)(sz:Nat)(s:XS)(a q:Option AV):Option XS:=
 match a,q with
 |some (.ptr b off),some (.ptr e _)=>if b=e\/(d/\L<=b)then none else iW T (if cu T dst then⟨s.r,gG s.B b off (if agg then sz else 1)⟩else s) dst (aG s.B agg sz b off)
 |_,_=>none
def C_(c:bM)(lin:Nat->List Nat)(T:List Nat)(L:Nat)(live:List Nat)(tl:List VOper)(o:Option XS):Option (Ex×XS):=
 match o with
 |some s=>bO live (bd c lin T false L tl s)
 |none=>none
theorem JH(c:bM)(lin:Nat->List Nat)(T:List Nat)(L:Nat)(live:List Nat)(tl:List VOper)(s:XS):C_ c lin T L live tl (some s)=bO live (bd c lin T false L tl s):=ax rfl
theorem WH(X:XEnv)(T:List Nat)(na:Nat)(live:List Nat)(pre tl:List VOper)(h:ip pre=true)(r:List (Nat×AV))(B:ah):
 aH X T (.regionT na live pre tl) ⟨r,B⟩=C_ (al X) X.lin T B.length live tl (bd (al X) X.lin T true B.length pre ⟨r,B++List.replicate na none⟩):=by
 rw[XY];unfold kl;rw[ak (by rw[h];simp)];simp only;cases bd (al X) X.lin T true B.length pre ⟨r,B++List.replicate na none⟩with
 |none=>rfl
 |some s=>
  simp only[aQ,JH];cases bd (al X) X.lin T false B.length tl s<;>rfl
def Lm(T:List Nat)(d:Bool)(dst:Option Nat)(sz bytes:Nat)(x v:VX)(t9:Nat)(s:XS)(a b c e:Option AV):Option XS:=
 match a,b,c,e with
 |some (.d (.sl g xs)),some (.d (.sl _ [z])),some (.d (.int _ n)),some (.d w)=>
  if d=false/\n=xs.length/\z.cells.length=sz/\z.cells.all DV.isCell=true/\w.cells.length=sz/\w.cells.all DV.isCell=true/\lk s.r t9=none then
   (cG sz bytes (.sl g xs) (.sl .sub [w])).map fun u=>aS T ⟨c7 T s.r (if cu T dst then [x,v]else [x]),s.B⟩ dst (.d u)
  else none
 |_,_,_,_=>none
theorem NU(c:bM)(lin:Nat->List Nat)(T:List Nat)(d:Bool)(L:Nat)(o:VOper)(os:List VOper)(s:XS):bd c lin T d L (o::os) s=AA (cJ s.r o.guard) c lin T d L o os s:=ax rfl
theorem YH(c:bM)(lin:Nat->List Nat)(T:List Nat)(d:Bool)(L:Nat)(s:XS):bd c lin T d L [] s=some s:=ax rfl
theorem MW(c:bM)(lin:Nat->List Nat)(T:List Nat)(d:Bool)(L:Nat)(o:VOper)(os:List VOper)(s:XS):AA (some true) c lin T d L o os s=Iv (aT c lin T d L o s) c lin T d L os:=ax rfl
theorem UA(c:bM)(lin:Nat->List Nat)(T:List Nat)(d:Bool)(L:Nat)(o:VOper)(os:List VOper)(s:XS):AA (some false) c lin T d L o os s=bd c lin T d L os (aS T s o.dst .und):=ax rfl
theorem UN(s:XS)(c:bM)(lin:Nat->List Nat)(T:List Nat)(d:Bool)(L:Nat)(os:List VOper):Iv (some s) c lin T d L os=bd c lin T d L os s:=ax rfl
theorem MN(X:XEnv)(T:List Nat)(na:Nat)(live:List Nat)(ops:List VOper)(r:List (Nat×AV))(B:ah):
 aH X T (.region false na live ops) ⟨r,B⟩=bO live (bd (al X) X.lin T false B.length ops ⟨r,B++List.replicate na none⟩):=by
 rw[Le];simp[iA,bO,kD]
theorem cm(X:XEnv)(T:List Nat)(na:Nat)(live:List Nat)(ops:List VOper)(h:ip ops=true)(r:List (Nat×AV))(B:ah):
 aH X T (.region true na live ops) ⟨r,B⟩=bO live (bd (al X) X.lin T true B.length ops ⟨r,B++List.replicate na none⟩):=by
 rw[Le];simp[iA,bO,kD,h]
theorem UV(live:List Nat)(r:List (Nat×AV))(B:ah):bO live (some ⟨r,B⟩)=some (.normal,⟨keep r live,B⟩):=ax rfl
theorem I6(X:XEnv)(T:List Nat)(id:Nat)(c:VCode)(s:XS):aH X T (.block id c) s=JP id (aH X T c s):=Qz X T id c s
theorem Oq(id:Nat)(e:Ex)(s:XS):JP id (some (e,s))=some (if e= .exit id then(.normal,s)else(e,s)):=ax rfl
theorem U3(X:XEnv)(T:List Nat)(x:VX)(a b:VCode)(s:XS):aH X T (.cond x a b) s=EB (aY s.r x) X T a b s:=by rw[XU];rfl
theorem Or(X:XEnv)(T:List Nat)(a b:VCode)(s:XS):EB (some (ar true)) X T a b s=aH X T a s:=ax rfl
theorem Wj(X:XEnv)(T:List Nat)(a b:VCode)(s:XS):EB (some (ar false)) X T a b s=aH X T b s:=ax rfl
theorem pk(X:XEnv)(f:Nat)(as:List AV)(B:ah)(vf:VFn)(hn:X.nat f=none)(b:X.env.code f=some vf)(a:as.length=vf.np)(hb:X.env.base f=none:=by first|rfl|assumption):
 al X f as B=qQ B.length vf.results (aH X (X.lin f) vf.code ⟨aV 0 as,B⟩):=qy0 X f as B vf hn b hb a
theorem Gc(X:XEnv)(f:Nat)(as:List AV)(B:ah)(vf:VFn)(hn:X.nat f=none)(b:X.env.code f=some vf)(a:as.length=vf.np){m:Nat}(hb:X.env.base f=some m)(hm:B.length=m):
 al X f as B=qQ B.length vf.results (aH X (X.lin f) vf.code ⟨aV 0 (AV.clrs as),fx B⟩):=Ul X f as B vf hn b hb hm a
theorem Ab(X:XEnv)(T:List Nat)(x:Gho)(c:VCode)(s:XS):aH X T (.ghost x c) s=(fp x s).bind (aH X T c):=T_ X T x c s
theorem RG(L:Nat)(rs:List VRes)(s:XS):qQ L rs (some (.ret,s))=fB L s rs:=ax rfl
theorem NJ(L:Nat)(rs:List VRes)(s:XS):qQ L rs (some (.normal,s))=fB L s rs:=ax rfl
theorem HA(s:XS)(k:XS->Option (Ex×XS)):lp (some (.normal,s)) k=k s:=ax rfl
theorem Jp(s:XS)(k:XS->Option (Ex×XS)):lp (some (.ret,s)) k=some (.ret,s):=ax rfl
theorem Wu(id:Nat)(s:XS)(k:XS->Option (Ex×XS)):lp (some (.exit id,s)) k=some (.exit id,s):=ax rfl
section
variable (c:bM) (lin:Nat->List Nat) (T:List Nat) (d:Bool) (L:Nat) (dst:Option Nat) (g:Option (Nat×Bool)) (af:List Nat) (s:XS)
theorem VT(x:VX):aT c lin T d L ⟨dst,.move x,g,af⟩ s=iW T (dV T dst s [x]) dst (aY s.r x):=ax rfl
theorem Xb(z:List DV)(ps:List (Nat×Nat×VX)):aT c lin T d L ⟨dst,.build z ps,g,af⟩ s=iW T (dV T dst s (ps.map fun q=>q.2.2)) dst ((dS (aY s.r) (z.map DV.cn1) ps).map fun cs=> .d (.agg cs)):=by
 simp only[aT,iW,A_];rfl
theorem We(x:VX):aT c lin T d L ⟨dst,.nilCheck x,g,af⟩ s=eu T s dst (aA s.r (.nilCheck x)):=ax rfl
theorem Ye(op:BinOp)(x y:VX):aT c lin T d L ⟨dst,.bin op x y,g,af⟩ s=eu T s dst (aA s.r (.bin op x y)):=ax rfl
theorem MO(neg:Bool)(ks:List Nat)(x y:VX):aT c lin T d L ⟨dst,.eqAgg neg ks x y,g,af⟩ s=eu T s dst (aA s.r (.eqAgg neg ks x y)):=ax rfl
theorem Mw(neg:Bool)(x y:VX):aT c lin T d L ⟨dst,.eqB neg x y,g,af⟩ s=eu T s dst (aA s.r (.eqB neg x y)):=ax rfl
theorem UU(x:VX):aT c lin T d L ⟨dst,.not x,g,af⟩ s=eu T s dst (aA s.r (.not x)):=ax rfl
theorem Vq(k:Conv)(x:VX):aT c lin T d L ⟨dst,.conv k x,g,af⟩ s=eu T s dst (aA s.r (.conv k x)):=ax rfl
theorem Nq(x y:VX):aT c lin T d L ⟨dst,.index x y,g,af⟩ s=eu T s dst (aA s.r (.index x y)):=ax rfl
theorem Xl(sz:Nat)(n:Nat)(y:VX):aT c lin T d L ⟨dst,.indexAddr sz none (.t n) y,g,af⟩ s=if cu T dst then G7 T dst sz n s (lk s.r n) (aY s.r y)else eu T s dst (aA s.r (.indexAddr sz none (.t n) y)):=by
 simp only[aT,p_];cases hl:cu T dst with
 |true=>rfl
 |false=>rfl
theorem M6(sz m:Nat)(x y:VX):aT c lin T d L ⟨dst,.indexAddr sz (some m) x y,g,af⟩ s=eu T s dst (aA s.r (.indexAddr sz (some m) x y)):=by
 simp only[aT,p_];cases hl:cu T dst<;>cases x<;>rfl
theorem Og(sz:Nat)(v:AV)(y:VX):aT c lin T d L ⟨dst,.indexAddr sz none (.c v) y,g,af⟩ s=eu T s dst (aA s.r (.indexAddr sz none (.c v) y)):=by
 simp only[aT,p_];cases hl:cu T dst<;>rfl
theorem Sa(off:Nat)(x:VX):aT c lin T d L ⟨dst,.fieldAddr off x,g,af⟩ s=eu T s dst (aA s.r (.fieldAddr off x)):=ax rfl
theorem Z8(str:Bool)(sz:Nat)(x:VX)(lo hi:Option VX):aT c lin T d L ⟨dst,.slice str sz x lo hi,g,af⟩ s=eu T s dst (aA s.r (.slice str sz x lo hi)):=ax rfl
theorem qw0(f:Nat)(cs:List VX):aT c lin T d L ⟨dst,.makeFunc f cs,g,af⟩ s=eu T s dst (aA s.r (.makeFunc f cs)):=ax rfl
theorem Zt(str:Bool)(x:VX):aT c lin T d L ⟨dst,.len str x,g,af⟩ s=eu T s dst (aA s.r (.len str x)):=ax rfl
theorem WP(v:AV):eu T s dst (some v)=some (aS T s dst v.clr):=ax rfl
theorem SF(v:AV):iW T s dst (some v)=some (aS T s dst v):=ax rfl
theorem YQ(r:List (Nat×AV))(B:ah)(n:Nat)(v:AV):aS T ⟨r,B⟩ (some n) v=⟨(n,if T.contains n then v else v.clr)::r,B⟩:=ax rfl
theorem UO(v:AV):aS T s none v=s:=ax rfl
theorem LX(r:List (Nat×AV))(B:ah)(xs:List VX):dV T dst ⟨r,B⟩ xs=if cu T dst then⟨c7 T r xs,B⟩else⟨r,B⟩:=ax rfl
theorem Tt(k:Nat)(z:List DV):aT c lin T d L ⟨dst,.alloc k z,g,af⟩ s=if ct s.B (L+k)/\z.all DV.isCell then some (aS T ⟨s.r,s.B.set (L+k) (some (z.map fun z=> .d z.cn1))⟩ dst (.ptr (L+k) 0))else none:=ax rfl
theorem Ot(x a b:VX):aT c lin T d L ⟨dst,.pick x a b,g,af⟩ s=Hz T dst s a b (aY s.r x):=ax rfl
theorem OT(sz bytes:Nat)(x y:VX):aT c lin T d L ⟨dst,.append sz bytes x y,g,af⟩ s=Kt T dst sz bytes x y s (aY s.r x) (aY s.r y):=ax rfl
theorem TO(k:Nat)(x:VX):aT c lin T d L ⟨dst,.box k x,g,af⟩ s=Ix T L dst k x s (aY s.r x):=ax rfl
theorem QM(agg:Bool)(sz:Nat)(a:VX):aT c lin T d L ⟨dst,.load agg sz a,g,af⟩ s=wK T d L dst agg sz a s (aY s.r a):=ax rfl
theorem Qh(sz:Nat)(a x:VX)(av:List Nat):aT c lin T d L ⟨dst,.storeN sz a x av,g,af⟩ s=I3 T d L dst sz x av s (aY s.r a) (aY s.r x):=ax rfl
theorem Z5(init:Bool)(sz:Nat)(a x:VX):aT c lin T d L ⟨dst,.store init sz a x,g,af⟩ s=K7 T d L dst init sz x s (aY s.r a) (aY s.r x):=ax rfl
theorem WR(n i:Nat):aT c lin T d L ⟨dst,.extract (.t n) i,g,af⟩ s=rF T dst n i s (lk s.r n):=ax rfl
theorem Qt(k sz bytes:Nat)(z:DV)(x:VX):aT c lin T d L ⟨dst,.makeSlice k sz bytes z x,g,af⟩ s=Je T d L dst k sz bytes z s (aY s.r x):=ax rfl
theorem RJ(sz:Nat)(z:DV)(len:Nat)(ps:List (Nat×VX)):aT c lin T d L ⟨dst,.buildSlice sz z len ps,g,af⟩ s=if z.cells.length=sz/\z.cells.all DV.isCell/\len*sz<=16777216/\len<=16777216 then Jw T dst (dV T dst s (ps.map fun q=>q.2)) (cF (aY s.r) sz (List.replicate len z.cn) ps)else none:=ax rfl
theorem TU(f:VX)(args:List VX):aT c lin T d L ⟨dst,.call true f args,g,af⟩ s=uh c T dst s (aY s.r f) (f9 s.r args):=by
 simp only[aT,uh,if_true]<;>rfl
theorem Pd(f:VX)(args:List VX):aT c lin T d L ⟨dst,.call false f args,g,af⟩ s=xN c lin T dst s args (aY s.r f) (f9 s.r args):=by
 simp only[aT,xN,yB,bI,if_false]<;>rfl
theorem Tc(sz bytes:Nat)(x y a v:VX)(t9:Nat):aT c lin T d L ⟨dst,.append1 sz bytes x y a v t9,g,af⟩ s=Lm T d dst sz bytes x v t9 s (aY s.r x) (aY s.r y) (aY s.r a) (aY s.r v):=ax rfl
theorem Ou(sz bytes:Nat)(x v:VX)(t9:Nat)(a b:Tag)(xs:List DV)(z w:DV)(k:IntKind)(n:Int):Lm T d dst sz bytes x v t9 s (some (.d (.sl a xs))) (some (.d (.sl b [z]))) (some (.d (.int k n))) (some (.d w))=
 if d=false/\n=xs.length/\z.cells.length=sz/\z.cells.all DV.isCell=true/\w.cells.length=sz/\w.cells.all DV.isCell=true/\lk s.r t9=none then
  (cG sz bytes (.sl a xs) (.sl .sub [w])).map fun u=>aS T ⟨c7 T s.r (if cu T dst then [x,v]else [x]),s.B⟩ dst (.d u)
 else none:=ax rfl
theorem Tf(a:Nat)(f:VX)(args:List VX):aT c lin T d L ⟨dst,.callS a f args,g,af⟩ s=Cl c T dst s (aY s.r f) (f9 s.r args) (lk s.r a):=ax rfl
theorem QC(agg:Bool)(sz:Nat)(a:VX)(b:Nat):aT c lin T d L ⟨dst,.loadS agg sz a b,g,af⟩ s=JR T d L dst agg sz s (aY s.r a) (lk s.r b):=ax rfl
theorem qXD(k b off a:Nat)(vs:List AV):Cl c T dst s (some (.fn k [])) (some (.ptr b off::vs)) (some (.ptr b a))=(aM vs).bind fun _=>(aI s.B b).bind fun cs=>(aM cs).bind fun _=>AM T dst s b (c k (.ptr 0 off::cK [] 0 vs) [some (AV.clrs cs)]):=by simp only[Cl,eD,mA,if_false]
theorem Ms(r:List (Nat×AV))(B:ah)(b:Nat)(v:DV)(cs:List AV):AM T dst ⟨r,B⟩ b (some (.d v,[some cs]))=(aM cs).map fun _=>aS T ⟨r,B.set b (some (AV.clrs cs))⟩ dst (.d v):=ax rfl
theorem Ww(agg:Bool)(sz b off a e:Nat):JR T d L dst agg sz s (some (.ptr b off)) (some (.ptr a e))=if b=a\/(d/\L<=b)then none else iW T (if cu T dst then⟨s.r,gG s.B b off (if agg then sz else 1)⟩else s) dst (aG s.B agg sz b off):=ax rfl
theorem N9(k:Nat)(th:Bool)(vs:List AV):xT c T false dst th s (some (.fn k [])) (some vs)=wV c T dst th s k (cp (AV.frz s.B) vs):=by simp only[xT,true_or,if_true]
theorem RO(k:Nat)(vs:List AV):xT c T true dst false s (some (.fn k [])) (some vs)=wV c T dst false s k (cp (AV.frz s.B) vs):=by simp only[xT,or_true,if_true]
theorem Mm(k:Nat)(th:Bool)(ds:List DV):wV c T dst th s k (some ds)=BK T dst th s (c k (cK [] 0 (ds.map .d)) []):=ax rfl
theorem Q5(th:Bool)(v:DV)(B:ah):BK T dst th s (some (.d v,B))=nW T th s dst v:=ax rfl
theorem Zs(v:DV):nW T false s dst v=if v.allUT then some (aS T s dst (.d v))else none:=by simp[nW]
theorem LS(r:List (Nat×AV))(B:ah)(v:DV):nW T true ⟨r,B⟩ dst v=if v.allUT then some (aS T ⟨r,B++(v.clr.thaw B.length).2⟩ dst (v.clr.thaw B.length).1)else none:=by simp[nW]
theorem Uw(a b:VX)(v:Bool):Hz T dst s a b (some (ar v))=if v then iW T (dV T dst s [a]) dst (aY s.r a)else iW T (dV T dst s [b]) dst (aY s.r b):=by cases v<;>rfl
theorem RY(sz bytes:Nat)(x y:VX)(v w:DV):Kt T dst sz bytes x y s (some (.d v)) (some (.d w))=wE T ⟨c7 T s.r (if cu T dst then [x,y]else [x]),s.B⟩ dst (cG sz bytes v w):=ax rfl
theorem W6(k:Nat)(x:VX)(v:AV):Ix T L dst k x s (some v)=if ct s.B (L+k)/\v.cells.all AV.isCell/\v.safe (L+k)then some (aS T ⟨ey T s.r x,s.B.set (L+k) (some v.cells)⟩ dst (.ptr (L+k) 0))else none:=ax rfl
theorem ZS(agg:Bool)(sz:Nat)(x:VX)(cs:List DV):wK T d L dst agg sz x s (some (.ep cs))=if cu T dst then iW T (dV T dst s [x]) dst ((cut agg sz cs).map .d)else eu T s dst ((cut agg sz cs).map .d):=by
 simp only[wK,eu,iW,A_];cases hl:cu T dst with
 |true=>rfl
 |false=>
  simp only[bI,if_false];cases cut agg sz cs with
  |none=>rfl
  |some v=>
   simp only[bz,Function.comp,dV,hl,bI,if_false];cases dst with
   |none=>rfl
   |some n=>
    simp only[cu]at hl;simp only[aS,hl,bI,if_false,AV.clr,DV.qhb]
theorem Nj(sz n:Nat)(g:Tag)(xs:List DV)(a:IntKind)(k:Int):G7 T dst sz n s (some (.d (.sl g xs))) (some (.d (.int a k)))=if 0<=k then EI T dst sz n g xs k.toNat s (xs[k.toNat]?)else none:=ax rfl
theorem WL(sz n:Nat)(g:Tag)(xs:List DV)(k:Nat)(e:DV):EI T dst sz n g xs k s (some e)=if e.cells.length=sz/\sz≠0 then some (aS T (if T.contains n then⟨(n,.d (.sl g (xs.set k e.clr)))::s.r,s.B⟩else s) dst (.ep e.cells))else none:=ax rfl
theorem Xd(agg:Bool)(sz b off:Nat)(x:VX):wK T d L dst agg sz x s (some (.ptr b off))=if d/\L<=b then none else iW T (if cu T dst then⟨s.r,gG s.B b off (if agg then sz else 1)⟩else s) dst (aG s.B agg sz b off):=ax rfl
theorem Ri(sz:Nat)(x:VX)(av:List Nat)(b off:Nat)(v:AV):I3 T d L dst sz x av s (some (.ptr b off)) (some v)=if fq d false L b|| !et s.r b av then none else CP T ⟨ey T s.r x,s.B⟩ dst (fZ s.B sz b off v):=ax rfl
theorem XP(init:Bool)(sz:Nat)(x:VX)(b off:Nat)(v:AV):K7 T d L dst init sz x s (some (.ptr b off)) (some v)=if fq d init L b then none else CP T ⟨ey T s.r x,s.B⟩ dst (fZ s.B sz b off v):=ax rfl
theorem MK(r:List (Nat×AV))(B B':ah):CP T ⟨r,B⟩ dst (some B')=some (aS T ⟨r,B'⟩ dst .und):=ax rfl
theorem Tb(n i:Nat)(vs:List DV):rF T dst n i s (some (.d (.tup vs)))=wE T (if cu T dst&&T.contains n then⟨(n,.d (.tup (vs.set i ((vs[i]?).getD (.bool false)).clr)))::s.r,s.B⟩else s) dst (vs[i]?):=by
 simp only[rF,wE];cases hv:vs[i]? with
 |none=>rfl
 |some v=>simp
theorem Pr(n i:Nat)(vs:List AV):rF T dst n i s (some (.ag true vs))=eu T s dst (vs[i]?):=by
 simp only[rF,eu]
theorem MD(k sz bytes:Nat)(z:DV)(a:IntKind)(n:Int):Je T d L dst k sz bytes z s (some (.d (.int a n)))=if d=false/\ct s.B (L+k)/\0<=n/\n.toNat*bytes<=140737488355328/\n<9223372036854775808/\z.cells.length=sz/\z.cells.all DV.isCell then
 some (aS T ⟨s.r,s.B.set (L+k) (some (((List.replicate n.toNat z.cn).flatMap DV.cells).map .d))⟩ dst (.bsl [] (isAgg z) (L+k) sz n.toNat))else none:=ax rfl
theorem Xc(xs:List DV):Jw T dst s (some xs)=some (aS T s dst (.d (.sl U xs))):=ax rfl
theorem NL(k:Nat)(vs:List AV):uh c T dst s (some (.fn k [])) (some vs)=BW T dst s (aM vs) (c k (cK [] 0 vs) []):=by
 simp only[uh,BW];cases aM vs<;>rfl
theorem qPk(ds:List DV)(v:DV)(B:ah):BW T dst s (some ds) (some (.d v,B))=some (aS T s dst (.d v)):=ax rfl
theorem ML(args:List VX)(k:Nat)(caps vs:List AV):xN c lin T dst s args (some (.fn k caps)) (some vs)=yB T dst s (dr (lin k) 0 args) (cS T (dr (lin k) 0 args)) (c k (cK (lin k) 0 vs++caps) s.B):=ax rfl
theorem X8(xs:List VX)(r:List (Nat×AV))(a:ah)(v:AV)(B:ah):yB T dst ⟨r,a⟩ xs true (some (v,B))=some (aS T ⟨c7 T r xs,B⟩ dst v):=ax rfl
theorem Y0(v:DV):wE T s dst (some v)=some (aS T s dst (.d v)):=ax rfl
end
theorem QL(r:List (Nat×AV))(x:VX):aA r (.nilCheck x)=ug (x.get r):=ax rfl
theorem T6(r:List (Nat×AV))(op:BinOp)(x y:VX):aA r (.bin op x y)=H_ op (x.get r) (y.get r):=ax rfl
theorem Vu(r:List (Nat×AV))(neg:Bool)(ks:List Nat)(x y:VX):aA r (.eqAgg neg ks x y)=CH neg ks (x.get r) (y.get r):=ax rfl
theorem YT(r:List (Nat×AV))(neg:Bool)(x y:VX):aA r (.eqB neg x y)=Gb neg (x.get r) (y.get r):=ax rfl
theorem TC(r:List (Nat×AV))(x:VX):aA r (.not x)=Ho (x.get r):=ax rfl
theorem Qo(r:List (Nat×AV))(k:IntKind)(x:VX):aA r (.conv (.kind k) x)=Kp k (x.get r):=ax rfl
theorem Ur(r:List (Nat×AV))(x:VX):aA r (.conv .rune x)=Ll (x.get r):=ax rfl
theorem Nf(r:List (Nat×AV))(x:VX):aA r (.conv .bytes x)=H2 (x.get r):=ax rfl
theorem OL(r:List (Nat×AV))(x y:VX):aA r (.index x y)=IK (x.get r) (y.get r):=ax rfl
theorem W0(r:List (Nat×AV))(sz:Nat)(x y:VX):aA r (.indexAddr sz none x y)=pu sz (x.get r) (y.get r):=ax rfl
theorem NS(r:List (Nat×AV))(sz m:Nat)(x y:VX):aA r (.indexAddr sz (some m) x y)=Bn sz m (x.get r) (y.get r):=ax rfl
theorem ZI(r:List (Nat×AV))(off:Nat)(x:VX):aA r (.fieldAddr off x)=BA off (x.get r):=ax rfl
theorem YA(r:List (Nat×AV))(f:Nat)(cs:List VX):aA r (.makeFunc f cs)=(cO r cs).map fun vs=> .fn f vs:=ax rfl
theorem Vw(r:List (Nat×AV))(str:Bool)(x:VX):aA r (.len str x)=nZ str (x.get r):=by
 cases str<;>simp only[aA,nZ]<;>(cases h:x.get r with
  |none=>rfl
  |some v=>cases v with
   |d w=>cases w<;>rfl
   |_=>rfl)
theorem qNP(r:List (Nat×AV))(str:Bool)(sz:Nat)(x:VX)(lo hi:Option VX):aA r (.slice str sz x lo hi)=uL str sz (x.get r) (cT r lo) (cT r hi):=by
 cases str<;>simp only[aA,uL]<;>(cases h:x.get r with
  |none=>rfl
  |some v=>cases v with
   |d w=>cases w<;>cases cT r lo<;>cases cT r hi<;>rfl
   |_=>rfl)
theorem LR(i o:Nat):ug (some (.ptr i o))=some (.ptr i o):=ax rfl
theorem V9(cs:List DV):ug (some (.ep cs))=some (.ep cs):=ax rfl
theorem Oi(f:Nat)(c:List AV):ug (some (.fn f c))=some (.fn f c):=ax rfl
theorem Sw(op:BinOp)(a b:DV):H_ op (some (.d a)) (some (.d b))=dO (eR op a b):=ax rfl
theorem ZY(a:DV):dO (some a)=some (.d a):=ax rfl
theorem qNI(neg:Bool)(ks:List Nat)(a b:List DV):CH neg ks (some (.d (.agg a))) (some (.d (.agg b)))=(dR ks a b).map fun e=> ar (if neg then !e else e):=ax rfl
theorem QB(neg:Bool)(a b:Bool):Gb neg (some (ar a)) (some (ar b))=some (ar (if neg then !(a==b)else(a==b))):=ax rfl
theorem Yk(b:Bool):Ho (some (ar b))=some (.d (.bool !b)):=ax rfl
theorem Pk(k k':IntKind)(n:Int):Kp k (some (.d (.int k' n)))=some (.d (.int k (k.wrap n))):=ax rfl
theorem VN(k':IntKind)(n:Int):Ll (some (.d (.int k' n)))=some (.d (.str (Utf8.encode n))):=ax rfl
theorem XB(g:Tag)(xs:List DV):H2 (some (.d (.sl g xs)))=(bytesOf xs).map fun bs=> .d (.str ⟨bs.toArray⟩):=ax rfl
theorem S9(s:ByteArray)(k:IntKind)(n:Int):IK (some (.d (.str s))) (some (.d (.int k n)))=if 0<=n then(mL s n.toNat).map fun b=> .d (.int .u8 b)else none:=ax rfl
theorem Ml(sz:Nat)(g:Tag)(xs:List DV)(k:IntKind)(n:Int):pu sz (some (.d (.sl g xs))) (some (.d (.int k n)))=if 0<=n then A6 sz (xs[n.toNat]?)else none:=by
 simp only[pu,A6]
theorem Sb(sz:Nat)(e:DV):A6 sz (some e)=if e.cells.length=sz/\sz≠0 then some (.ep e.cells)else none:=ax rfl
theorem Mp(sz:Nat)(id:Id)(a:Bool)(b s' m:Nat)(k:IntKind)(n:Int):pu sz (some (.bsl id a b s' m)) (some (.d (.int k n)))=if s'=sz/\0<=n/\n<m then some (.ptr b (n.toNat*sz))else none:=ax rfl
theorem TE(sz:Nat)(a:Bool)(b s' m:Nat)(k:IntKind)(n:Int):pu sz (some (.tsl a b s' m)) (some (.d (.int k n)))=if s'=sz/\0<=n/\n<m then some (.ptr b (n.toNat*sz))else none:=ax rfl
theorem UM(sz m b o:Nat)(k:IntKind)(n:Int):Bn sz m (some (.ptr b o)) (some (.d (.int k n)))=if 0<=n/\n<m then some (.ptr b (o+n.toNat*sz))else none:=ax rfl
theorem S5(sz m:Nat)(cs:List DV)(k:IntKind)(n:Int):Bn sz m (some (.ep cs)) (some (.d (.int k n)))=if 0<=n/\n<m/\n.toNat*sz<=cs.length then some (.ep (cs.drop (n.toNat*sz)))else none:=ax rfl
theorem VG(off b o:Nat):BA off (some (.ptr b o))=some (.ptr b (o+off)):=ax rfl
theorem SS(off:Nat)(cs:List DV):BA off (some (.ep cs))=if off<=cs.length then some (.ep (cs.drop off))else none:=ax rfl
theorem Sx(s:ByteArray):nZ true (some (.d (.str s)))=some (aa s.size):=ax rfl
theorem qTd(g:Tag)(xs:List DV):nZ false (some (.d (.sl g xs)))=some (aa xs.length):=ax rfl
theorem Z2(a:Bool)(i s n:Nat):nZ false (some (.tsl a i s n))=some (aa n):=ax rfl
theorem U1(a:Bool)(i s n:Nat)(r:List AV):aM (.tsl a i s n::r)=none:=ax rfl
theorem Oc(v:DV):B7 v none=none:=ax rfl
theorem Pv(cs:List AV):jg cs none=if cs.all AV.plainT then some (.ag false cs)else none:=ax rfl
theorem X9(k:IntKind)(n:Int):(AV.d (.int k n)).plainT=true:=ax rfl
theorem NM(b:Bool):(AV.d (.bool b)).plainT=true:=ax rfl
theorem Qr(b:ByteArray):(AV.d (.str b)).plainT=true:=ax rfl
theorem XG(g:Tag):(AV.d (.sl g [])).plainT=true:=ax rfl
theorem ZZ(a:Bool)(i s n:Nat):(AV.tsl a i s n).plainT=true:=ax rfl
theorem LA(a:Bool)(i s n:Nat):(AV.tsl a i s n).clr= .tsl a i s n:=by simp only[AV.clr]
theorem WQ(t:Bool)(cs:List AV):(AV.ag t cs).clr= .ag t (AV.clrs cs):=by simp only[AV.clr]
theorem Oz(cs:List AV)(ds:List DV):jg cs (some ds)=some (.d (.agg ds)):=ax rfl
theorem Vp(f:AV->Option DV):cp f []=some []:=ax rfl
theorem L9(f:AV->Option DV)(v:AV)(r:List AV):cp f (v::r)=Gk (f v) (cp f r):=ax rfl
theorem PS(d:DV)(ds:List DV):Gk (some d) (some ds)=some (d::ds):=ax rfl
theorem Yl(B:ah)(v:DV):AV.frz B (.d v)=some v:=by
 unfold AV.frz;cases B.length<;>simp only[AV.frzC]
theorem TZ(id:Id)(a:Bool)(i s n:Nat):nZ false (some (.bsl id a i s n))=some (aa n):=ax rfl
theorem YI(sz:Nat)(s:ByteArray)(lo hi:Option AV):uL true sz (some (.d (.str s))) (some lo) (some hi)=(en s.size hi).bind fun h=>(em h lo).map fun l=> .d (.str (s.extract l h)):=ax rfl
theorem O2(sz:Nat)(g:Tag)(xs:List DV)(lo hi:Option AV):uL false sz (some (.d (.sl g xs))) (some lo) (some hi)=if xs.all (fun e=>e.cells.length=sz)then(en xs.length hi).bind fun h=>(em h lo).map fun l=> .d (.sl (if g= .nil then .nil else .sub) ((xs.take h).drop l))else none:=ax rfl
theorem WT(r:List (Nat×AV)):cT r none=some none:=ax rfl
theorem Ts(r:List (Nat×AV))(x:VX):cT r (some x)=(x.get r).map some:=ax rfl
theorem qNw(n:Nat):en n none=some n:=ax rfl
theorem U2(n:Nat):em n none=some 0:=ax rfl
theorem Wi(n:Nat)(k:IntKind)(h:Int):en n (some (.d (.int k h)))=if 0<=h/\h.toNat<=n then some h.toNat else none:=ax rfl
theorem YJ(n:Nat)(k:IntKind)(h:Int):em n (some (.d (.int k h)))=if 0<=h/\h.toNat<=n then some h.toNat else none:=ax rfl
theorem YD(r:List (Nat×AV)):cO r []=some []:=ax rfl
theorem NN(r:List (Nat×AV))(x:VX)(xs:List VX):cO r (x::xs)=sj (x.get r) (cO r xs):=by simp only[cO,sj];cases x.get r<;>cases cO r xs<;>rfl
theorem UP(v:AV)(vs:List AV):sj (some v) (some vs)=some (v::vs):=ax rfl
theorem VQ(r:List (Nat×AV))(n:Nat):aY r (.t n)=lk r n:=ax rfl
theorem Wr(r:List (Nat×AV))(v:DV):aY r (.c (.d v))=some (.d v.cn):=ax rfl
theorem YO(r:List (Nat×AV))(f:Nat):aY r (.c (.fn f []))=some (.fn f []):=by simp[aY,AV.clr,AV.clrs]
theorem Od(r:List (Nat×AV)):aY r (.c .nilp)=some .nilp:=by simp[aY,AV.clr]
theorem Ql(T:List Nat)(r:List (Nat×AV)):c7 T r []=r:=ax rfl
theorem PF(T:List Nat)(r:List (Nat×AV))(x:VX)(xs:List VX):c7 T r (x::xs)=c7 T (ey T r x) xs:=ax rfl
theorem Wb(T:List Nat)(r:List (Nat×AV))(v:AV):ey T r (.c v)=r:=ax rfl
theorem QQ(T:List Nat)(r:List (Nat×AV))(n:Nat)(h:T.contains n=false):ey T r (.t n)=r:=by simp only[ey,h];simp
theorem Rx(T:List Nat)(r:List (Nat×AV))(n:Nat)(h:T.contains n=true)(v:AV)(a:lk r n=some v):ey T r (.t n)=(n,v.clr)::r:=by simp only[ey,h,a];simp
theorem R_(T:List Nat):cu T none=false:=ax rfl
theorem PV(T:List Nat)(d:Nat):cu T (some d)=T.contains d:=ax rfl
theorem Rq(k:IntKind)(n:Int):(DV.int k n).cn= .int k n:=by simp[DV.cn,DV.cn1,DV.clr]
theorem NV(b:Bool):(DV.bool b).cn= .bool b:=by simp[DV.cn,DV.cn1,DV.clr]
theorem Tr(s:ByteArray):(DV.str s).cn= .str s:=by simp[DV.cn,DV.cn1,DV.clr]
theorem Vm:(DV.sl .nil []).cn= .sl U []:=by simp[DV.cn,DV.cn1]
theorem Uf(cs:List DV):(DV.agg cs).cn= .agg (cs.map DV.cn1):=ax rfl
theorem Qb(k:IntKind)(n:Int):(DV.int k n).cn1= .int k n:=by simp[DV.cn1,DV.clr]
theorem Y9(b:Bool):(DV.bool b).cn1= .bool b:=by simp[DV.cn1,DV.clr]
theorem Zw(s:ByteArray):(DV.str s).cn1= .str s:=by simp[DV.cn1,DV.clr]
theorem qN8:(DV.sl .nil []).cn1= .sl U []:=by simp[DV.cn1]
theorem El(k:IntKind)(n:Int):(DV.int k n).clr= .int k n:=by simp[DV.clr]
theorem Sc(b:Bool):(DV.bool b).clr= .bool b:=by simp[DV.clr]
theorem Ff(s:ByteArray):(DV.str s).clr= .str s:=by simp[DV.clr]
theorem Gd(g:Tag)(xs:List DV):(DV.sl g xs).clr= .sl .sub (xs.map DV.clr):=by simp[DV.clr,DV.qax]
theorem Ze(xs:List DV):(DV.agg xs).clr= .agg (xs.map DV.clr):=by simp[DV.clr,DV.qax]
theorem Nm(xs:List DV):(DV.tup xs).clr= .tup (xs.map DV.clr):=by simp[DV.clr,DV.qax]
theorem ZU(v:DV):(AV.d v).clr= .d v.clr:=by simp[AV.clr]
theorem Mh(i o:Nat):(AV.ptr i o).clr= .ptr i o:=by simp[AV.clr]
theorem Md(cs:List DV):(AV.ep cs).clr= .ep (cs.map DV.clr):=by simp[AV.clr,DV.qax]
theorem Oj(f:Nat)(cs:List AV):(AV.fn f cs).clr= .fn f (cs.map AV.clr):=by simp[AV.clr,AV.qax]
theorem MF:AV.nilp.clr= .nilp:=by simp[AV.clr]
theorem Po(id:Id)(a:Bool)(i sz n:Nat):(AV.bsl id a i sz n).clr= .bsl id a i sz n:=by simp[AV.clr]
theorem qIu:AV.und.clr= .und:=by simp[AV.clr]
theorem Qc(LP:List Nat)(j:Nat):cK LP j []=[]:=ax rfl
theorem Yg(LP:List Nat)(j:Nat)(v:AV)(r:List AV):cK LP j (v::r)=(if LP.contains j then v else v.clr)::cK LP (j+1) r:=ax rfl
theorem SE(LP:List Nat)(j:Nat):dr LP j []=[]:=ax rfl
theorem IX(j:Nat):∀xs:List VX,dr [] j xs=[]
 | []=>rfl
 |x::xs=>by simp[dr,IX (j+1) xs]
theorem Sm(LP:List Nat)(j:Nat)(v:VX)(r:List VX):dr LP j (v::r)=if LP.contains j then v::dr LP (j+1) r else dr LP (j+1) r:=ax rfl
theorem W7(r:List (Nat×AV)):f9 r []=some []:=ax rfl
theorem M3(r:List (Nat×AV))(x:VX)(xs:List VX):f9 r (x::xs)=sj (aY r x) (f9 r xs):=by simp only[f9,sj];cases aY r x<;>cases f9 r xs<;>rfl
theorem Ua:aM []=some []:=ax rfl
theorem XO(v:DV)(r:List AV):aM (.d v::r)=B7 v (aM r):=ax rfl
theorem Q6(v:DV)(r:List DV):B7 v (some r)=some (v::r):=ax rfl
theorem Mg(T:List Nat):cS T []=true:=ax rfl
theorem Nk(g:VX->Option AV)(cs:List DV):dS g cs []=some cs:=ax rfl
theorem P3(g:VX->Option AV)(cs:List DV)(off size:Nat)(x:VX)(r:List (Nat×Nat×VX)):dS g cs ((off,size,x)::r)=Dl g cs off size r (g x):=by
 simp only[dS,Dl]<;>rfl
theorem RX(g:VX->Option AV)(cs:List DV)(off size:Nat)(r:List (Nat×Nat×VX))(v:DV):Dl g cs off size r (some (.d v))=if v.cells.length=size/\off+size<=cs.length/\v.cells.all DV.isCell then dS g (splice cs off v.cells) r else none:=ax rfl
theorem qrX(g:VX->Option AV)(sz:Nat)(cs:List DV):cF g sz cs []=some cs:=ax rfl
theorem Qw(g:VX->Option AV)(sz:Nat)(cs:List DV)(i:Nat)(x:VX)(r:List (Nat×VX)):cF g sz cs ((i,x)::r)=D3 g sz cs i r (g x):=by
 simp only[cF,D3]<;>rfl
theorem Qa(g:VX->Option AV)(sz:Nat)(cs:List DV)(i:Nat)(r:List (Nat×VX))(v:DV):D3 g sz cs i r (some (.d v))=if v.cells.length=sz/\i<cs.length/\v.cells.all DV.isCell then cF g sz (cs.set i v) r else none:=ax rfl
def KI(t:Nat)(live:List Nat)(s:XS)(v:Option AV):Option XS:=
 match v with
 |some (.d (.sl (.own [] 0) (x::xs)))=>
  if live.contains t=false/\jb ((x::xs).flatMap DV.cells) (keep s.r live)=true/\eG ((x::xs).flatMap DV.cells) s.B=true/\DV.xrests ((x::xs).flatMap DV.cells) ((x::xs).flatMap DV.cells)=true then
   some ⟨(t,.tsl (bJ x) s.B.length x.cells.length (xs.length+1))::keep s.r live,s.B++[some (((x::xs).flatMap DV.cells).map .d)]⟩
  else none
 |_=>none
theorem WF(t:Nat)(live:List Nat)(s:XS):fp (.focR t live) s=KI t live s (lk s.r t):=ax rfl
theorem WK(t:Nat)(live:List Nat)(r:List (Nat×AV))(B:ah)(x:DV)(xs:List DV):KI t live ⟨r,B⟩ (some (.d (.sl U (x::xs))))=
 if live.contains t=false/\jb ((x::xs).flatMap DV.cells) (keep r live)=true/\eG ((x::xs).flatMap DV.cells) B=true/\DV.xrests ((x::xs).flatMap DV.cells) ((x::xs).flatMap DV.cells)=true then
  some ⟨(t,.tsl (bJ x) B.length x.cells.length (xs.length+1))::keep r live,B++[some (((x::xs).flatMap DV.cells).map .d)]⟩
 else none:=ax rfl
def sR(off:Nat)(live:List Nat)(s:XS)(j o:Nat)(cs:List AV)(v:Option AV):Option XS:=
 match v with
 |some (.d (.sl (.own [] 0) (x::xs)))=>
  if ct s.B j=true/\jb ((x::xs).flatMap DV.cells) (keep s.r live)=true/\
   eG ((x::xs).flatMap DV.cells) (s.B.set (j+1) (some (cs.set (o+off) (.tsl (bJ x) j x.cells.length (xs.length+1)))))=true/\DV.xrests ((x::xs).flatMap DV.cells) ((x::xs).flatMap DV.cells)=true then
   some ⟨keep s.r live,(s.B.set (j+1) (some (cs.set (o+off) (.tsl (bJ x) j x.cells.length (xs.length+1))))).set j (some (((x::xs).flatMap DV.cells).map .d))⟩
  else none
 |_=>none
def HZ(off:Nat)(live:List Nat)(s:XS)(v:Option AV):Option XS:=
 match v with
 |some (.ptr (j+1) o)=>(aI s.B (j+1)).bind fun cs=>sR off live s j o cs (cs[o+off]?)
 |_=>none
theorem EU(t off:Nat)(live:List Nat)(s:XS):fp (.focC t off live) s=HZ off live s (lk s.r t):=ax rfl
theorem LJ(off:Nat)(live:List Nat)(s:XS)(j o:Nat):HZ off live s (some (.ptr (j+1) o))=(aI s.B (j+1)).bind fun cs=>sR off live s j o cs (cs[o+off]?):=ax rfl
theorem KU(off:Nat)(live:List Nat)(r:List (Nat×AV))(B:ah)(j o:Nat)(cs:List AV)(x:DV)(xs:List DV):sR off live ⟨r,B⟩ j o cs (some (.d (.sl U (x::xs))))=
 if ct B j=true/\jb ((x::xs).flatMap DV.cells) (keep r live)=true/\
  eG ((x::xs).flatMap DV.cells) (B.set (j+1) (some (cs.set (o+off) (.tsl (bJ x) j x.cells.length (xs.length+1)))))=true/\DV.xrests ((x::xs).flatMap DV.cells) ((x::xs).flatMap DV.cells)=true then
  some ⟨keep r live,(B.set (j+1) (some (cs.set (o+off) (.tsl (bJ x) j x.cells.length (xs.length+1))))).set j (some (((x::xs).flatMap DV.cells).map .d))⟩
 else none:=ax rfl
def KO(t L:Nat)(live:List Nat)(s:XS)(v:Option AV):Option XS:=
 match v with
 |some v=>if live.contains t=false/\aD L (keep s.r live)=true/\L<=s.B.length then(v.frz (cC L s.B)).map fun d=>⟨(t,.d d.clr)::keep s.r live,s.B.take L⟩else none
 |none=>none
theorem SI(t L:Nat)(live:List Nat)(s:XS):fp (.frzR t L live) s=KO t L live s (lk s.r t):=ax rfl
theorem Q_(t L:Nat)(live:List Nat)(r:List (Nat×AV))(B:ah)(v:AV):KO t L live ⟨r,B⟩ (some v)=if live.contains t=false/\aD L (keep r live)=true/\L<=B.length then(v.frz (cC L B)).map fun d=>⟨(t,.d d.clr)::keep r live,B.take L⟩else none:=ax rfl
def JG(t L:Nat)(live:List Nat)(s:XS)(v:Option AV):Option XS:=
 match v with
 |some (.ptr i 0)=>
  if L<=i/\live.contains t=false/\aD L (keep s.r live)=true/\L<=s.B.length then
   (aI s.B i).bind fun cs=>(cp (AV.frzC (cC L s.B) s.B.length) cs).bind fun ds=>
    if ds.all DV.isCell then some ⟨(t,.ptr L 0)::keep s.r live,s.B.take L++[some (ds.map fun d=> .d d.clr)]⟩else none
  else none
 |_=>none
theorem Gs(t L:Nat)(live:List Nat)(s:XS):fp (.frzB t L live) s=JG t L live s (lk s.r t):=ax rfl
theorem Jy(t L:Nat)(live:List Nat)(r:List (Nat×AV))(B:ah)(i:Nat):JG t L live ⟨r,B⟩ (some (.ptr i 0))=
 if L<=i/\live.contains t=false/\aD L (keep r live)=true/\L<=B.length then
  (aI B i).bind fun cs=>(cp (AV.frzC (cC L B) B.length) cs).bind fun ds=>
   if ds.all DV.isCell then some ⟨(t,.ptr L 0)::keep r live,B.take L++[some (ds.map fun d=> .d d.clr)]⟩else none
 else none:=ax rfl
theorem VO(rs:List DV):jb rs []=true:=ax rfl
theorem NE(rs:List DV)(t:Nat)(v:AV)(r:List (Nat×AV)):jb rs ((t,v)::r)=(v.xrest rs&&jb rs r):=ax rfl
theorem PK(rs:List DV):eG rs []=true:=ax rfl
theorem MH(rs:List DV)(B:ah):eG rs (none::B)=eG rs B:=by simp only[eG,fM,eP]
def gA(rs:List DV)(cs:List AV):Bool:=cs.all (AV.xrest rs)
theorem Te(rs:List DV):gA rs []=true:=ax rfl
theorem QX(rs:List DV)(v:AV)(cs:List AV):gA rs (v::cs)=(v.xrest rs&&gA rs cs):=ax rfl
theorem U7(rs:List DV)(cs:List AV)(B:ah):eG rs (some cs::B)=(gA rs cs&&eG rs B):=ax rfl
theorem Rh(rs:List DV)(v:DV):AV.xrest rs (.d v)=v.xrest rs:=ax rfl
theorem Qi(rs:List DV)(i o:Nat):AV.xrest rs (.ptr i o)=true:=ax rfl
theorem V0(rs:List DV)(a:Bool)(i sz n:Nat):AV.xrest rs (.tsl a i sz n)=true:=ax rfl
theorem Qq(rs:List DV):AV.xrest rs .und=true:=ax rfl
theorem IQ(rs:List DV)(k:IntKind)(n:Int):DV.xrest rs (.int k n)=true:=by simp only[DV.xrest]
theorem Zx(rs:List DV)(b:Bool):DV.xrest rs (.bool b)=true:=by simp only[DV.xrest]
theorem Rn(rs:List DV)(s:ByteArray):DV.xrest rs (.str s)=true:=by simp only[DV.xrest]
theorem FJ(rs cs:List DV):DV.xrest rs (.agg cs)=DV.xrests rs cs:=by simp only[DV.xrest]
theorem Lz(rs xs:List DV):DV.xrest rs (.sl U xs)=DV.xrests rs xs:=by simp only[DV.xrest,decide_true,Bool.or_true,eP]
theorem MM(rs:List DV)(g:Tag):DV.xrest rs (.sl g [])=true:=by simp[DV.xrest,DV.xrests]
theorem Dw(rs:List DV):DV.xrests rs []=true:=by simp only[DV.xrests]
theorem Cr(rs:List DV)(v:DV)(r:List DV):DV.xrests rs (v::r)=(v.xrest rs&&DV.xrests rs r):=by simp only[DV.xrests]
attribute [simp] Te QX WF WK EU LJ KU SI Q_ Gs Jy VO NE PK MH U7 Rh Qi V0 Qq IQ Zx Rn FJ Lz MM Dw Cr
theorem AX:fx []=[]:=ax rfl
theorem Db(cs:List AV)(B:ah):fx (some cs::B)=some (AV.clrs cs)::fx B:=ax rfl
theorem P5(B:ah):fx (none::B)=none::fx B:=ax rfl
theorem Qs:AV.clrs []=[]:=by simp only[AV.clrs]
theorem Yr(v:AV)(r:List AV):AV.clrs (v::r)=v.clr::AV.clrs r:=by simp only[AV.clrs]
attribute [simp] JH Tc Ou Tf QC qXD Ms Ww Ab AX Db P5 Qs Yr
def A8(c:bM)(lin:Nat->List Nat)(T:List Nat)(d:Bool)(L:Nat)(fs:List FOper)(o:Option XS):Option XS:=o.bind (eK c lin T d L fs)
def IJ(c:bM)(lin:Nat->List Nat)(T:List Nat)(d:Bool)(L:Nat)(f:FOper)(fs:List FOper)(o:Option XS):Option XS:=o.bind fun s=>A8 c lin T d L fs (gT T f s)
def B9(T:List Nat)(a d3 sz:Nat)(ok:Bool)(s:XS)(v:Option AV)(lo hi:Option (Option AV)):Option XS:=
 match v,lo,hi with
 |some (.d (.sl g xs)),some lo,some hi=>
  if ok=true/\xs.all (fun e=>e.cells.length=sz)then
   (en xs.length hi).bind fun h=>(em h lo).map fun l=>aS T ⟨(a,.d (.sl g (fy xs l h)))::s.r,s.B⟩ (some d3) (.d (.sl .sub ((xs.take h).drop l)))
  else none
 |_,_,_=>none
def sK(T:List Nat)(d4 sz:Nat)(s:XS)(b off:Nat)(cs:List AV)(g:Tag)(xs:List DV)(k:Nat)(e:Option DV):Option XS:=
 match e with
 |some (.agg es)=>if es.length=sz then some (aS T ⟨s.r,s.B.set b (some (cs.set off (.d (.sl g (xs.set k (DV.agg es).clr)))))⟩ (some d4) (.d (.agg es)))else none
 |_=>none
def wO(T:List Nat)(d4 sz:Nat)(s:XS)(b off:Nat)(cs:List AV)(k:Nat)(v:Option AV):Option XS:=
 match v with
 |some (.d (.sl g xs))=>sK T d4 sz s b off cs g xs k (xs[k]?)
 |_=>none
def CU(T:List Nat)(d4 sz:Nat)(ok:Bool)(s:XS)(v w:Option AV):Option XS:=
 match v,w with
 |some (.ptr b off),some (.d (.int _ k))=>if ok=true/\0<=k/\sz≠0 then(aI s.B b).bind fun cs=>wO T d4 sz s b off cs k.toNat (cs[off]?)else none
 |_,_=>none
theorem Mx(c:bM)(lin:Nat->List Nat)(T:List Nat)(d:Bool)(L:Nat)(f:FOper)(fs:List FOper)(s:XS):eK c lin T d L (f::fs) s=IJ c lin T d L f fs (bd c lin T d L f.pre s):=ax rfl
theorem Sz(c:bM)(lin:Nat->List Nat)(T:List Nat)(d:Bool)(L:Nat)(s:XS):eK c lin T d L [] s=some s:=ax rfl
theorem Wk(c:bM)(lin:Nat->List Nat)(T:List Nat)(d:Bool)(L:Nat)(f:FOper)(fs:List FOper)(s:XS):IJ c lin T d L f fs (some s)=A8 c lin T d L fs (gT T f s):=ax rfl
theorem Sy(c:bM)(lin:Nat->List Nat)(T:List Nat)(d:Bool)(L:Nat)(fs:List FOper)(s:XS):A8 c lin T d L fs (some s)=eK c lin T d L fs s:=ax rfl
theorem T5(T:List Nat)(o:VOper)(s:XS):gT T (.one o) s=some s:=ax rfl
theorem Ra(T:List Nat)(d1 a d2:Nat)(b:VX)(d3 sz:Nat)(lo hi:Option VX)(f1 f2 f3:List Nat)(s:XS):gT T (.sl d1 a d2 b d3 sz lo hi f1 f2 f3) s=B9 T a d3 sz (decide (T.contains a=true/\T.contains d3=true/\d1≠a/\d2≠a/\d1≠d2)) s (lk s.r a) (cT s.r lo) (cT s.r hi):=by
 simp only[gT,B9,ba];rfl
theorem WO(T:List Nat)(a d3 sz:Nat)(ok:Bool)(s:XS)(g:Tag)(xs:List DV)(lo hi:Option AV):B9 T a d3 sz ok s (some (.d (.sl g xs))) (some lo) (some hi)=if ok=true/\xs.all (fun e=>e.cells.length=sz)then
 (en xs.length hi).bind fun h=>(em h lo).map fun l=>aS T ⟨(a,.d (.sl g (fy xs l h)))::s.r,s.B⟩ (some d3) (.d (.sl .sub ((xs.take h).drop l)))
 else none:=ax rfl
theorem Wn(T:List Nat)(d1 q d2:Nat)(b:VX)(d3 sz d4:Nat)(f1 f2 f3 f4:List Nat)(s:XS):gT T (.el d1 q d2 b d3 sz d4 f1 f2 f3 f4) s=CU T d4 sz (decide (T.contains d4=true/\d1≠q/\d2≠q/\d3≠q/\d1≠d2/\d3≠d2)) s (lk s.r q) (lk s.r d2):=by
 simp only[gT,CU,wO,sK,ba];rfl
theorem R8(T:List Nat)(d4 sz:Nat)(ok:Bool)(s:XS)(b off:Nat)(a:IntKind)(k:Int):CU T d4 sz ok s (some (.ptr b off)) (some (.d (.int a k)))=if ok=true/\0<=k/\sz≠0 then(aI s.B b).bind fun cs=>wO T d4 sz s b off cs k.toNat (cs[off]?)else none:=ax rfl
theorem RU(T:List Nat)(d4 sz:Nat)(s:XS)(b off:Nat)(cs:List AV)(k:Nat)(g:Tag)(xs:List DV):wO T d4 sz s b off cs k (some (.d (.sl g xs)))=sK T d4 sz s b off cs g xs k (xs[k]?):=ax rfl
theorem SC(T:List Nat)(d4 sz:Nat)(s:XS)(b off:Nat)(cs:List AV)(g:Tag)(xs:List DV)(k:Nat)(es:List DV):sK T d4 sz s b off cs g xs k (some (.agg es))=if es.length=sz then some (aS T ⟨s.r,s.B.set b (some (cs.set off (.d (.sl g (xs.set k (DV.agg es).clr)))))⟩ (some d4) (.d (.agg es)))else none:=ax rfl
theorem Wx(X:XEnv)(T:List Nat)(na:Nat)(live:List Nat)(fs:List FOper)(r:List (Nat×AV))(B:ah):
 aH X T (.regionF false na live fs) ⟨r,B⟩=bO live (eK (al X) X.lin T false B.length fs ⟨r,B++List.replicate na none⟩):=by
 rw[KX];simp[jf,bO,kD]
theorem Zi(X:XEnv)(T:List Nat)(na:Nat)(live:List Nat)(fs:List FOper)(h:ip (gn fs)=true)(r:List (Nat×AV))(B:ah):
 aH X T (.regionF true na live fs) ⟨r,B⟩=bO live (eK (al X) X.lin T true B.length fs ⟨r,B++List.replicate na none⟩):=by
 rw[KX];simp[jf,bO,kD,h]
attribute [simp] Mx Sz Wk Sy T5 Ra WO Wn R8 RU SC Wx FOper.pre
attribute [simp] mC Nr YL Z7 Yc NU YH MW UA UN MN UV I6 Oq U3 Or Wj RG NJ HA Jp Wu VT Xb We Ye MO Mw UU Vq Nq Xl M6 Og Nj WL Sa Z8 qw0 Zt WP SF YQ UO LX Tt OT TO QM Qh Z5 WR Ot Qt RJ TU Pd Oz U1 Oc Pv X9 NM Qr XG ZZ LA WQ Uw RY W6 ZS Xd XP Ri PP Nw Nv EF MK Tb MD Xc NL qPk ML X8 Y0 N9 RO Mm Q5 Zs LS Pr Vp L9 PS Yl TE Z2 QL T6 Vu YT TC Qo Ur Nf OL W0 NS ZI YA Vw qNP LR V9 Oi Sw ZY qNI QB Yk Pk VN XB S9 Ml Sb Mp UM S5 VG SS Sx qTd TZ YI O2 WT Ts qNw U2 Wi YJ YD NN UP VQ Wr YO Od Ql PF Wb QQ Rx R_ PV Rq NV Tr Vm Uf Qb Y9 Zw qN8 El Sc Ff Gd Ze Nm ZU Mh Md Oj MF Po qIu Qc Yg SE IX Sm W7 M3 Ua XO Q6 Mg Nk P3 RX qrX Qw Qa fB yE Do l8 nY fZ ct aI fq gG aG
theorem Dn(q:Ex×XS)(k:XS->Option (Ex×XS))(h:q.1≠.normal):lp (some q) k=some q:=by
 obtain⟨e,s'⟩:=q;cases e with
 |normal=>exact absurd rfl h
 |exit id=>rfl
 |ret=>rfl
def Al{β γ:Type}(L:Nat)(live:List Nat)(st:β->Nat->XS)(R:γ->Ex×XS)(i:Nat)(o:Option (Ex×XS)):β⊕γ->Prop
 | .inl a'=>∃s',o=some (.normal,s')/\aE L live s'=some (st a' (i+1))
 | .inr r=>(R r).1≠.normal/\o=some (R r)
theorem tQ{X:XEnv}{T:List Nat}{L:Nat}{live:List Nat}{b:VCode}{β γ:Type}{n:Nat}{st:β->Nat->XS}{step:β->Nat->β⊕γ}{F:β->Ex×XS}{R:γ->Ex×XS}(Inv:β->Nat->Prop)
 (j:∀a,Inv a n->(F a).1≠.normal/\aH X T b (st a n)=some (F a))
 (e:∀a i,i<n->Inv a i->Al L live st R i (aH X T b (st a i)) (step a i)/\∀a',step a i= .inl a'->Inv a' (i+1)):
 ∀(k:Nat) (a:β) (i:Nat) (s:XS),i+k=n->Inv a i->aE L live s=some (st a i)->bV X T L live b s=some (match runN step k a i with| .inl a'=>F a'| .inr r=>R r)
 |0,a,i,s,m,hi,hs=>by
  have:i=n:=by omega
  subst this;obtain⟨h1,l⟩:=j a hi;rw[lX,hs];simp only[aQ,l,runN];exact Dn _ _ h1
 |k+1,a,i,s,m,hi,hs=>by
  obtain⟨h,hinv⟩:=e a i (by omega) hi;rw[lX,hs];simp only[aQ,runN];generalize step a i=q at h hinv;cases q with
  |inl a'=>
   obtain⟨s',h1,l⟩:=h;have o:=tQ Inv j e k a' (i+1) s' (by omega) (hinv a' rfl) l;rw[h1];exact o
  |inr r=>
   obtain⟨h1,l⟩:=h;rw[l];exact Dn _ _ h1
theorem cg{X:XEnv}{T:List Nat}{L:Nat}{live:List Nat}{b:VCode}{β γ:Type}{n:Nat}{st:β->Nat->XS}{step:β->Nat->β⊕γ}{F:β->Ex×XS}{R:γ->Ex×XS}
 (h:∀a,(F a).1≠.normal/\aH X T b (st a n)=some (F a))
 (e:∀a i,i<n->Al L live st R i (aH X T b (st a i)) (step a i)) (k:Nat) (a:β) (i:Nat) (s:XS) (j:i+k=n) (hs:aE L live s=some (st a i)):
 bV X T L live b s=some (match runN step k a i with| .inl a'=>F a'| .inr r=>R r):=
 tQ (fun _ _=>True) (fun a _=>h a) (fun a i hi _=>⟨e a i hi,fun _ _=>trivial⟩) k a i s j trivial hs
theorem eF{X:XEnv}{T:List Nat}{L:Nat}{live:List Nat}{b:VCode}{s s0 s':XS}(h:aE L live s=some s0)(hb:aH X T b s0=some (.normal,s')):bV X T L live b s=bV X T L live b s':=by
 rw[lX,h];simp only[aQ,hb];rfl
theorem d7{X:XEnv}{T:List Nat}{L:Nat}{live:List Nat}{b:VCode}{s s0:XS}{q:Ex×XS}(h:aE L live s=some s0)(hb:aH X T b s0=some q)(a:q.1≠.normal):bV X T L live b s=some q:=by
 rw[lX,h];simp only[aQ,hb];exact Dn _ _ a
end Go.Proofs.YtpcoohnjllclnaaGreat.VS
