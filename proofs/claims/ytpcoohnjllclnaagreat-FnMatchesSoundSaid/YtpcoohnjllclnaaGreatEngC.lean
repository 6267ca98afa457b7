/- The engine, part 5: a call of the program answers what an evaluator of values without memory answers, for the functions whose code is the one that the evaluator is given. -/
import Derived.Test.YtpcoohnjllclnaaGreatEngE
set_option linter.unusedSimpArgs false
set_option linter.unusedVariables false
namespace Go.Proofs.YtpcoohnjllclnaaGreat.VS
open Classical
variable{v':AV}{B' B:ar}{k n:Nat}{rs:fK}{v:DV}{A:Ids}{sf:SFn}{lin:Nat->ae}{V:ct}{ds:al}{X:XEnv}
section
variable {A0:Ids} {T:ae} {F:Id->Prop} {p:Id} {sx:XS} {sv:St}
structure Back(F:Id->Prop)(p:Id)(A0:Ids)(v':AV)(B':ar)(r:Res):Prop where
 fit:v'.fit r.v
 boxes:qbe B' r.B
 held:Held F (fun _=>False) r.A (aI [(0,v')] B' [(0,r.v)] r.B)
 am:∀a,r.A a=true->A0 a=true\/Fut p 0 a
theorem Rel.back(h:Rel A0 T F p k sx sv){o:ar}(H:qbe B' o)(l:∀j,(bp B' o j).Sublist (bp sx.B sv.B j)){u:AV}(J:v'.fit u){A':Ids}
 (w:(v'.own u).Nodup) (q:∀a,a∈v'.own u->A' a=true/\¬F a/\∀j,a∉bp B' o j) (C:∀a,sv.A a=true->A' a=true) (x:∀a,A' a=true->A0 a=true\/Fut p 0 a):
 Back F p A0 v' B' ⟨u,A',o⟩:=by
 refine⟨J,H,⟨fun ℓ=> ?_,fun ℓ ℓ' a i e=> ?_,fun ℓ a i=> ?_,fun a i=>⟨C a (h.held.fr a i).1,id⟩⟩,x⟩
 ·cases ℓ with
  |reg t=>simp only[aI,fz];split
          ·exact w
          ·simp
  |box j=>exact(h.held.nodup (.box j)).sublist (l j)
 ·cases ℓ with
  |reg t=>
   simp only[aI,fz]at i;split at i
   ·rename_i y;subst y
    cases ℓ' with
    |reg D=>
     simp only[aI,fz]at e;split at e
     ·rename_i y;subst y;rfl
     ·simp at e
    |box j=>exact absurd e ((q a i).2.2 j)
   ·simp at i
  |box j=>
   cases ℓ' with
   |reg D=>
    simp only[aI,fz]at e;split at e
    ·exact absurd i ((q a e).2.2 j)
    ·simp at e
   |box z=>have:=h.held.apart (.box j) (.box z) a ((l j).subset i) ((l z).subset e);exact this
 ·cases ℓ with
  |reg t=>
   simp only[aI,fz]at i;split at i
   ·exact⟨(q a i).1,(q a i).2.1,id⟩
   ·simp at i
  |box j=>obtain⟨I,G,_⟩:=h.held.opn (.box j) a ((l j).subset i);exact⟨C a I,G,id⟩
theorem jy(B Bv:ar)(n j:Nat):(bp (B.take n) (Bv.take n) j).Sublist (bp B Bv j):=by
 simp only[bp,ub]
 by_cases a:j<n
 ·simp[a]
 ·simp[a]
theorem qPG(h:Rel A0 T F p k sx sv){r:VRes}{v:AV}(e:pn sx r=some v):∃u,jU sv r=some u/\v.fit u/\∀a,a∈v.own u->∃t,r= .tmp t/\T.contains t=true/\a∈br sx.r sv.r t:=by
 cases r with
 |tmp t=>
  simp only[pn]at e;obtain⟨u,l,o⟩:=h.regs t v e;refine⟨u,l,o,fun a j=>⟨t,rfl,?_,?_⟩⟩
  ·cases ht:T.contains t with
   |true=>rfl
   |false=>
    have:=h.nl t ht;unfold br at this;rw[e,l]at this;simp only at this
    rw[this]at j;simp at j
  ·unfold br;rw[e,l];exact j
 |cell t agg sz=>
  simp only[pn]at e;split at e
  ·rename_i i off l
   obtain⟨w,o,rfl⟩:=ay.1 e;obtain⟨u,cs,ds,y,C,_⟩:=yJ h.boxes o;obtain⟨x,z,q⟩:=h.regs t _ l;simp only[AV.fit]at q;subst q
   exact⟨u,by simp only[jU,z,y],AV.qcN _ _ C,fun a j=>by rw[AV.qbL]at j;simp at j⟩
  ·simp at e
theorem ut(h:Rel A0 T F p k sx sv):∀(rs:fK) (vs:aA),dn T (rs.flatMap VRes.vx)=true->nA sx rs=some vs->∃us,jS sv rs=some us/\AV.fits vs us/\(AV.owns vs us).Nodup/\
 (∀a,a∈AV.owns vs us->∃t,VX.t t∈rs.flatMap VRes.vx/\T.contains t=true/\a∈br sx.r sv.r t)/\(∀a,a∈AV.owns vs us->sv.A a=true/\¬F a/\∀j,a∉bp sx.B sv.B j)
 | [],vs,_,l=>by simp[nA]at l;subst l;exact⟨[],rfl,by simp[AV.fits],by simp[AV.owns],by simp[AV.owns],by simp[AV.owns]⟩
 |r::rs,vs,x,l=>by
  simp only[nA]at l;obtain⟨v,C,J⟩:=az.1 l;obtain⟨z,M,rfl⟩:=ay.1 J;obtain⟨u,D,R,q⟩:=qPG h C;have w:dn T (rs.flatMap VRes.vx)=true:=by
   cases r with
   |tmp t=>exact(l6 (by simpa[VRes.vx]using x)).2
   |cell t a s=>simpa[VRes.vx]using x
  obtain⟨us,g1,g2,Y,I,S⟩:=ut h rs z w M;refine⟨u::us,by simp[jS,D,g1],by simp only[AV.fits];exact⟨_,_,rfl,R,g2⟩,?_,fun a e=> ?_,fun a e=> ?_⟩
  ·simp only[AV.owns]
   rw[cJ];refine⟨?_,Y,fun a e b N P=> ?_⟩
   ·cases r with
    |tmp t=>
     have:=h.held.nodup (.reg t);simp only[aI,br]at this;simp only[pn]at C;simp only[jU]at D
     rw[C,D]at this;exact this
    |cell t ag s=>
     have:v.own u=[]:=List.eq_nil_iff_forall_not_mem.2 fun a e=>by obtain⟨H,i,_⟩:=q a e;simp at i
     rw[this];simp
   ·subst P
    obtain⟨t,rfl,o,i⟩:=q a e;obtain⟨H,G,W,y⟩:=I a N;have:=h.held.apart (.reg t) (.reg H) a i y;simp at this;subst this
    exact(l6 (by simpa[VRes.vx]using x)).1 t rfl o G
  ·simp only[AV.owns,bC]at e
   rcases e with e|e
   ·obtain⟨t,rfl,o,i⟩:=q a e
    exact⟨t,by simp[VRes.vx],o,i⟩
   ·obtain⟨t,G,y⟩:=I a e
    exact⟨t,by simp only[eI,bC];exact .inr G,y⟩
  ·simp only[AV.owns,bC]at e
   rcases e with e|e
   ·obtain⟨t,rfl,o,i⟩:=q a e
    obtain⟨O,Q,Z⟩:=h.held.opn (.reg t) a i;exact⟨O,Q,fun j K=>by have:=h.held.apart (.reg t) (.box j) a i K;simp at this⟩
   ·exact S a e
theorem TN(h:Rel A0 T F p sv.c sx sv){L:Nat}(S:dn T (rs.flatMap VRes.vx)=true)(o:v_ L sx rs=some (v',B')):
 ∃r,finish L p sv rs=some r/\Back F p A0 v' B' r:=by
 have D:∀a,sv.A a=true->A0 a=true\/Fut p 0 a:=fun a e=>(h.am a e).2
 have many:∀vs ds,nA sx rs=some vs->aV vs=some ds->∃us q,jS sv rs=some us/\AV.fits vs us/\aV us=some q/\us=q.map .d/\Back F p A0 (.d (.tup ds)) (sx.B.take L) ⟨.d (.tup q),sv.A,sv.B.take L⟩:=by
  intro vs ds z R;obtain⟨us,g1,g2,t,M,C⟩:=ut h rs vs S z;obtain⟨q,K,e2,e3⟩:=kr R g2;have Z:us=q.map .d:=by
   clear g1 g2 t M C e2 e3
   induction us generalizing q with
   |nil=>simp[aV]at K;subst K;rfl
   |cons u us ih=>
    cases u with
    |d d=>simp only[aV]at K;obtain⟨Y,G,rfl⟩:=ay.1 K;rw[ih Y G];rfl
    |_=>simp[aV]at K
  refine⟨us,q,g1,g2,K,Z,h.back (h.boxes.take L) (jy _ _ L) (by simp only[AV.fit,DV.fit];exact⟨_,rfl,_,rfl,e2⟩) (by simp only[AV.own,DV.own];rw[<-e3];exact t) (fun a e=> ?_) (fun a e=>e) D⟩;simp only[AV.own,DV.own]at e;rw[<-e3]at e;obtain⟨J,Q,N⟩:=C a e;exact⟨J,Q,fun j w=>N j ((jy _ _ L j).subset w)⟩
 unfold v_ at o;split at o
 ·rename_i v z
  simp at o;obtain⟨rfl,rfl⟩:=o
  obtain⟨us,g1,g2,t,M,C⟩:=ut h rs _ S z;simp only[AV.fits]at g2;obtain⟨u,_,rfl,l,rfl⟩:=g2;simp only[AV.fit]at l;obtain⟨y,rfl,x1⟩:=l;simp only[AV.owns,dB]at t C;refine⟨_,by unfold finish;rw[g1],h.back (h.boxes.take L) (jy _ _ L) (by simp only[AV.fit];exact⟨_,rfl,x1⟩) t (fun a e=> ?_) (fun a e=>e) D⟩;obtain⟨J,Q,N⟩:=C a e;exact⟨J,Q,fun j w=>N j ((jy _ _ L j).subset w)⟩
 ·rename_i i off z
  simp at o;obtain⟨rfl,rfl⟩:=o
  obtain⟨us,g1,g2,t,M,C⟩:=ut h rs _ S z;simp only[AV.fits]at g2;obtain⟨u,_,rfl,l,rfl⟩:=g2;simp only[AV.fit]at l;subst l;exact⟨_,by unfold finish;rw[g1],h.back h.boxes (fun j=>co _) (by simp[AV.fit]) (by simp[AV.own]) (by simp[AV.own]) (fun a e=>e) D⟩
 ·rename_i id agg i sz n z
  split at o
  ·rename_i hc
   obtain⟨cs,R,G⟩:=az.1 o;obtain⟨bs,h4,h5⟩:=az.1 R;split at G
   ·rename_i P
    obtain⟨xs,h6,h7⟩:=ay.1 G;simp at h7;obtain⟨rfl,rfl⟩:=h7
    obtain⟨us,g1,g2,t,M,C⟩:=ut h rs _ S z;simp only[AV.fits]at g2;obtain⟨u,_,rfl,l,rfl⟩:=g2;simp only[AV.fit]at l;obtain⟨x2,rfl⟩:=l;obtain⟨ds,J,Q⟩:=h.boxes.get h4;obtain⟨q,N,q4,q5⟩:=kr h5 Q;obtain⟨ys,q6,q7,q8,q9,a3⟩:=v8 agg sz n cs q xs q4 h6;have O:bp sx.B sv.B i=DV.owns cs q:=by unfold bp;rw[h4,J];exact q5
    have H:∀a,a∈DV.owns xs ys->a∈aI sx.r sx.B sv.r sv.B (.box i):=fun a e=>by simp only[aI];rw[O];exact q9.subset e
    have I:¬sv.A (sv.c::p)=true:=fun e=>(h.am _ e).1 (Fut.self p _)
    refine⟨⟨.d (.sl (.own (sv.c::p) sz) ys),Ids.add (sv.c::p) sv.A,sv.B.take L⟩,?_,?_⟩
    ·unfold finish
     rw[g1];simp only;rw[aw hc,J];simp only[a9,N];rw[aw (by rw[<-DV.qao q4];exact P),q6];rfl
    ·refine h.back (h.boxes.take L) (jy _ _ L) ?_ ?_ (fun a e=> ?_) (fun a e=>by simp[Ids.add,e]) (fun a e=> ?_)
     ·simp only[AV.fit,DV.fit]
      refine⟨_,rfl,_,_,rfl,q7,.inr ⟨rfl,?_⟩⟩
      by_cases hn:xs.length=0
      ·exact .inl ⟨hn,.inr ⟨_,_,rfl⟩⟩
      ·exact .inr ⟨hn,_,_,rfl,q8⟩
     ·simp only[AV.own,DV.own]
      rw[cJ];refine⟨by split<;>simp[Tag.ids],((h.held.nodup (.box i)).sublist (by simp only[aI];rw[O];exact q9)),fun a e b hb he=> ?_⟩;split at e<;>simp[Tag.ids]at e
      subst e;subst he
      exact I (h.held.opn _ _ (H _ hb)).1
     ·simp only[AV.own,DV.own,bC]at e
      rcases e with e|e
      ·split at e<;>simp[Tag.ids]at e
       subst e;refine⟨by simp[Ids.add],fun hF=>I (h.held.fr _ hF).1,fun j w=> ?_⟩;exact I (h.held.opn (.box j) _ ((jy _ _ L j).subset w)).1
      ·obtain⟨z1,z2,_⟩:=h.held.opn _ a (H a e)
       refine⟨by simp[Ids.add,z1],z2,fun j w=> ?_⟩;have:=h.held.apart (.box i) (.box j) a (H a e) ((jy _ _ L j).subset w);simp at this;subst this
       simp only[bp,ub]at w;rw[au (by omega)]at w;simp at w
     ·simp only[Ids.add,cI,bu]at e
      rcases e with rfl|e
      ·exact .inr ((Fut.self p _).le (db _))
      ·exact D a e
   ·simp at G
  ·simp at o
 ·simp at o
 ·rename_i vs x3 a2 a1 W z
  obtain⟨ds,R,G⟩:=ay.1 o;simp at G;obtain⟨rfl,rfl⟩:=G
  obtain⟨us,q,g1,g2,t,M,C⟩:=many vs ds z R;refine⟨_,?_,C⟩;unfold finish;rw[g1]
  match us,g2 with
  | [],_=>simp at M;simp[aV]at t;subst t;rfl
  | [u],g2=>
   have hl:=AV.qao g2
   match vs,hl with
   | [x],_=>exact absurd rfl (W x)
  |u::u'::us,_=>simp only[t,bH]
 ·simp at o
theorem EJ(h:Rel A0 T F p sv.c sx sv){L:Nat}(hd:dn T (rs.flatMap VRes.vx)=true)(e:gf L sx rs=some (v',B')):
 ∃r,finish L p sv rs=some r/\Back F p A0 v' B' r:=by
 unfold gf at e;split at e
 ·rename_i t agg sz
  unfold Cy at e;split at e
  ·rename_i i off h1
   split at e
   ·rename_i hL
    split at e
    ·rename_i v h2
     simp at e;obtain⟨rfl,rfl⟩:=e
     obtain⟨u,cs,ds,Q,O,h5,h6,J,h8,h9⟩:=yJ h.boxes h2;obtain⟨x,g1,g2⟩:=h.regs t _ h1;simp only[AV.fit]at g2;subst g2
     have w:=O;simp only[AV.fit]at w;obtain⟨y,rfl,hy⟩:=w;have D:bp sx.B sv.B i=AV.owns cs ds:=by unfold bp;rw[h5,h6]
     have o:((AV.d v).own (.d y)).Sublist (AV.owns cs ds):=by rw[h8,AV.qbX (AV.qao J) off];refine List.Sublist.trans ?_ (gV _ _);rw[AV.qbX (a:=cs.drop off) (c:=ds.drop off) (by simp[AV.qao J]) (if agg=true then sz else 1)];exact pC _ _
     refine⟨_,by unfold finish;simp only[jS,jU,g1,Q,a9,bH],h.back (h.boxes.take L) (jy _ _ L) O ((h.held.nodup (.box i)).sublist (by simp only[aI];rw[D];exact o)) (fun a l=> ?_) (fun a l=>l) (fun a l=>(h.am a l).2)⟩;have C:a∈aI sx.r sx.B sv.r sv.B (.box i):=by simp only[aI];rw[D];exact o.subset l
     obtain⟨I,K,_⟩:=h.held.opn _ a C;refine⟨I,K,fun j G=> ?_⟩;have:=h.held.apart (.box i) (.box j) a C ((jy _ _ L j).subset G);simp at this;subst this
     simp only[bp,ub]at G;rw[au (by omega)]at G;simp at G
    ·simp at e
   ·simp at e
  ·simp at e
 ·rename_i t1 g1 z1 t2 g2 z2 t3
  unfold EL at e;split at e
  ·rename_i N o1 M o2 b e1 e2 e3
   split at e
   ·rename_i hL
    obtain⟨R,Z,x2⟩:=hL;split at e
    ·rename_i v1 v2 l1 l2
     simp at e;obtain⟨rfl,rfl⟩:=e
     have one:∀(t i off:Nat) (g:Bool) (z:Nat) (v:DV),lk sx.r t=some (.ptr i off)->aP sx.B g z i off=some (.d v)->∃y,jU sv (.cell t g z)=some (.d y)/\v.fit y/\(v.own y).Sublist (bp sx.B sv.B i):=by
      intro t i off g z v I K;obtain⟨u,cs,ds,Q,O,h5,h6,J,h8,h9⟩:=yJ h.boxes K;obtain⟨x,r1,r2⟩:=h.regs t _ I;simp only[AV.fit]at r2;subst r2
      have w:=O;simp only[AV.fit]at w;obtain⟨y,rfl,hy⟩:=w;have D:bp sx.B sv.B i=AV.owns cs ds:=by unfold bp;rw[h5,h6]
      have o:((AV.d v).own (.d y)).Sublist (AV.owns cs ds):=by rw[h8,AV.qbX (AV.qao J) off];refine List.Sublist.trans ?_ (gV _ _);rw[AV.qbX (a:=cs.drop off) (c:=ds.drop off) (by simp[AV.qao J]) (if g=true then z else 1)];exact pC _ _
      exact⟨y,by simp only[jU,r1,Q],hy,by rw[D];exact o⟩
     obtain⟨y1,a1,a2,Y⟩:=one t1 N o1 g1 z1 v1 e1 l1;obtain⟨y2,b1,b2,W⟩:=one t2 M o2 g2 z2 v2 e2 l2;obtain⟨x,c1,c2⟩:=h.regs t3 _ e3;simp only[AV.fit]at c2;obtain⟨y3,rfl,c3⟩:=c2;have x1:y3= .bool b:=by simpa only[DV.fit]using c3
     subst x1;have H:DV.owns [v1,v2,.bool b] [y1,y2,.bool b]=v1.own y1++(v2.own y2++[]):=by simp only[DV.owns,DV.own,dB]
     have good:∀i a,L<=i->a∈bp sx.B sv.B i->sv.A a=true/\¬F a/\∀j,a∉bp (sx.B.take L) (sv.B.take L) j:=fun i a hi l=>by
      have C:a∈aI sx.r sx.B sv.r sv.B (.box i):=l;obtain⟨I,K,_⟩:=h.held.opn _ a C;refine⟨I,K,fun j G=> ?_⟩;have:=h.held.apart (.box i) (.box j) a C ((jy _ _ L j).subset G);simp at this;subst this
      simp only[bp,ub]at G;rw[au (by omega)]at G;simp at G
     have P:jU sv (.tmp t3)=some (ax b):=c1;refine⟨⟨.d (.tup [y1,y2,.bool b]),sv.A,sv.B.take L⟩,by unfold finish;simp only[jS,a1,b1,P,a9,bH,aV],h.back (h.boxes.take L) (jy _ _ L) ?_ ?_ (fun a l=> ?_) (fun a l=>l) (fun a l=>(h.am a l).2)⟩
     ·simp only[AV.fit,DV.fit,DV.fits]
      exact⟨_,rfl,_,rfl,_,_,rfl,a2,_,_,rfl,b2,_,_,rfl,rfl,rfl⟩
     ·simp only[AV.own,DV.own,H,dB]
      rw[cJ];refine⟨(h.held.nodup (.box N)).sublist Y,(h.held.nodup (.box M)).sublist W,fun q hq q' S he=> ?_⟩;subst he;have:=h.held.apart (.box N) (.box M) q (Y.subset hq) (W.subset S);simp at this;exact x2 this
     ·simp only[AV.own,DV.own,H,dB,bC]at l
      rcases l with l|l
      ·exact good N a R (Y.subset l)
      ·exact good M a Z (W.subset l)
    ·simp at e
   ·simp at e
  ·simp at e
 ·exact TN h hd e
theorem uh{x:DV}(h:x.fit v):v.flat=x.flat:=by
 cases x<;>simp only[DV.fit]at h
 case agg cs=>obtain⟨ds,rfl,a⟩:=h;rfl
 case sl g xs=>
  obtain⟨g',j,rfl,a,i⟩:=h;cases xs with
  |nil=>simp only[DV.fits]at a;subst a;rfl
  |cons x r=>simp only[DV.fits]at a;obtain⟨y,e,rfl,_,_⟩:=a;rfl
 case tup cs=>obtain⟨ds,rfl,a⟩:=h;rfl
 all_goals subst h;rfl
theorem Xv{sx:XS}{sv:St}(h:Rel A0 T F p k sx sv){y:DV×DV}(a:qg sx=some y):
 ∃e,po sv=some e/\y.1.fit e.1/\y.2.fit e.2/\y.1.own e.1=[]/\y.2.own e.2=[]:=by
 unfold qg at a;split at a
 ·rename_i Y P S R W Z J H e3
  split at a
  ·rename_i hc
   simp only[aL]at a;subst a
   obtain⟨v3,g1,g2⟩:=h.regs 3 _ J;obtain⟨v4,M,w⟩:=h.regs 4 _ H;simp only[AV.fit]at g2 w;subst g2;subst w
   have i:=h.boxes;rw[e3]at i;obtain⟨Q,o,t⟩:=(i.2 0).2 _ rfl;obtain⟨c1,j,q⟩:=(i.2 1).2 _ rfl;simp only[AV.fits,AV.fit]at t q;obtain⟨_,_,rfl,⟨w0,rfl,l⟩,_,_,rfl,⟨u,rfl,f1⟩,D,_,rfl,_,rfl⟩:=t;obtain⟨_,_,rfl,⟨O,rfl,K⟩,_,_,rfl,⟨G,rfl,z⟩,_,_,rfl,⟨x,rfl,C⟩,rfl⟩:=q;have N:sv.B=[some [.d w0,.d u,D],some [.d O,.d G,.d x]]:=by
    have I:=i.1
    match hs:sv.B,I with
    | [m,n],_=>rw[hs]at o j;simp at o j;subst o;subst j;rfl
   refine⟨(w0,u),?_,DV.qcN _ _ l,DV.qcN _ _ f1,DV.qbL _ _,DV.qbL _ _⟩;unfold po;rw[g1,M,N];simp only;rw[uh l,uh f1,uh K,uh z,uh C,DV.qel l,DV.qel f1,aw hc]
  ·simp at a
 ·simp at a
theorem HM:∀{xs vs:al},DV.fits xs vs->DV.fits (xs.flatMap DV.cells) (vs.flatMap DV.cells)/\DV.owns (xs.flatMap DV.cells) (vs.flatMap DV.cells)=DV.owns xs vs
 | [],vs,h=>by simp only[DV.fits]at h;subst h;simp[DV.fits,DV.owns]
 |x::xs,vs,h=>by simp only[DV.fits]at h;obtain⟨v,vs,rfl,a,e⟩:=h;obtain⟨j,i⟩:=HM e;simp only[eI];exact⟨DV.qaW (DV.qa5 a) j,by rw[DV.qaT (DV.qao (DV.qa5 a)),DV.qdy a,i];simp only[DV.owns]⟩
theorem qIt{X:cq}(Y:hZ X V lin){a:Id}{sz:Nat}{x y:DV}{xr w:al}{q:Id}
 (Z:x.fit y) (h2:DV.fits xr w) (N:∀b,b∈a::DV.owns (x::xr) (y::w)->A b=true/\¬Fut q 0 b) (D:(a::DV.owns (x::xr) (y::w)).Nodup)
 (h4:∀e:DV,e∈y::w->e.cells.length=sz) {r:al} (C:iF X sf x xr=some r):
 ∃G M,lM V q sf A a y w=some (G,Ids.add a M)/\DV.fits r G/\r.length=xr.length+1/\(∀e:DV,e∈G->e.cells.length=sz)/\(a::DV.owns r G).Nodup/\(∀b,b∈DV.owns r G->M b=true)/\(∀b,M b=true->b∈DV.owns (x::xr) (y::w)\/Fut q 0 b):=by
 unfold iF at C;split at C
 ·rename_i hu
  have hf:DV.fits (x::xr) (y::w):=by simp only[DV.fits];exact⟨_,_,rfl,Z,h2⟩
  obtain⟨l,x2,z⟩:=AW _ _ hf hu;obtain⟨c1,c2⟩:=HM hf;rw[ju]at D;split at C
  ·rename_i v cs J
   obtain⟨es,d1,C⟩:=az.1 C;split at C
   ·rename_i Q
    have x3:AV.fits [AV.tsl true 0 x.cells.length (xr.length+1),.fn sf.cmp []] [AV.tsl true 0 y.cells.length (w.length+1),.fn sf.cmp []]:=by simp only[AV.fits,AV.fit];rw[DV.qbH Z,<-DV.qao h2];exact⟨_,_,rfl,rfl,_,_,rfl,⟨_,rfl,rfl,by simp[AV.owns]⟩,rfl⟩
    have K:∀j,br (bo 0 [AV.tsl true 0 x.cells.length (xr.length+1),.fn sf.cmp []]) (bo 0 [AV.tsl true 0 y.cells.length (w.length+1),.fn sf.cmp []]) j=[]:=by
     intro j;rw[nh]
     match j with
     |0=>simp[AV.own]
     |1=>simp[AV.own]
     |j+2=>simp
    have R:∀j,bp [some (((x::xr).flatMap DV.cells).map AV.d)] [some (((y::w).flatMap DV.cells).map AV.d)] j=if j=0 then DV.owns (x::xr) (y::w)else []:=by
     intro j;unfold bp aT
     match j with
     |0=>simp only[eG,if_true];show AV.owns _ _=_;rw[AV.qiW,c2]
     |j+1=>simp
    have H:∀ℓ b,b∈aI (bo 0 [AV.tsl true 0 x.cells.length (xr.length+1),.fn sf.cmp []]) [some (((x::xr).flatMap DV.cells).map AV.d)] (bo 0 [AV.tsl true 0 y.cells.length (w.length+1),.fn sf.cmp []]) [some (((y::w).flatMap DV.cells).map AV.d)] ℓ->ℓ= .box 0/\b∈DV.owns (x::xr) (y::w):=by
     intro ℓ b o;cases ℓ with
     |reg t=>simp only[aI,K]at o;simp at o
     |box j=>
      simp only[aI,R]at o;split at o
      ·rename_i hj;subst hj;exact⟨rfl,o⟩
      ·simp at o
    obtain⟨u,O,M,hV,_,P,hh,h5⟩:=Y _ _ _ _ _ J q _ [some (((y::w).flatMap DV.cells).map AV.d)] (fun b=>l.contains b) (fun _=>False) x3
     ⟨rfl,fun i=>by
      match i with
      |0=>exact⟨by simp,fun cs hc=>by simp at hc;subst hc;exact⟨_,rfl,by have:=AV.qiY c1;simpa using this⟩⟩
      |i+1=>exact⟨by simp,fun cs hc=>by simp at hc⟩⟩
     ⟨fun ℓ=>by
      cases ℓ with
      |reg t=>simp only[aI,K];simp
      |box j=>simp only[aI,R];split
              ·exact D.2
              ·simp,
      fun ℓ ℓ' b o a1=>by rw[(H ℓ b o).1,(H ℓ' b a1).1],
      fun ℓ b o=>⟨by simpa using z.mem_iff.2 (H ℓ b o).2,id,(N b (em _ (H ℓ b o).2)).2⟩,fun b o=>by simp at o⟩
     (fun j _=>K j) (fun b o=>by
      have:b∈l:=by simpa using o
      exact(N b (em _ (z.mem_iff.1 this))).2)
    obtain⟨ds,e1,e2⟩:=(P.2 0).2 cs rfl;have x1:O=[some ds]:=by
     have hl:=P.1
     match O,hl with
     | [m],_=>simp at e1;subst e1;rfl
    subst x1;obtain⟨a2,d2,d3,d4⟩:=kr d1 e2;obtain⟨G,k1,k2,k3,k4,k5⟩:=v8 _ _ _ _ _ _ d3 C;have I:∀b,b∈DV.owns r G->M b=true:=fun b o=>(hh.opn (.box 0) b (by simp only[aI,bp,aT];simp only[eG];show b∈AV.owns _ _;rw[d4];exact k4.subset o)).1
    have W:(DV.owns r G).Nodup:=by have:=hh.nodup (.box 0);simp only[aI,bp,aT,eG]at this;have h':(AV.owns cs ds).Nodup:=this;rw[d4]at h';exact h'.sublist k4
    have S:∀b,M b=true->b∈DV.owns (x::xr) (y::w)\/Fut q 0 b:=fun b o=>(h5 b o).imp_left fun h=>z.mem_iff.1 (by simpa using h)
    refine⟨G,M,?_,k2,k5,fun e he=>by rw[k3 e he,<-DV.qbH Z];exact h4 y (by simp),?_,I,S⟩
    ·unfold lM
     rw[x2,a9,aw ⟨(N a (by simp)).1,bB.2 fun b o=>(N b (em _ (z.mem_iff.1 o))).1,by
      have:¬a∈l:=fun hm=>D.1 (z.mem_iff.1 hm)
      simpa using this⟩,hV]
     simp only[d2,a9];rw[DV.qbH Z,<-DV.qao h2,aw (by rw[<-DV.qao d3];exact Q),k1];rfl
    ·rw[ju]
     refine⟨fun hm=> ?_,W⟩;rcases S a (I a hm)with h3|h3
     ·exact D.1 h3
     ·exact(N a (by simp)).2 h3
   ·simp at C
  ·simp at C
 ·simp at C
theorem YV{X:cq}(G:hZ X V lin){T:ae}{p:Id}{K:al}(hf:DV.fits ds K)
 (R:sf.pre.linOK T=true) (M:sf.rest.linOK T=true) (O:dn T (sf.results.flatMap VRes.vx)=true)
 (hz:∀j,br (bo 0 (ds.map .d)) (bo 0 (K.map .d)) j=[])(hx:iJ X lin T n sf ds=some v):
 ∃u l,mO V n p sf K=some (u,l)/\v.fit u/\(v.own u).Nodup/\(∀a,a∈v.own u->l a=true)/\∀a,l a=true->Fut p 0 a:=by
 unfold iJ at hx;split at hx
 ·simp at hx
 rename_i x1;have h5:=AV.qiY hf;have H:∀ℓ,aI (bo 0 (ds.map AV.d)) [] (bo 0 (K.map AV.d)) [] ℓ=[]:=by
  intro ℓ;cases ℓ with
  |reg t=>exact hz t
  |box j=>simp[aI,bp,aT]
 have h0:Rel Ids.none T (fun _=>False) p (⟨bo 0 (K.map .d),[],Ids.none,0⟩:St).c ⟨bo 0 (ds.map .d),[]⟩ ⟨bo 0 (K.map .d),[],Ids.none,0⟩:=by
  refine⟨fun t x N=> ?_,⟨rfl,by simp⟩,⟨fun ℓ=>by rw[H];simp,fun ℓ ℓ' a o=>by rw[H]at o;simp at o,fun ℓ a o=>by rw[H]at o;simp at o,fun a o=>by simp at o⟩,fun j _=>hz j,fun t N=> ?_,fun a o=>by simp[Ids.none]at o⟩
  ·simp only[lj]at N⊢
   simp only[db,if_true,lq]at N⊢
   exact AV.qce h5 N
  ·simp only[lj]at N⊢
   simp only[db,if_true,lq]at N⊢
   rw[Ak]at N⊢
   have:=AV.qao h5;omega
 obtain⟨⟨e,s1⟩,h1,S⟩:=az.1 hx;obtain⟨v1,h3,D⟩:=uQ G n sf.pre R _ _ _ _ h0 h1;have P:¬K.length≠sf.np:=by rw[<-DV.qao hf];exact x1
 have z:∀{e:Ex},(e= .normal)->((bN X lin T n sf.rest s1).bind fun I=>match I.1 with
  | .exit _=>none
  |_=>(gf 0 I.2 sf.results).bind fun q=>match q.1 with
   | .d v=>some v
   |_=>none)=some v->∃u l,((bQ V p n sf.rest v1).bind fun I=>match I.1 with
  | .exit _=>none
  |_=>(finish 0 p I.2 sf.results).bind fun q=>match q.v with
   | .d v=>some (v,q.A)
   |_=>none)=some (u,l)/\v.fit u/\(v.own u).Nodup/\(∀a,a∈v.own u->l a=true)/\∀a,l a=true->Fut p 0 a:=by
  intro _ _ hr;obtain⟨⟨Q,s2⟩,r1,I⟩:=az.1 hr;obtain⟨v2,r3,r4⟩:=uQ G n sf.rest M _ _ _ _ D r1;have key:((gf 0 s2 sf.results).bind fun q=>match q.1 with
   | .d v=>some v
   |_=>none)=some v->∃u l,((finish 0 p v2 sf.results).bind fun q=>match q.v with
   | .d v=>some (v,q.A)
   |_=>none)=some (u,l)/\v.fit u/\(v.own u).Nodup/\(∀a,a∈v.own u->l a=true)/\∀a,l a=true->Fut p 0 a:=by
   intro hk;obtain⟨⟨w,B'⟩,k1,k2⟩:=az.1 hk;obtain⟨⟨w',Aw,Bw⟩,k3,k4⟩:=EJ r4 O k1;split at k2
   ·rename_i d hd
    simp only at hd;subst hd
    simp only[aL]at k2;subst k2
    have k5:=k4.fit;simp only[AV.fit]at k5;obtain⟨u,rfl,k6⟩:=k5;refine⟨u,Aw,by rw[k3];rfl,k6,?_,fun a o=> ?_,fun a o=> ?_⟩
    ·have:=k4.held.nodup (.reg 0)
     simp only[aI,fz]at this;simpa[AV.own]using this
    ·exact(k4.held.opn (.reg 0) a (by simp only[aI,fz];simpa[AV.own]using o)).1
    ·rcases k4.am a o with h|h
     ·simp[Ids.none]at h
     ·exact h
   ·simp at k2
  rw[r3,a9];cases Q with
  |exit id=>simp at I
  |normal=>exact key I
  |ret=>exact key I
 unfold mO;rw[au P,h3,a9];simp only at S⊢
 split at S
 ·rename_i x xr Z Q
  obtain⟨vb,g1,g2⟩:=D.regs _ _ Z;simp only[AV.fit,DV.fit]at g2;obtain⟨_,rfl,rfl⟩:=g2;obtain⟨vr,g3,W⟩:=D.regs _ _ Q;have x2:=W;simp only[AV.fit,DV.fit]at W;obtain⟨_,rfl,g',ys,rfl,g5,J⟩:=W;rcases J with J|⟨_,J⟩
  ·exact absurd J (by decide)
  rcases J with⟨J,_⟩|⟨_,a,sz,rfl,g7⟩
  ·simp at J
  have x3:=g5;simp only[DV.fits]at g5;obtain⟨y,yr,rfl,f1,f2⟩:=g5;obtain⟨w,m1,m2⟩:=az.1 S;obtain⟨q,m3,m4⟩:=ay.1 m2;subst m4;obtain⟨w',n1,n2,n3,n4,n5⟩:=Xv D m1;have C:∀b,b∈a::DV.owns (x::xr) (y::yr)->b∈aI s1.r s1.B v1.r v1.B (.reg sf.row):=by intro b i;simp only[aI,br,Q,g3,AV.own,DV.own];rw[aw ⟨rfl,by simp⟩];simpa[Tag.ids]using i
  have Y:(a::DV.owns (x::xr) (y::yr)).Nodup:=by have:=D.held.nodup (.reg sf.row);simp only[aI,br,Q,g3,AV.own,DV.own]at this;rw[aw ⟨rfl,by simp⟩]at this;simpa[Tag.ids]using this
  obtain⟨r',l,s3,s4,s5,s6,s7,s8,s9⟩:=qIt G (A:=v1.A) (a:=a) (sz:=sz) (q:=(v1.c+1)::p) f1 f2 (fun b i=>by obtain⟨t1,_,t3⟩:=D.held.opn _ b (C b i);exact⟨t1,fun hF=>t3 (hF.sub.le (ch _))⟩) Y g7 m3
  simp only[g1,g3];refine⟨.agg [w'.1,w'.2,.sl (.own a sz) r'],Ids.add a l,by rw[n1,a9,s3];rfl,?_,?_,fun b i=> ?_,fun b i=> ?_⟩
  ·simp only[DV.fit,DV.fits]
   exact⟨_,rfl,_,_,rfl,n2,_,_,rfl,n3,_,_,rfl,⟨_,_,rfl,s4,.inr ⟨rfl,.inr ⟨by omega,_,_,rfl,s6⟩⟩⟩,rfl⟩
  ·simp only[DV.own,DV.owns,n4,n5]
   rw[aw ⟨trivial,by omega⟩];simpa[Tag.ids]using s7
  ·simp only[DV.own,DV.owns,n4,n5]at i
   rw[aw ⟨trivial,by omega⟩]at i;simp only[Ids.add,cI,bu];simp[Tag.ids]at i;rcases i with rfl|i
   ·exact .inl rfl
   ·exact .inr (s8 b i)
  ·have old:∀b,b∈a::DV.owns (x::xr) (y::yr)->Fut p 0 b:=fun b i=>by
    rcases(D.am b (D.held.opn _ b (C b i)).1).2 with h|h
    ·simp[Ids.none]at h
    ·exact h
   simp only[Ids.add,cI,bu]at i;rcases i with rfl|i
   ·exact old b (by simp)
   ·rcases s9 b i with h|h
    ·exact old b (em _ h)
    ·exact h.sub.le (db _)
 ·rename_i Z
  obtain⟨vb,g1,g2⟩:=D.regs _ _ Z;simp only[AV.fit,DV.fit]at g2;obtain⟨_,rfl,rfl⟩:=g2;obtain⟨u,l,k1,k2⟩:=z (e:= .normal) rfl S;exact⟨u,l,by simp only[g1];exact k1,k2⟩
 ·rename_i g Z Q
  obtain⟨vb,g1,g2⟩:=D.regs _ _ Z;simp only[AV.fit,DV.fit]at g2;obtain⟨_,rfl,rfl⟩:=g2;obtain⟨vr,g3,W⟩:=D.regs _ _ Q;simp only[AV.fit,DV.fit,DV.fits]at W;obtain⟨_,rfl,g',ys,rfl,rfl,J⟩:=W;obtain⟨u,l,k1,k2⟩:=z (e:= .normal) rfl S;exact⟨u,l,by simp only[g1,g3];exact k1,k2⟩
 ·simp at S
def pA(g:al->cZ)(gv:Id->aA->og):Prop:=∀ds v,g ds=some v->∀h p,DV.fits ds h->∃u e,gv p (h.map .d)=some (u,e)/\v.fit u/\(v.own u).Nodup/\(∀a,a∈v.own u->e a=true)/\∀a,e a=true->Fut p 0 a
structure XOK(X:XEnv):Prop where
 code:∀f vf,X.env.code f=some vf->vf.linOK (X.lin f)=true
 nat:∀f g,X.nat f=some g->∃gv,X.env.nat f=some gv/\pA g gv/\X.lin f=[]
 no:∀f,X.nat f=none->X.env.nat f=none
 spec:∀f sf,X.env.spec f=some sf->sf.pre.linOK (X.lin f)=true/\sf.rest.linOK (X.lin f)=true/\dn (X.lin f) (sf.results.flatMap VRes.vx)=true/\(X.lin f).all (fun j=>decide (sf.np<=j))=true
theorem Fj:∀{cs:aA} {ds:al},aV cs=some ds->cs=ds.map .d
 | [],ds,h=>by simp[aV]at h;subst h;rfl
 |v::cs,ds,h=>by
  cases v with
  |d d=>simp only[aV]at h;obtain⟨e,a,rfl⟩:=ay.1 h;rw[Fj a];rfl
  |_=>simp[aV]at h
theorem ME{xs vs:aA}{Bv:ar}{o:Ids}{F:Id->Prop}{p:Id}{u:DV}{R:Option Res}(l:Held F (Fut p 0) A (aI (bo 0 xs) B (bo 0 vs) Bv))(G:qbe B Bv)
 (g2:v.fit u) (M:(v.own u).Nodup) (z:∀a,a∈v.own u->o a=true) (y:∀a,o a=true->Fut p 0 a) (N:R=some ⟨.d u,Ids.or o A,Bv⟩):
 ∃w i A',R=some ⟨w,A',i⟩/\(AV.d v).fit w/\qbe B i/\Held F (fun _=>False) A' (aI [(0,.d v)] B [(0,w)] i)/\∀a,A' a=true->A a=true\/Fut p 0 a:=by
 refine⟨.d u,Bv,Ids.or o A,N,by simp only[AV.fit];exact⟨_,rfl,g2⟩,G,⟨fun ℓ=> ?_,fun ℓ ℓ' a e h=> ?_,fun ℓ a e=> ?_,fun a e=>⟨by simp[Ids.or,(l.fr a e).1],id⟩⟩,fun a e=> ?_⟩
 ·cases ℓ with
  |reg t=>simp only[aI,fz];split
          ·exact M
          ·simp
  |box j=>exact l.nodup (.box j)
 ·have key:∀a j,a∈v.own u->a∉bp B Bv j:=fun a j q J=>(l.opn (.box j) a J).2.2 (y a (z a q))
  cases ℓ with
  |reg t=>
   simp only[aI,fz]at e;split at e
   ·rename_i x;subst x
    cases ℓ' with
    |reg D=>
     simp only[aI,fz]at h;split at h
     ·rename_i x;subst x;rfl
     ·simp at h
    |box j=>exact absurd h (key a j e)
   ·simp at e
  |box j=>
   cases ℓ' with
   |reg D=>
    simp only[aI,fz]at h;split at h
    ·exact absurd e (key a j h)
    ·simp at h
   |box C=>exact l.apart (.box j) (.box C) a e h
 ·cases ℓ with
  |reg t=>
   simp only[aI,fz]at e;split at e
   ·have q:=z a e
    exact⟨by simp[Ids.or,q],fun I=>(l.fr a I).2 (y a q),id⟩
   ·simp at e
  |box j=>obtain⟨H,K,_⟩:=l.opn (.box j) a e;exact⟨by simp[Ids.or,H],K,id⟩
 ·simp only[Ids.or,cI]at e
  rcases e with e|e
  ·exact .inr (y a e)
  ·exact .inl e
theorem IB(W:XOK X):∀n,hZ (cG X n) (eg X.env n) X.lin:=by
 intro n
 induction n with
 |zero=>intro f xs B v' B' h;simp[cG]at h
 |succ n ih=>
  intro f xs B v' B' D p vs Bv A F hf O hh hl b2;simp only[cG]at D;split at D
  ·rename_i g hg
   obtain⟨gv,h1,R,N⟩:=W.nat f g hg;obtain⟨ds,G,Q⟩:=az.1 D;obtain⟨v,I,y⟩:=ay.1 Q;simp at y;obtain⟨rfl,rfl⟩:=y
   obtain⟨es,P,e2,e3⟩:=kr G hf;have Y:vs=es.map .d:=by
    clear D hf hh hl e2 e3 G
    induction vs generalizing es with
    |nil=>simp[aV]at P;subst P;rfl
    |cons u us ih=>
     cases u with
     |d d=>simp only[aV]at P;obtain⟨a2,N,rfl⟩:=ay.1 P;rw[ih a2 N];rfl
     |_=>simp[aV]at P
   obtain⟨u,A1,g1,g2,g3,g4,g5⟩:=R ds v I es p e2;refine ME hh O g2 g3 g4 g5 ?_;simp only[eg,h1,P,a9];rw[Y,g1];rfl
  ·rename_i hg
   split at D
   ·rename_i H
    split at D
    ·simp at D
    rename_i sf hs;obtain⟨ds,G,Q⟩:=az.1 D;obtain⟨v,I,y⟩:=ay.1 Q;simp at y;obtain⟨rfl,rfl⟩:=y
    obtain⟨es,P,e2,e3⟩:=kr G hf;have x3:=Fj G;have Y:=Fj P;obtain⟨l1,l2,l3,l4⟩:=W.spec f sf hs;have Z:ds.length=sf.np:=by
     unfold iJ at I;split at I
     ·simp at I
     ·rename_i hn;simpa using hn
    obtain⟨u,A1,g1,g2,g3,g4,g5⟩:=YV ih (p:=p) e2 l1 l2 l3 (fun j=>by
     rw[<-x3,<-Y]
     by_cases hj:(X.lin f).contains j=true
     ·have h8:=bB.1 l4 j (by simpa using hj)
      simp only[bu]at h8;rw[nh];rw[x3,gU (by simp;omega)]
     ·exact hl j (by simpa using hj)) I
    refine ME hh O g2 g3 g4 g5 ?_;simp only[eg,W.no f hg,H,hs,P,a9,g1];rfl
   ·rename_i vf H
    split at D
    ·simp at D
    ·rename_i Z
     split at D
     case h_2 m hbm=>
      split at D
      ·simp at D
      rename_i a1;obtain⟨⟨e,s1⟩,h1,R⟩:=az.1 D;have w:=W.code f vf H;simp only[VFn.linOK,aQ]at w;have J:=AV.qao hf;obtain⟨hcf,hco⟩:=AV.qbm _ _ hf;have b1:qbe (fZ B) Bv:=by
       refine⟨by simp[fZ,O.1],fun i=>⟨fun h=> ?_,fun cs h=> ?_⟩⟩
       ·simp only[fZ,c7]at h
        obtain⟨o,N,G⟩:=ay.1 h;cases o with
        |none=>exact(O.2 i).1 N
        |some c=>simp at G
       ·simp only[fZ,c7]at h
        obtain⟨o,N,G⟩:=ay.1 h;cases o with
        |none=>simp at G
        |some c=>simp only[bH,aL]at G;subst G;obtain⟨ds,Q,I⟩:=(O.2 i).2 c N;exact⟨ds,Q,(AV.qbm _ _ I).1⟩
      have x2:∀j,br (bo 0 (AV.clrs xs)) (bo 0 vs) j=[]:=by
       intro j;rw[nh,AV.qaw,c7];cases xs[j]? with
       |none=>rfl
       |some a=>cases vs[j]? with
        |none=>rfl
        |some b=>simp[AV.qbL]
      have a3:∀j,bp (fZ B) Bv j=[]:=by
       intro j;unfold bp;split
       ·rename_i cs ds q1 q2
        have q3:=jz.1 q1;simp only[fZ,c7]at q3;obtain⟨o,q4,q5⟩:=ay.1 q3;cases o with
        |none=>simp at q5
        |some c=>
         simp only[bH,aL]at q5;subst q5;obtain⟨ds',q6,q7⟩:=(O.2 j).2 c q4;have:=jz.1 q2;rw[q6]at this;simp only[aL]at this;subst this
         exact(AV.qbm _ _ q7).2
       ·rfl
      have M:∀ℓ,aI (bo 0 (AV.clrs xs)) (fZ B) (bo 0 vs) Bv ℓ=[]:=by
       intro ℓ;cases ℓ with
       |reg t=>exact x2 t
       |box j=>exact a3 j
      have h0:Rel Ids.none (X.lin f) (fun _=>False) p 0 ⟨bo 0 (AV.clrs xs),fZ B⟩ ⟨bo 0 vs,Bv,Ids.none,0⟩:=by
       refine⟨fun t x z=> ?_,b1,⟨fun ℓ=>by rw[M];simp,fun ℓ ℓ' a l=>by rw[M]at l;simp at l,fun ℓ a l=>by rw[M]at l;simp at l,fun a l=>by simp at l⟩,fun t _=>x2 t,fun t z=> ?_,fun a l=>by simp[Ids.none]at l⟩
       ·simp only[lj]at z⊢
        simp only[db,if_true,lq]at z⊢
        exact AV.qce hcf z
       ·simp only[lj]at z⊢
        simp only[db,if_true,lq]at z⊢
        rw[Ak]at z⊢
        rw[AV.qc9]at z;omega
      obtain⟨v1,N,G⟩:=uQ (sv:=⟨bo 0 vs,Bv,Ids.none,0⟩) ih n vf.code w.1 _ _ _ h0 h1;have hc:(∀id,e≠.exit id)->eg X.env (n+1) p f vs Bv A=(finish Bv.length p v1 vf.results).map fun q=>⟨q.v,Ids.or q.A A,q.B⟩:=by
       intro x1;rw[eg];simp only[W.no f hg,H,hbm];rw[au (by rw[<-J];exact Z),au (by rw[<-O.1];exact a1),N];cases e with
       |exit id=>exact absurd rfl (x1 id)
       |normal=>rfl
       |ret=>rfl
      have K:∀{v' B'},gf B.length s1 vf.results=some (v',B')->(∀id,e≠.exit id)->∃v C A',eg X.env (n+1) p f vs Bv A=some ⟨v,A',C⟩/\v'.fit v/\qbe B' C/\Held F (fun _=>False) A' (aI [(0,v')] B' [(0,v)] C)/\∀a,A' a=true->A a=true\/Fut p 0 a:=by
       intro v' B' Q he;obtain⟨r,I,y⟩:=EJ G w.2 Q;have S:∀a,r.A a=true->Fut p 0 a:=fun a l=>by
        rcases y.am a l with h8|h8
        ·simp[Ids.none]at h8
        ·exact h8
       refine⟨r.v,r.B,Ids.or r.A A,?_,y.fit,y.boxes,⟨y.held.nodup,y.held.apart,fun ℓ a l=> ?_,fun a l=>⟨by simp[Ids.or,(hh.fr a l).1],id⟩⟩,fun a l=> ?_⟩
       ·rw[hc he]
        rw[O.1]at I;rw[I];rfl
       ·obtain⟨q1,_,_⟩:=y.held.opn ℓ a l
        exact⟨by simp[Ids.or,q1],fun hF=>(hh.fr a hF).2 (S a q1),id⟩
       ·simp only[Ids.or,cI]at l
        rcases l with l|l
        ·exact .inr (S a l)
        ·exact .inl l
      cases e with
      |exit id=>simp at R
      |normal=>exact K R (fun id h=>by simp at h)
      |ret=>exact K R (fun id h=>by simp at h)
     rename_i c2;obtain⟨⟨e,s1⟩,h1,R⟩:=az.1 D;have w:=W.code f vf H;simp only[VFn.linOK,aQ]at w;have J:=AV.qao hf;have h0:Rel A (X.lin f) F p 0 ⟨bo 0 xs,B⟩ ⟨bo 0 vs,Bv,A,0⟩:=by
      refine⟨fun t x z=> ?_,O,hh,hl,fun t z=> ?_,fun a l=>⟨b2 a l,.inl l⟩⟩
      ·simp only[lj]at z⊢
       simp only[db,if_true,lq]at z⊢
       exact AV.qce hf z
      ·simp only[lj]at z⊢
       simp only[db,if_true,lq]at z⊢
       rw[Ak]at z⊢
       omega
     obtain⟨v1,N,G⟩:=uQ (sv:=⟨bo 0 vs,Bv,A,0⟩) ih n vf.code w.1 _ _ _ h0 h1;have hc:(∀id,e≠.exit id)->eg X.env (n+1) p f vs Bv A=finish Bv.length p v1 vf.results:=by
      intro x1;rw[eg];simp only[W.no f hg,H,c2];rw[au (by rw[<-J];exact Z),N];cases e with
      |exit id=>exact absurd rfl (x1 id)
      |normal=>rfl
      |ret=>rfl
     have K:∀{v' B'},gf B.length s1 vf.results=some (v',B')->(∀id,e≠.exit id)->∃v C A',eg X.env (n+1) p f vs Bv A=some ⟨v,A',C⟩/\v'.fit v/\qbe B' C/\Held F (fun _=>False) A' (aI [(0,v')] B' [(0,v)] C)/\∀a,A' a=true->A a=true\/Fut p 0 a:=by intro v' B' Q he;obtain⟨r,I,y⟩:=EJ G w.2 Q;refine⟨r.v,r.B,r.A,?_,y.fit,y.boxes,y.held,y.am⟩;rw[hc he,<-O.1,I]
     cases e with
     |exit id=>simp at R
     |normal=>exact K R (fun id h=>by simp at h)
     |ret=>exact K R (fun id h=>by simp at h)
end
def jO(c c':cq):Prop:=∀f as B r,c f as B=some r->c' f as B=some r
variable{c c':cq}
theorem MI(h:jO c c')(lin:Nat->ae)(T:ae)(draw:Bool)(L0:Nat)(o:VOper):hO (bm c lin T draw L0 o) (bm c' lin T draw L0 o):=by
 intro s r a;obtain⟨dst,op,g,af⟩:=o;cases op
 case call iso f args=>
  simp only[bm]at a⊢
  split at a
  ·rename_i k caps vs j i
   split at a
   ·rename_i e
    simp only[e,if_true];split at a
    ·rename_i u
     split at a
     ·rename_i hc
      rw[h _ _ _ _ hc];exact a
     ·simp at a
    ·simp at a
   ·rename_i e
    simp only[e];split at a
    ·rename_i l
     rw[aw l];split at a
     ·rename_i hc
      rw[h _ _ _ _ hc];exact a
     ·simp at a
    ·simp at a
  ·simp at a
 case callS cc f args=>
  simp only[bm]at a⊢
  split at a
  ·split at a
   ·simp at a
   rename_i t;rw[au t];obtain⟨ds,j,a⟩:=az.1 a;obtain⟨cs,i,a⟩:=az.1 a;obtain⟨w,q,a⟩:=az.1 a;rw[j,a9,i,a9,q,a9];split at a
   ·rename_i hc
    rw[h _ _ _ _ hc];exact a
   ·simp at a
  ·simp at a
 all_goals exact a
theorem kj(h:jO c c')(lin:Nat->ae)(T:ae)(draw:Bool)(L0:Nat)(os:aC):hO (bl c lin T draw L0 os) (bl c' lin T draw L0 os):=by
 induction os with
 |nil=>intro s r a;exact a
 |cons o os e=>
  intro s r a;simp only[bl]at a⊢
  split at a
  ·obtain⟨s1,j,i⟩:=az.1 a
   exact az.2 ⟨s1,MI h lin T draw L0 o s s1 j,e _ _ i⟩
  ·exact e _ _ a
  ·simp at a
theorem IT(h:jO c c')(lin:Nat->ae)(T:ae)(draw:Bool)(na:Nat)(live:ae)(ops:aC):hO (jY c lin T draw na live ops) (jY c' lin T draw na live ops):=by
 intro s r a;unfold jY at a⊢
 split
 ·simp_all
 ·rename_i e
  simp only[e]at a;obtain⟨s1,j,i⟩:=ay.1 a;exact ay.2 ⟨s1,kj h lin T draw _ ops _ _ j,i⟩
theorem K9(h:jO c c')(lin:Nat->ae)(T:ae)(draw:Bool)(L0:Nat)(fs:eU):hO (fu c lin T draw L0 fs) (fu c' lin T draw L0 fs):=by
 induction fs with
 |nil=>intro s r a;exact a
 |cons f fs o=>
  intro s r a;simp only[fu]at a⊢
  obtain⟨s1,i,e⟩:=az.1 a;obtain⟨s2,l,j⟩:=az.1 e;exact az.2 ⟨s1,kj h lin T draw L0 f.pre _ _ i,az.2 ⟨s2,l,o _ _ j⟩⟩
theorem KR(h:jO c c')(lin:Nat->ae)(T:ae)(draw:Bool)(na:Nat)(live:ae)(fs:eU):hO (jA c lin T draw na live fs) (jA c' lin T draw na live fs):=by
 intro s r a;unfold jA at a⊢
 split
 ·simp_all
 ·rename_i e
  simp only[e]at a;obtain⟨s1,j,i⟩:=ay.1 a;exact ay.2 ⟨s1,K9 h lin T draw _ fs _ _ j,i⟩
theorem wh{f g:XS->eK}(h:hO f g)(i:Nat)(live:ae):∀n m,n<=m->hO (gn f i live n) (gn g i live m):=by
 intro n
 induction n with
 |zero=>intro m _ s r a;simp[gn]at a
 |succ n o=>
  intro m q s r a;obtain⟨m,rfl⟩:∃k,m=k+1:=⟨m-1,by omega⟩;simp only[gn]at a⊢
  obtain⟨s0,l,a⟩:=az.1 a;obtain⟨⟨e,s1⟩,j,a⟩:=az.1 a;refine az.2 ⟨s0,l,az.2 ⟨(e,s1),h _ _ j,?_⟩⟩;cases e with
  |normal=>exact o m (by omega) _ _ a
  |exit id=>exact a
  |ret=>exact a
variable{m:Nat}
theorem im(h:jO c c')(lin:Nat->ae)(T:ae)(z:n<=m)(vc:VCode):hO (bN c lin T n vc) (bN c' lin T m vc):=by
 induction vc with
 |skip=>intro s r i;exact i
 |ret=>intro s r i;exact i
 |exit id=>intro s r i;exact i
 |seq a b q o=>
  intro s r i;simp only[bN]at i⊢
  obtain⟨⟨e,s1⟩,j,i⟩:=az.1 i;refine az.2 ⟨(e,s1),q _ _ j,?_⟩;cases e with
  |normal=>exact o _ _ i
  |exit id=>exact i
  |ret=>exact i
 |region draw na live ops=>
  intro s r i;simp only[bN]at i⊢
  obtain⟨s1,j,l⟩:=ay.1 i;exact ay.2 ⟨s1,IT h lin T draw na live ops _ _ j,l⟩
 |regionF draw na live fs=>
  intro s r i;simp only[bN]at i⊢
  obtain⟨s1,j,l⟩:=ay.1 i;exact ay.2 ⟨s1,KR h lin T draw na live fs _ _ j,l⟩
 |cond x a b q o=>
  intro s r i;simp only[bN]at i⊢
  split at i
  ·exact q _ _ i
  ·exact o _ _ i
  ·simp at i
 |block id w t=>
  intro s r i;simp only[bN]at i⊢
  obtain⟨s1,j,l⟩:=ay.1 i;exact ay.2 ⟨s1,t _ _ j,l⟩
 |loop live w t=>
  intro s r i;simp only[bN]at i⊢
  exact wh t _ _ n m z _ _ i
 |ghost x w t=>
  intro s r i;simp only[bN]at i⊢
  obtain⟨s1,j,l⟩:=az.1 i;exact az.2 ⟨s1,j,t _ _ l⟩
 |regionT na live pre tl=>
  intro s r i;simp only[bN]at i⊢
  obtain⟨s1,j,l⟩:=ay.1 i;refine ay.2 ⟨s1,?_,l⟩;unfold lL at j⊢
  split
  ·rename_i u;rw[aw u]at j;simp at j
  ·rename_i u
   rw[au u]at j;obtain⟨s2,y,D⟩:=az.1 j;obtain⟨s3,C,G⟩:=ay.1 D;exact az.2 ⟨s2,kj h lin T true _ pre _ _ y,ay.2 ⟨s3,kj h lin T false _ tl _ _ C,G⟩⟩
theorem Cv(h:jO c c')(sf:SFn)(x:DV)(xr:al):∀r,iF c sf x xr=some r->iF c' sf x xr=some r:=by
 intro r a;unfold iF at a⊢
 split at a
 ·rename_i hc
  rw[aw hc];split at a
  ·rename_i v cs e
   rw[h _ _ _ _ e];exact a
  ·simp at a
 ·simp at a
theorem XG(h:jO c c')(t:n<=m)(lin:Nat->ae)(T:ae)(sf:SFn)(ds:al):∀r,iJ c lin T n sf ds=some r->iJ c' lin T m sf ds=some r:=by
 intro r o;unfold iJ at o⊢
 split at o
 ·simp at o
 rename_i l;rw[au l];obtain⟨⟨e,s⟩,w,a⟩:=az.1 o;refine az.2 ⟨(e,s),im h lin T t sf.pre _ _ w,?_⟩;simp only at a⊢
 split at a
 ·rename_i x xr u D
  obtain⟨y,C,z⟩:=az.1 a;obtain⟨q,i,j⟩:=ay.1 z;exact az.2 ⟨y,C,ay.2 ⟨q,Cv h _ _ _ _ i,j⟩⟩
 ·rename_i u
  obtain⟨q,i,j⟩:=az.1 a;exact az.2 ⟨q,im h lin T t sf.rest _ _ i,j⟩
 ·rename_i g u D
  obtain⟨q,i,j⟩:=az.1 a;exact az.2 ⟨q,im h lin T t sf.rest _ _ i,j⟩
 ·simp at a
theorem UO(X:XEnv):∀n,jO (cG X n) (cG X (n+1)):=by
 intro n
 induction n with
 |zero=>intro f as B r a;simp[cG]at a
 |succ n t=>
  intro f as B r a;rw[cG]at a⊢
  split
  ·rename_i g l
   rw[l]at a;exact a
  ·rename_i l
   simp only[l]at a;split
   ·rename_i i
    simp only[i]at a;split
    ·rename_i j;simp[j]at a
    ·rename_i sf j
     simp only[j]at a;obtain⟨ds,h,e⟩:=az.1 a;obtain⟨q,u,x⟩:=ay.1 e;exact az.2 ⟨ds,h,ay.2 ⟨q,XG t (ch n) _ _ sf ds _ u,x⟩⟩
   ·rename_i vf i
    simp only[i]at a;split at a
    ·simp at a
    ·rename_i o
     rw[au o];split at a
     ·rename_i w
      obtain⟨s1,h,e⟩:=az.1 a;exact az.2 ⟨s1,im t _ _ (ch n) vf.code _ _ h,e⟩
     ·rename_i m w
      split at a
      ·simp at a
      rename_i y;rw[au y];obtain⟨s1,h,e⟩:=az.1 a;exact az.2 ⟨s1,im t _ _ (ch n) vf.code _ _ h,e⟩
theorem gm(X:XEnv)(h:n<=m):jO (cG X n) (cG X m):=by
 induction h with
 |refl=>intro f as B r a;exact a
 |step _ e=>intro f as B r a;exact UO X _ _ _ _ _ (e _ _ _ _ a)
noncomputable def ap(X:XEnv):cq:=fun f as B=>lim fun n=>cG X n f as B
noncomputable def aO(X:XEnv)(T:ae)(c:VCode)(s:XS):eK:=lim fun n=>bN (cG X n) X.lin T n c s
variable{f:Nat}
theorem jD{as:aA}{r:AV×ar}:ap X f as B=some r↔∃n,cG X n f as B=some r:=xI (fun n m r h a=>gm X h _ _ _ _ a) r
variable{r:Ex×XS}{s:XS}
theorem du{T:ae}{c:VCode}:aO X T c s=some r↔∃n,bN (cG X n) X.lin T n c s=some r:=xI (fun n m r h a=>im (gm X h) _ _ h c _ _ a) r
theorem sL(X:XEnv)(n:Nat):jO (cG X n) (ap X):=fun _ _ _ _ h=>jD.2 ⟨n,h⟩
theorem qO8(X:XEnv)(T:ae)(draw:Bool)(L0:Nat)(o:VOper)(s r:XS)(a:bm (ap X) X.lin T draw L0 o s=some r):∃n,bm (cG X n) X.lin T draw L0 o s=some r:=by
 obtain⟨dst,op,g,af⟩:=o;cases op
 case call iso f args=>
  simp only[bm]at a⊢
  split at a
  ·rename_i k caps vs j i
   split at a
   ·rename_i e
    simp only[e,if_true];split at a
    ·rename_i u
     split at a
     ·rename_i hc
      obtain⟨n,h⟩:=jD.1 hc;exact⟨n,by rw[h];exact a⟩
     ·simp at a
    ·simp at a
   ·rename_i e
    simp only[e];split at a
    ·rename_i l
     split at a
     ·rename_i hc
      obtain⟨n,h⟩:=jD.1 hc;exact⟨n,by rw[aw l,h];exact a⟩
     ·simp at a
    ·simp at a
  ·simp at a
 case callS cc f args=>
  simp only[bm]at a⊢
  split at a
  ·split at a
   ·simp at a
   rename_i t;obtain⟨ds,j,a⟩:=az.1 a;obtain⟨cs,i,a⟩:=az.1 a;obtain⟨w,q,a⟩:=az.1 a;split at a
   ·rename_i hc
    obtain⟨n,h⟩:=jD.1 hc;exact⟨n,by rw[au t,j,a9,i,a9,q,a9,h];exact a⟩
   ·simp at a
  ·simp at a
 all_goals exact⟨0,a⟩
theorem yH(X:XEnv)(T:ae)(draw:Bool)(L0:Nat)(os:aC):∀s r,bl (ap X) X.lin T draw L0 os s=some r->∃n,bl (cG X n) X.lin T draw L0 os s=some r:=by
 induction os with
 |nil=>intro s r a;exact⟨0,a⟩
 |cons o os e=>
  intro s r a;simp only[bl]at a⊢
  split at a
  ·obtain⟨s1,j,h⟩:=az.1 a
   obtain⟨n,i⟩:=qO8 X T draw L0 o s s1 j;obtain⟨m,l⟩:=e _ _ h;exact⟨Nat.max n m,az.2 ⟨s1,MI (gm X (jI n m)) _ _ _ _ _ _ _ i,kj (gm X (gT n m)) _ _ _ _ _ _ _ l⟩⟩
  ·exact e _ _ a
  ·simp at a
theorem LQ(X:XEnv)(T:ae)(draw:Bool)(na:Nat)(live:ae)(ops:aC)(s:XS):
 aO X T (.region draw na live ops) s=(jY (ap X) X.lin T draw na live ops s).map fun s'=>(.normal,s'):=by
 refine jw fun r=> ?_
 rw[du];constructor
 ·rintro⟨n,e⟩
  simp only[bN]at e;obtain⟨s1,a,i⟩:=ay.1 e;exact ay.2 ⟨s1,IT (sL X n) _ _ _ _ _ _ _ _ a,i⟩
 ·intro h
  obtain⟨s1,a,i⟩:=ay.1 h;unfold jY at a;split at a
  ·simp at a
  ·rename_i j
   obtain⟨s2,o,l⟩:=ay.1 a;obtain⟨n,e⟩:=yH _ _ _ _ _ _ _ o;refine⟨n,?_⟩;simp only[bN];refine ay.2 ⟨s1,?_,i⟩;unfold jY;rw[au j];exact ay.2 ⟨s2,e,l⟩
theorem qAu(X:XEnv)(T:ae)(s:XS):aO X T .skip s=some (.normal,s):=du.2 ⟨0,rfl⟩
theorem Qh(X:XEnv)(T:ae)(s:XS):aO X T .ret s=some (.ret,s):=du.2 ⟨0,rfl⟩
theorem PO(X:XEnv)(T:ae)(id:Nat)(s:XS):aO X T (.exit id) s=some (.exit id,s):=du.2 ⟨0,rfl⟩
def mu(r:eK)(k:XS->eK):eK:=
 r.bind fun r=>match r.1 with
  | .normal=>k r.2
  |_=>some r
theorem nV(X:XEnv)(T:ae)(a b:VCode)(s:XS):aO X T (.seq a b) s=mu (aO X T a s) (aO X T b):=by
 refine jw fun r=> ?_
 unfold mu;rw[du];constructor
 ·rintro⟨n,j⟩
  simp only[bN]at j;obtain⟨⟨e,s1⟩,l,i⟩:=az.1 j;refine az.2 ⟨(e,s1),du.2 ⟨n,l⟩,?_⟩;cases e with
  |normal=>exact du.2 ⟨n,i⟩
  |exit id=>exact i
  |ret=>exact i
 ·intro h
  obtain⟨⟨e,s1⟩,l,i⟩:=az.1 h;obtain⟨n,j⟩:=du.1 l;cases e with
  |normal=>obtain⟨m,o⟩:=du.1 i;refine⟨Nat.max n m,?_⟩;simp only[bN];exact az.2 ⟨_,im (gm X (jI n m)) _ _ (jI n m) _ _ _ j,im (gm X (gT n m)) _ _ (gT n m) _ _ _ o⟩
  |exit id=>exact⟨n,by simp only[bN];exact az.2 ⟨_,j,i⟩⟩
  |ret=>exact⟨n,by simp only[bN];exact az.2 ⟨_,j,i⟩⟩
theorem XJ(X:XEnv)(T:ae)(x:VX)(a b:VCode)(s:XS):
 aO X T (.cond x a b) s=match bq s.r x with
  |some (.d (.bool true))=>aO X T a s
  |some (.d (.bool false))=>aO X T b s
  |_=>none:=by
 unfold aO;split<;>simp only[bN, *]
 unfold lim;split
 ·rename_i h;obtain⟨n,e⟩:=h;simp at e
 ·rfl
theorem Sn(X:XEnv)(T:ae)(id:Nat)(c:VCode)(s:XS):
 aO X T (.block id c) s=(aO X T c s).map fun r=>if r.1= .exit id then(.normal,r.2)else r:=by
 refine jw fun r=> ?_
 rw[du];constructor
 ·rintro⟨n,a⟩
  simp only[bN]at a;obtain⟨s1,i,e⟩:=ay.1 a;exact ay.2 ⟨s1,du.2 ⟨n,i⟩,e⟩
 ·intro h
  obtain⟨s1,i,e⟩:=ay.1 h;obtain⟨n,a⟩:=du.1 i;exact⟨n,by simp only[bN];exact ay.2 ⟨s1,a,e⟩⟩
noncomputable def cj(X:XEnv)(T:ae)(a:Nat)(live:ae)(c:VCode)(s:XS):eK:=lim fun n=>gn (bN (cG X n) X.lin T n c) a live n s
variable{live:ae}
theorem EM{T:ae}{a:Nat}{c:VCode}:cj X T a live c s=some r↔∃n,gn (bN (cG X n) X.lin T n c) a live n s=some r:=xI (fun n m r h e=>wh (im (gm X h) _ _ h c) _ _ n m h _ _ e) r
theorem qAv(X:XEnv)(T:ae)(live:ae)(c:VCode)(s:XS):aO X T (.loop live c) s=cj X T s.B.length live c s:=rfl
theorem mZ(X:XEnv)(T:ae)(q:Nat)(live:ae)(c:VCode)(s:XS):
 cj X T q live c s=(aJ q live s).bind fun s0=>mu (aO X T c s0) (cj X T q live c):=by
 refine jw fun r=> ?_
 unfold mu;rw[EM];constructor
 ·rintro⟨n,i⟩
  cases n with
  |zero=>simp[gn]at i
  |succ n=>
   simp only[gn]at i;obtain⟨s0,j,i⟩:=az.1 i;obtain⟨⟨e,s1⟩,o,a⟩:=az.1 i;refine az.2 ⟨s0,j,az.2 ⟨(e,s1),du.2 ⟨n+1,o⟩,?_⟩⟩;cases e with
   |normal=>exact EM.2 ⟨n+1,wh (fun _ _ h=>h) _ _ n (n+1) (ch n) _ _ a⟩
   |exit id=>exact a
   |ret=>exact a
 ·intro h
  obtain⟨s0,j,h⟩:=az.1 h;obtain⟨⟨e,s1⟩,o,a⟩:=az.1 h;obtain⟨n,i⟩:=du.1 o;have one:∀m,n<=m->bN (cG X m) X.lin T m c s0=some (e,s1):=fun m l=>im (gm X l) _ _ l c _ _ i
  cases e with
  |normal=>obtain⟨m,l⟩:=EM.1 a;refine⟨n+m+1,?_⟩;simp only[gn];refine az.2 ⟨s0,j,az.2 ⟨(.normal,s1),one _ (by omega),?_⟩⟩;exact wh (im (gm X (by omega)) _ _ (by omega) c) _ _ m _ (by omega) _ _ l
  |exit id=>refine⟨n+1,?_⟩;simp only[gn];exact az.2 ⟨s0,j,az.2 ⟨(.exit id,s1),one _ (by omega),a⟩⟩
  |ret=>refine⟨n+1,?_⟩;simp only[gn];exact az.2 ⟨s0,j,az.2 ⟨(.ret,s1),one _ (by omega),a⟩⟩
theorem Rj(X:XEnv)(f:Nat)(as:aA)(B:ar)(vf:VFn)(o:X.nat f=none)(l:X.env.code f=some vf)(j:X.env.base f=none)(a:as.length=vf.np):
 ap X f as B=(aO X (X.lin f) vf.code ⟨bo 0 as,B⟩).bind fun r=>
  match r.1 with
  | .exit _=>none
  |_=>gf B.length r.2 vf.results:=by
 refine jw fun r=> ?_
 rw[jD];constructor
 ·rintro⟨n,h⟩
  cases n with
  |zero=>simp[cG]at h
  |succ n=>rw[cG]at h;simp only[o,l,j]at h;rw[au (by simp[a])]at h;obtain⟨s1,i,e⟩:=az.1 h;exact az.2 ⟨s1,du.2 ⟨n,i⟩,e⟩
 ·intro h
  obtain⟨s1,i,e⟩:=az.1 h;obtain⟨n,q⟩:=du.1 i;refine⟨n+1,?_⟩;rw[cG];simp only[o,l,j];rw[au (by simp[a])];exact az.2 ⟨s1,q,e⟩
theorem Rm(X:XEnv)(f:Nat)(as:aA)(B:ar)(vf:VFn)(o:X.nat f=none)(l:X.env.code f=some vf)(j:X.env.base f=some m)(q:B.length=m)(a:as.length=vf.np):
 ap X f as B=(aO X (X.lin f) vf.code ⟨bo 0 (AV.clrs as),fZ B⟩).bind fun r=>
  match r.1 with
  | .exit _=>none
  |_=>gf B.length r.2 vf.results:=by
 refine jw fun r=> ?_
 rw[jD];constructor
 ·rintro⟨n,h⟩
  cases n with
  |zero=>simp[cG]at h
  |succ n=>rw[cG]at h;simp only[o,l,j]at h;rw[au (by simp[a]),au (by simp[q])]at h;obtain⟨s1,i,e⟩:=az.1 h;exact az.2 ⟨s1,du.2 ⟨n,i⟩,e⟩
 ·intro h
  obtain⟨s1,i,e⟩:=az.1 h;obtain⟨n,t⟩:=du.1 i;refine⟨n+1,?_⟩;rw[cG];simp only[o,l,j];rw[au (by simp[a]),au (by simp[q])];exact az.2 ⟨s1,t,e⟩
theorem qPc(X:XEnv)(T:ae)(draw:Bool)(L0:Nat):∀(fs:eU) (s r:XS),fu (ap X) X.lin T draw L0 fs s=some r->∃n,fu (cG X n) X.lin T draw L0 fs s=some r:=by
 intro fs
 induction fs with
 |nil=>intro s r a;exact⟨0,a⟩
 |cons f fs q=>
  intro s r a;simp only[fu]at a⊢
  obtain⟨s1,j,e⟩:=az.1 a;obtain⟨s2,h,l⟩:=az.1 e;obtain⟨n,i⟩:=yH _ _ _ _ _ _ _ j;obtain⟨m,o⟩:=q _ _ l;exact⟨Nat.max n m,az.2 ⟨s1,kj (gm X (jI n m)) _ _ _ _ _ _ _ i,az.2 ⟨s2,h,K9 (gm X (gT n m)) _ _ _ _ _ _ _ o⟩⟩⟩
theorem LH(X:XEnv)(T:ae)(draw:Bool)(na:Nat)(live:ae)(fs:eU)(s:XS):aO X T (.regionF draw na live fs) s=(jA (ap X) X.lin T draw na live fs s).map fun s'=>(.normal,s'):=by
 refine jw fun r=> ?_
 rw[du];constructor
 ·rintro⟨n,e⟩
  simp only[bN]at e;obtain⟨s1,a,i⟩:=ay.1 e;exact ay.2 ⟨s1,KR (sL X n) _ _ _ _ _ _ _ _ a,i⟩
 ·intro h
  obtain⟨s1,a,i⟩:=ay.1 h;unfold jA at a;split at a
  ·simp at a
  ·rename_i j
   obtain⟨s2,o,l⟩:=ay.1 a;obtain⟨n,e⟩:=qPc _ _ _ _ _ _ _ o;refine⟨n,?_⟩;simp only[bN];refine ay.2 ⟨s1,?_,i⟩;unfold jA;rw[au j];exact ay.2 ⟨s2,e,l⟩
theorem Yc(X:XEnv)(T:ae)(na:Nat)(live:ae)(pre tl:aC)(s:XS):aO X T (.regionT na live pre tl) s=(lL (ap X) X.lin T na live pre tl s).map fun s'=>(.normal,s'):=by
 refine jw fun r=> ?_
 rw[du];constructor
 ·rintro⟨n,e⟩
  simp only[bN]at e;obtain⟨s1,a,i⟩:=ay.1 e;refine ay.2 ⟨s1,?_,i⟩;unfold lL at a⊢
  split at a
  ·simp at a
  ·rename_i t
   rw[au t];obtain⟨s2,o,l⟩:=az.1 a;obtain⟨s3,j,q⟩:=ay.1 l;exact az.2 ⟨s2,kj (sL X n) _ _ _ _ _ _ _ o,ay.2 ⟨s3,kj (sL X n) _ _ _ _ _ _ _ j,q⟩⟩
 ·intro h
  obtain⟨s1,a,i⟩:=ay.1 h;unfold lL at a;split at a
  ·simp at a
  ·rename_i t
   obtain⟨s2,o,l⟩:=az.1 a;obtain⟨s3,j,q⟩:=ay.1 l;obtain⟨n,e⟩:=yH _ _ _ _ _ _ _ o;obtain⟨m,u⟩:=yH _ _ _ _ _ _ _ j;refine⟨Nat.max n m,?_⟩;simp only[bN];refine ay.2 ⟨s1,?_,i⟩;unfold lL;rw[au t];exact az.2 ⟨s2,kj (gm X (jI n m)) _ _ _ _ _ _ _ e,ay.2 ⟨s3,kj (gm X (gT n m)) _ _ _ _ _ _ _ u,q⟩⟩
theorem Tw(X:XEnv)(T:ae)(x:Gho)(c:VCode)(s:XS):aO X T (.ghost x c) s=(gp x s).bind (aO X T c):=by
 refine jw fun r=> ?_
 rw[du];constructor
 ·rintro⟨n,h⟩
  simp only[bN]at h;obtain⟨s1,e,a⟩:=az.1 h;exact az.2 ⟨s1,e,du.2 ⟨n,a⟩⟩
 ·intro h
  obtain⟨s1,e,a⟩:=az.1 h;obtain⟨n,i⟩:=du.1 a;exact⟨n,by simp only[bN];exact az.2 ⟨s1,e,i⟩⟩
theorem vJ(X:XEnv)(f:Nat)(as:aA)(B:ar)(g:al->cZ)(a:X.nat f=some g):
 ap X f as B=(aV as).bind fun ds=>(g ds).map fun v=>(.d v,B):=by
 refine jw fun r=> ?_
 rw[jD];constructor
 ·rintro⟨n,h⟩
  cases n with
  |zero=>simp[cG]at h
  |succ n=>rw[cG]at h;simpa only[a]using h
 ·intro h
  exact⟨1,by rw[cG];simpa only[a]using h⟩
noncomputable def kQ(X:XEnv)(T:ae)(sf:SFn)(ds:al):cZ:=
 if ds.length≠sf.np then none else
  (aO X T sf.pre ⟨bo 0 (ds.map .d),[]⟩).bind fun r=>
   match r.1,lk r.2.r sf.cond,lk r.2.r sf.row with
   | .normal,some (.d (.bool true)),some (.d (.sl (.own [] 0) (x::xr)))=>(qg r.2).bind fun y=>(iF (ap X) sf x xr).map fun q=> .agg [y.1,y.2,.sl U q]
   | .normal,some (.d (.bool false)),_| .normal,some (.d (.bool true)),some (.d (.sl _ []))=>
    (aO X T sf.rest r.2).bind fun a=>
     match a.1 with
     | .exit _=>none
     |_=>(gf 0 a.2 sf.results).bind fun q=>match q.1 with
      | .d v=>some v
      |_=>none
   |_,_,_=>none
theorem qBb(X:XEnv)(sf:SFn)(x:DV)(xr:al):∀r,iF (ap X) sf x xr=some r->∃n,iF (cG X n) sf x xr=some r:=by
 intro r a;unfold iF at a⊢
 split at a
 ·rename_i hc
  split at a
  ·rename_i v cs h
   obtain⟨n,e⟩:=jD.1 h;exact⟨n,by rw[aw hc,e];exact a⟩
  ·simp at a
 ·simp at a
theorem Nz{T:ae}{r:DV}:kQ X T sf ds=some r↔∃n,iJ (cG X n) X.lin T n sf ds=some r:=by
 constructor
 ·intro o
  unfold kQ at o;split at o
  ·simp at o
  rename_i a;obtain⟨⟨e,s⟩,z,h⟩:=az.1 o;obtain⟨n,D⟩:=du.1 z;have two:∀m,∀{q:Ex×XS},bN (cG X m) X.lin T m sf.rest s=some q->bN (cG X (Nat.max n m)) X.lin T (Nat.max n m) sf.rest s=some q:=fun m q G=>im (gm X (gT n m)) _ _ (gT n m) _ _ _ G
  have one:∀m,bN (cG X (Nat.max n m)) X.lin T (Nat.max n m) sf.pre ⟨bo 0 (ds.map .d),[]⟩=some (e,s):=fun m=>im (gm X (jI n m)) _ _ (jI n m) _ _ _ D
  simp only at h;split at h
  ·rename_i x xr i t
   obtain⟨y,w,C⟩:=az.1 h;obtain⟨q,j,l⟩:=ay.1 C;obtain⟨m,u⟩:=qBb X _ _ _ _ j;refine⟨Nat.max n m,?_⟩;unfold iJ;rw[au a,one m];simp only[a9,i,t];exact az.2 ⟨y,w,ay.2 ⟨q,Cv (gm X (gT n m)) _ _ _ _ u,l⟩⟩
  ·rename_i i
   obtain⟨q,j,l⟩:=az.1 h;obtain⟨m,u⟩:=du.1 j;refine⟨Nat.max n m,?_⟩;unfold iJ;rw[au a,one m];simp only[a9,i];exact az.2 ⟨q,two m u,l⟩
  ·rename_i g i t
   obtain⟨q,j,l⟩:=az.1 h;obtain⟨m,u⟩:=du.1 j;refine⟨Nat.max n m,?_⟩;unfold iJ;rw[au a,one m];simp only[a9,i,t];exact az.2 ⟨q,two m u,l⟩
  ·simp at h
 ·rintro⟨n,o⟩
  unfold iJ at o;unfold kQ;split at o
  ·simp at o
  rename_i a;rw[au a];obtain⟨⟨e,s⟩,z,h⟩:=az.1 o;refine az.2 ⟨(e,s),du.2 ⟨n,z⟩,?_⟩;simp only at h⊢
  split at h
  ·rename_i x xr i t
   obtain⟨y,w,C⟩:=az.1 h;obtain⟨q,j,l⟩:=ay.1 C
   try simp only[i,t]
   exact az.2 ⟨y,w,ay.2 ⟨q,Cv (sL X n) _ _ _ _ j,l⟩⟩
  ·rename_i i
   obtain⟨q,j,l⟩:=az.1 h
   try simp only[i]
   exact az.2 ⟨q,du.2 ⟨n,j⟩,l⟩
  ·rename_i g i t
   obtain⟨q,j,l⟩:=az.1 h
   try simp only[i,t]
   exact az.2 ⟨q,du.2 ⟨n,j⟩,l⟩
  ·simp at h
theorem Rt(X:XEnv)(f:Nat)(as:aA)(B:ar)(sf:SFn)(l:X.nat f=none)(t:X.env.code f=none)(o:X.env.spec f=some sf):
 ap X f as B=(aV as).bind fun ds=>(kQ X (X.lin f) sf ds).map fun v=>(.d v,B):=by
 refine jw fun r=> ?_
 rw[jD];constructor
 ·rintro⟨n,h⟩
  cases n with
  |zero=>simp[cG]at h
  |succ n=>rw[cG]at h;simp only[l,t,o]at h;obtain⟨ds,e,a⟩:=az.1 h;obtain⟨q,j,i⟩:=ay.1 a;exact az.2 ⟨ds,e,ay.2 ⟨q,Nz.2 ⟨n,j⟩,i⟩⟩
 ·intro h
  obtain⟨ds,e,a⟩:=az.1 h;obtain⟨q,j,i⟩:=ay.1 a;obtain⟨n,u⟩:=Nz.1 j;refine⟨n+1,?_⟩;rw[cG];simp only[l,t,o];exact az.2 ⟨ds,e,ay.2 ⟨q,u,i⟩⟩
theorem Vx(z:XOK X){xs vs:al}(hc:DV.clrs xs=xs)(G:DV.fits xs vs){d:DV}(H:d.clr=d)(h:ap X f (xs.map .d) []=some (.d d,B')):
 ∃u A Bv,qo X.env [] f (vs.map .d) [] Ids.none=some ⟨.d u,A,Bv⟩/\d.fit u:=by
 obtain⟨n,q⟩:=jD.1 h;have C:AV.fits (xs.map .d) (vs.map .d):=AV.qiY G;have l:∀j,br (bo 0 (xs.map AV.d)) (bo 0 (vs.map AV.d)) j=[]:=by
  intro j;rw[nh];split
  ·rename_i a b e D
   have:=AV.qcB e D;rw[AV.qiW,<-hc,DV.qef]at this;exact pm.1 this
  ·rfl
 have i:∀ℓ,aI (bo 0 (xs.map AV.d)) [] (bo 0 (vs.map AV.d)) [] ℓ=[]:=by
  intro ℓ;cases ℓ with
  |reg t=>exact l t
  |box j=>simp[aI,bp,aT]
 obtain⟨v,Bv,A',w,o,_⟩:=IB z n f _ _ _ _ q [] (vs.map .d) [] Ids.none (fun _=>False) C ⟨rfl,by simp⟩
  ⟨fun ℓ=>by rw[i];simp,fun ℓ ℓ' a e=>by rw[i]at e;simp at e,fun ℓ a e=>by rw[i]at e;simp at e,fun a e=>by simp at e⟩ (fun j _=>l j) (fun a e=>by simp[Ids.none]at e)
 simp only[AV.fit]at o;obtain⟨y,rfl,x⟩:=o;exact⟨y,A',Bv,JY.2 ⟨n,w⟩,x⟩
def Do(b:mx)(c:cq)(lin:Nat->ae)(T:ae)(d:Bool)(L:Nat)(o:VOper)(os:aC)(s:XS):bU:=
 match b with
 |some true=>(bm c lin T d L o s).bind (bl c lin T d L os)
 |some false=>bl c lin T d L os (be T s o.dst .und)
 |none=>none
def N0(r:bU)(c:cq)(lin:Nat->ae)(T:ae)(d:Bool)(L:Nat)(os:aC):bU:=r.bind (bl c lin T d L os)
def bF(live:ae)(r:bU):eK:=r.map fun s'=>(.normal,⟨keep s'.r live,s'.B⟩)
def JK(id:Nat)(r:eK):eK:=r.map fun r=>if r.1= .exit id then(.normal,r.2)else r
noncomputable def E5(v:bc)(X:XEnv)(T:ae)(a b:VCode)(s:XS):eK:=
 match v with
 |some (.d (.bool true))=>aO X T a s
 |some (.d (.bool false))=>aO X T b s
 |_=>none
def so(L:Nat)(rs:fK)(r:eK):jV:=
 r.bind fun r=>match r.1 with
  | .exit _=>none
  |_=>gf L r.2 rs
def jB(T:ae)(s:XS)(dst:a_)(v:bc):bU:=v.map fun v=>be T s dst v
def fi(T:ae)(s:XS)(dst:a_)(v:bc):bU:=v.map fun v=>be T s dst v.clr
def BN(T:ae)(s:XS)(dst:a_)(v:cZ):bU:=v.map fun v=>be T s dst (.d v)
def Er(T:ae)(s:XS)(dst:a_)(B:Option ar):bU:=B.map fun B=>be T ⟨s.r,B⟩ dst .und
def NM(T:ae)(dst:a_)(s:XS)(v:Option al):bU:=v.map fun xs=>be T s dst (.d (.sl U xs))
def GZ(T:ae)(dst:a_)(s:XS)(a b:VX)(v:bc):bU:=
 match v with
 |some (.d (.bool true))=>(bq s.r a).map fun v=>be T (eu T dst s [a]) dst v
 |some (.d (.bool false))=>(bq s.r b).map fun v=>be T (eu T dst s [b]) dst v
 |_=>none
def J9(T:ae)(dst:a_)(sz bytes:Nat)(x y:VX)(s:XS)(v w:bc):bU:=
 match v,w with
 |some (.d v),some (.d w)=>(cK sz bytes v w).map fun u=>be T ⟨dC T s.r (if cN T dst then [x,y]else [x]),s.B⟩ dst (.d u)
 |_,_=>none
def JR(T:ae)(L:Nat)(dst:a_)(k:Nat)(x:VX)(s:XS)(v:bc):bU:=v.bind fun v=>if cO s.B (L+k)/\v.cells.all AV.isCell/\v.safe (L+k)then some (be T ⟨eW T s.r x,s.B.set (L+k) (some v.cells)⟩ dst (.ptr (L+k) 0))else none
def Es(T:ae)(dst:a_)(sz n:Nat)(g:Tag)(xs:al)(k:Nat)(s:XS)(e:cZ):bU:=e.bind fun e=>if e.cells.length=sz/\sz≠0 then some (be T (if T.contains n then⟨(n,.d (.sl g (xs.set k e.clr)))::s.r,s.B⟩else s) dst (.ep e.cells))else none
def KH(T:ae)(dst:a_)(sz n:Nat)(s:XS)(v w:bc):bU:=
 match v,w with
 |some (.d (.sl g xs)),some (.d (.int _ k))=>if 0<=k then Es T dst sz n g xs k.toNat s (xs[k.toNat]?)else none
 |_,_=>none
def xf(T:ae)(d:Bool)(L:Nat)(dst:a_)(agg:Bool)(sz:Nat)(x:VX)(s:XS)(a:bc):bU:=
 match a with
 |some (.ep cs)=>(cut agg sz cs).map fun v=>be T (eu T dst s [x]) dst (.d v)
 |some (.ptr b off)=>if d/\L<=b then none else(aP s.B agg sz b off).map fun v=>be T (if cN T dst then⟨s.r,iE s.B b off (if agg then sz else 1)⟩else s) dst v
 |_=>none
def MF(T:ae)(d:Bool)(L:Nat)(dst:a_)(init:Bool)(sz:Nat)(x:VX)(s:XS)(a v:bc):bU:=
 match a,v with
 |some (.ptr b off),some v=>if gq d init L b then none else(gS s.B sz b off v).map fun B=>be T ⟨eW T s.r x,B⟩ dst .und
 |_,_=>none
def M2(T:ae)(d:Bool)(L:Nat)(dst:a_)(sz:Nat)(x:VX)(av:ae)(s:XS)(a v:bc):bU:=
 match a,v with
 |some (.ptr b off),some v=>if gq d false L b|| !eZ s.r b av then none else(gS s.B sz b off v).map fun B=>be T ⟨eW T s.r x,B⟩ dst .und
 |_,_=>none
def G0(b:Nat):bc->Bool
 |some (.ptr a _)=>a !=b
 |_=>false
theorem VM(r:aE)(b:Nat):eZ r b []=true:=aD rfl
theorem XT(r:aE)(b t:Nat)(av:ae):eZ r b (t::av)=(G0 b (lk r t)&&eZ r b av):=by unfold eZ;simp only[gF];congr 1
theorem W8(b a off:Nat):G0 b (some (.ptr a off))=(a !=b):=aD rfl
def tq(T:ae)(dst:a_)(n i:Nat)(s:XS)(v:bc):bU:=
 match v with
 |some (.ag true vs)=>(vs[i]?).map fun v=>be T s dst v.clr
 |some (.d (.tup vs))=>(vs[i]?).map fun v=>be T (if cN T dst&&T.contains n then⟨(n,.d (.tup (vs.set i v.clr)))::s.r,s.B⟩else s) dst (.d v)
 |_=>none
def Ma(T:ae)(d:Bool)(L:Nat)(dst:a_)(k sz bytes:Nat)(z:DV)(s:XS)(v:bc):bU:=
 match v with
 |some (.d (.int _ n))=>
  if d=false/\cO s.B (L+k)/\0<=n/\n.toNat*bytes<=140737488355328/\n<9223372036854775808/\z.cells.length=sz/\z.cells.all DV.isCell then
   some (be T ⟨s.r,s.B.set (L+k) (some (((List.replicate n.toNat z.cn).flatMap DV.cells).map .d))⟩ dst (.bsl [] (isAgg z) (L+k) sz n.toNat))else none
 |_=>none
def yu(c:cq)(T:ae)(dst:a_)(s:XS)(f:bc)(vs:Option aA):bU:=
 match f,vs with
 |some (.fn k caps),some vs=>
  match aV vs,caps with
  |some _,[]=>
   match c k (c8 [] 0 vs) []with
   |some (.d v,_)=>some (be T s dst (.d v))
   |_=>none
  |_,_=>none
 |_,_=>none
def EX(T:ae)(dst:a_)(s:XS)(ds:Option al)(r:jV):bU:=
 match ds with
 |some _=>
  match r with
  |some (.d v,_)=>some (be T s dst (.d v))
  |_=>none
 |none=>none
def yq(T:ae)(dst:a_)(s:XS)(xs:cm)(b:Bool)(r:jV):bU:=
 if b then
  match r with
  |some (v,B)=>some (be T ⟨dC T s.r xs,B⟩ dst v)
  |none=>none
 else none
def xN(c:cq)(lin:Nat->ae)(T:ae)(dst:a_)(s:XS)(args:cm)(f:bc)(vs:Option aA):bU:=
 match f,vs with
 |some (.fn k caps),some vs=>yq T dst s (dV (lin k) 0 args) (dn T (dV (lin k) 0 args)) (c k (c8 (lin k) 0 vs++caps) s.B)
 |_,_=>none
def CS(T:ae)(dst:a_)(thaw:Bool)(s:XS)(r:jV):bU:=
 match r with
 |some (.d v,_)=>qJ T thaw s dst v
 |_=>none
def yB(c:cq)(T:ae)(dst:a_)(thaw:Bool)(s:XS)(k:Nat)(ds:Option al):bU:=ds.bind fun ds=>CS T dst thaw s (c k (c8 [] 0 (ds.map .d)) [])
def xT(c:cq)(T:ae)(d:Bool)(dst:a_)(thaw:Bool)(s:XS)(f:bc)(vs:Option aA):bU:=
 match f,vs with
 |some (.fn k []),some vs=>if d=false\/thaw=false then yB c T dst thaw s k (cQ (AV.frz s.B) vs)else none
 |_,_=>none
def LN(d:cZ)(ds:Option al):Option al:=d.bind fun d=>ds.map (d::·)
def uI(v:bc)(vs:Option aA):Option aA:=match v,vs with|some v,some vs=>some (v::vs)|_,_=>none
def GF(v:DV)(vs:Option al):Option al:=vs.map (v::·)
def dO(a:cZ):bc:=a.map .d
def uY(v:bc):bc:=match v with|some (.ptr i o)=>some (.ptr i o)|some (.ep cs)=>some (.ep cs)|some (.fn f c)=>some (.fn f c)|_=>none
def Ml(op:BinOp)(x y:bc):bc:=match x,y with|some (.d a),some (.d b)=>(fV op a b).map .d|_,_=>none
def EK(neg:Bool)(ks:ae)(x y:bc):bc:=match x,y with|some (.d (.agg a)),some (.d (.agg b))=>(eB ks a b).map fun e=> ax (if neg then !e else e)|_,_=>none
def IY(neg:Bool)(x y:bc):bc:=match x,y with|some (.d (.bool a)),some (.d (.bool b))=>some (ax (if neg then !(a==b)else(a==b)))|_,_=>none
def G9(x:bc):bc:=match x with|some (.d (.bool b))=>some (.d (.bool !b))|_=>none
def Nl(k:IntKind)(x:bc):bc:=match x with|some (.d (.int _ n))=>some (.d (.int k (k.wrap n)))|_=>none
def Hb(x:bc):bc:=match x with|some (.d (.int _ n))=>some (.d (.str (Utf8.encode n)))|_=>none
def J_(x:bc):bc:=match x with|some (.d (.sl _ xs))=>(bytesOf xs).map fun bs=> .d (.str ⟨bs.toArray⟩)|_=>none
def NO(x i:bc):bc:=match x,i with|some (.d (.str s)),some (.d (.int _ n))=>if 0<=n then(ng s n.toNat).map fun b=> .d (.int .u8 b)else none|_,_=>none
def tN(sz:Nat)(x i:bc):bc:=
 match x,i with
 |some (.d (.sl _ xs)),some (.d (.int _ n))=>if 0<=n then(xs[n.toNat]?).bind fun e=>if e.cells.length=sz/\sz≠0 then some (.ep e.cells)else none else none
 |some (.bsl _ _ b a m),some (.d (.int _ n))=>if a=sz/\0<=n/\n<m then some (.ptr b (n.toNat*sz))else none
 |some (.tsl _ b a m),some (.d (.int _ n))=>if a=sz/\0<=n/\n<m then some (.ptr b (n.toNat*sz))else none
 |_,_=>none
def Ds(sz:Nat)(e:cZ):bc:=e.bind fun e=>if e.cells.length=sz/\sz≠0 then some (.ep e.cells)else none
def F6(sz m:Nat)(x i:bc):bc:=
 match x,i with
 |some (.ptr b o),some (.d (.int _ n))=>if 0<=n/\n<m then some (.ptr b (o+n.toNat*sz))else none
 |some (.ep cs),some (.d (.int _ n))=>if 0<=n/\n<m/\n.toNat*sz<=cs.length then some (.ep (cs.drop (n.toNat*sz)))else none
 |_,_=>none
def Ge(off:Nat)(x:bc):bc:=match x with|some (.ptr b o)=>some (.ptr b (o+off))|some (.ep cs)=>if off<=cs.length then some (.ep (cs.drop off))else none|_=>none
def qw(str:Bool)(x:bc):bc:=
 match str,x with
 |true,some (.d (.str s))=>some (aa s.size)
 |false,some (.d (.sl _ xs))=>some (aa xs.length)
 |false,some (.bsl _ _ _ _ n)=>some (aa n)
 |false,some (.tsl _ _ _ n)=>some (aa n)
 |_,_=>none
def vN(str:Bool)(sz:Nat)(x:bc)(lo hi:Option bc):bc:=
 match str,x,lo,hi with
 |true,some (.d (.str s)),some lo,some hi=>(fk s.size hi).bind fun h=>(fj h lo).map fun l=> .d (.str (s.extract l h))
 |false,some (.d (.sl g xs)),some lo,some hi=>if xs.all (fun e=>e.cells.length=sz)then(fk xs.length hi).bind fun h=>(fj h lo).map fun l=> .d (.sl (if g= .nil then .nil else .sub) ((xs.take h).drop l))else none
 |_,_,_,_=>none
def F8(g:VX->bc)(cs:al)(off size:Nat)(r:iX)(v:bc):Option al:=
 match v with
 |some (.d v)=>if v.cells.length=size/\off+size<=cs.length/\v.cells.all DV.isCell then ez g (splice cs off v.cells) r else none
 |_=>none
def Ca(g:VX->bc)(sz:Nat)(cs:al)(i:Nat)(r:i9)(v:bc):Option al:=
 match v with
 |some (.d v)=>if v.cells.length=sz/\i<cs.length/\v.cells.all DV.isCell then df g sz (cs.set i v) r else none
 |_=>none
def ED(T:ae)(dst:a_)(s:XS)(b:Nat)(q:jV):bU:=
 match q with
 |some (.d v,[some a])=>(aV a).map fun _=>be T ⟨s.r,s.B.set b (some (AV.clrs a))⟩ dst (.d v)
 |_=>none
def Cj(c:cq)(T:ae)(dst:a_)(s:XS)(f:bc)(as:Option aA)(q:bc):bU:=
 match f,as,q with
 |some (.fn k []),some (.ptr b off::vs),some (.ptr a _)=>if b≠a then none else(aV vs).bind fun _=>(aT s.B b).bind fun cs=>(aV cs).bind fun _=>ED T dst s b (c k (.ptr 0 off::c8 [] 0 vs) [some (AV.clrs cs)])
 |_,_,_=>none
def L8(T:ae)(d:Bool)(L:Nat)(dst:a_)(agg:Bool)(sz:Nat)(s:XS)(a q:bc):bU:=
 match a,q with
 |some (.ptr b off),some (.ptr e _)=>if b=e\/(d/\L<=b)then none else jB T (if cN T dst then⟨s.r,iE s.B b off (if agg then sz else 1)⟩else s) dst (aP s.B agg sz b off)
 |_,_=>none
def FB(c:cq)(lin:Nat->ae)(T:ae)(L:Nat)(live:ae)(tl:aC)(o:bU):eK:=
 match o with
 |some s=>bF live (bl c lin T false L tl s)
 |none=>none
theorem Hl(c:cq)(lin:Nat->ae)(T:ae)(L:Nat)(live:ae)(tl:aC)(s:XS):FB c lin T L live tl (some s)=bF live (bl c lin T false L tl s):=aD rfl
theorem Rp(X:XEnv)(T:ae)(na:Nat)(live:ae)(pre tl:aC)(h:ja pre=true)(r:aE)(B:ar):
 aO X T (.regionT na live pre tl) ⟨r,B⟩=FB (ap X) X.lin T B.length live tl (bl (ap X) X.lin T true B.length pre ⟨r,B++List.replicate na none⟩):=by
 rw[Yc];unfold lL;rw[au (by rw[h];simp)];simp only;cases bl (ap X) X.lin T true B.length pre ⟨r,B++List.replicate na none⟩with
 |none=>rfl
 |some s=>simp only[a9,Hl];cases bl (ap X) X.lin T false B.length tl s<;>rfl
def HF(T:ae)(d:Bool)(dst:a_)(sz bytes:Nat)(x v:VX)(t9:Nat)(s:XS)(a b c e:bc):bU:=
 match a,b,c,e with
 |some (.d (.sl g xs)),some (.d (.sl _ [z])),some (.d (.int _ n)),some (.d w)=>
  if d=false/\n=xs.length/\z.cells.length=sz/\z.cells.all DV.isCell=true/\w.cells.length=sz/\w.cells.all DV.isCell=true/\lk s.r t9=none then
   (cK sz bytes (.sl g xs) (.sl .sub [w])).map fun u=>be T ⟨dC T s.r (if cN T dst then [x,v]else [x]),s.B⟩ dst (.d u)
  else none
 |_,_,_,_=>none
theorem Y3(c:cq)(lin:Nat->ae)(T:ae)(d:Bool)(L:Nat)(o:VOper)(os:aC)(s:XS):bl c lin T d L (o::os) s=Do (dh s.r o.guard) c lin T d L o os s:=aD rfl
theorem OJ(c:cq)(lin:Nat->ae)(T:ae)(d:Bool)(L:Nat)(s:XS):bl c lin T d L [] s=some s:=aD rfl
theorem Qq(c:cq)(lin:Nat->ae)(T:ae)(d:Bool)(L:Nat)(o:VOper)(os:aC)(s:XS):Do (some true) c lin T d L o os s=N0 (bm c lin T d L o s) c lin T d L os:=aD rfl
theorem X0(c:cq)(lin:Nat->ae)(T:ae)(d:Bool)(L:Nat)(o:VOper)(os:aC)(s:XS):Do (some false) c lin T d L o os s=bl c lin T d L os (be T s o.dst .und):=aD rfl
theorem Ue(s:XS)(c:cq)(lin:Nat->ae)(T:ae)(d:Bool)(L:Nat)(os:aC):N0 (some s) c lin T d L os=bl c lin T d L os s:=aD rfl
theorem WT(X:XEnv)(T:ae)(na:Nat)(live:ae)(ops:aC)(r:aE)(B:ar):
 aO X T (.region false na live ops) ⟨r,B⟩=bF live (bl (ap X) X.lin T false B.length ops ⟨r,B++List.replicate na none⟩):=by
 rw[LQ];simp[jY,bF,lH]
theorem bY(X:XEnv)(T:ae)(na:Nat)(live:ae)(ops:aC)(h:ja ops=true)(r:aE)(B:ar):
 aO X T (.region true na live ops) ⟨r,B⟩=bF live (bl (ap X) X.lin T true B.length ops ⟨r,B++List.replicate na none⟩):=by
 rw[LQ];simp[jY,bF,lH,h]
theorem qYs(live:ae)(r:aE)(B:ar):bF live (some ⟨r,B⟩)=some (.normal,⟨keep r live,B⟩):=aD rfl
theorem Ku(X:XEnv)(T:ae)(id:Nat)(c:VCode)(s:XS):aO X T (.block id c) s=JK id (aO X T c s):=Sn X T id c s
theorem Wz(id:Nat)(e:Ex)(s:XS):JK id (some (e,s))=some (if e= .exit id then(.normal,s)else(e,s)):=aD rfl
theorem Sk(X:XEnv)(T:ae)(x:VX)(a b:VCode)(s:XS):aO X T (.cond x a b) s=E5 (bq s.r x) X T a b s:=by rw[XJ];rfl
theorem Uc(X:XEnv)(T:ae)(a b:VCode)(s:XS):E5 (some (ax true)) X T a b s=aO X T a s:=aD rfl
theorem Xd(X:XEnv)(T:ae)(a b:VCode)(s:XS):E5 (some (ax false)) X T a b s=aO X T b s:=aD rfl
theorem qp(X:XEnv)(f:Nat)(as:aA)(B:ar)(vf:VFn)(h:X.nat f=none)(i:X.env.code f=some vf)(a:as.length=vf.np)(e:X.env.base f=none:=by first|rfl|assumption):
 ap X f as B=so B.length vf.results (aO X (X.lin f) vf.code ⟨bo 0 as,B⟩):=Rj X f as B vf h i e a
theorem qOQ(X:XEnv)(f:Nat)(as:aA)(B:ar)(vf:VFn)(h:X.nat f=none)(j:X.env.code f=some vf)(a:as.length=vf.np)(e:X.env.base f=some m)(i:B.length=m):
 ap X f as B=so B.length vf.results (aO X (X.lin f) vf.code ⟨bo 0 (AV.clrs as),fZ B⟩):=Rm X f as B vf h j e i a
theorem Co(X:XEnv)(T:ae)(x:Gho)(c:VCode)(s:XS):aO X T (.ghost x c) s=(gp x s).bind (aO X T c):=Tw X T x c s
theorem qYk(L:Nat)(rs:fK)(s:XS):so L rs (some (.ret,s))=gf L s rs:=aD rfl
theorem Rh(L:Nat)(rs:fK)(s:XS):so L rs (some (.normal,s))=gf L s rs:=aD rfl
theorem LJ(s:XS)(k:XS->eK):mu (some (.normal,s)) k=k s:=aD rfl
theorem LA(s:XS)(k:XS->eK):mu (some (.ret,s)) k=some (.ret,s):=aD rfl
theorem PL(id:Nat)(s:XS)(k:XS->eK):mu (some (.exit id,s)) k=some (.exit id,s):=aD rfl
section
variable (c:cq) (lin:Nat->ae) (T:ae) (d:Bool) (L:Nat) (dst:a_) (g:mg) (af:ae) (s:XS)
theorem Sg(x:VX):bm c lin T d L ⟨dst,.move x,g,af⟩ s=jB T (eu T dst s [x]) dst (bq s.r x):=aD rfl
theorem qOR(z:al)(ps:iX):bm c lin T d L ⟨dst,.build z ps,g,af⟩ s=jB T (eu T dst s (ps.map fun q=>q.2.2)) dst ((ez (bq s.r) (z.map DV.cn1) ps).map fun cs=> .d (.agg cs)):=by simp only[bm,jB,Gj];rfl
theorem Xp(x:VX):bm c lin T d L ⟨dst,.nilCheck x,g,af⟩ s=fi T s dst (aK s.r (.nilCheck x)):=aD rfl
theorem qYu(op:BinOp)(x y:VX):bm c lin T d L ⟨dst,.bin op x y,g,af⟩ s=fi T s dst (aK s.r (.bin op x y)):=aD rfl
theorem qOM(neg:Bool)(ks:ae)(x y:VX):bm c lin T d L ⟨dst,.eqAgg neg ks x y,g,af⟩ s=fi T s dst (aK s.r (.eqAgg neg ks x y)):=aD rfl
theorem XL(neg:Bool)(x y:VX):bm c lin T d L ⟨dst,.eqB neg x y,g,af⟩ s=fi T s dst (aK s.r (.eqB neg x y)):=aD rfl
theorem Ur(x:VX):bm c lin T d L ⟨dst,.not x,g,af⟩ s=fi T s dst (aK s.r (.not x)):=aD rfl
theorem Wy(k:Conv)(x:VX):bm c lin T d L ⟨dst,.conv k x,g,af⟩ s=fi T s dst (aK s.r (.conv k x)):=aD rfl
theorem ZD(x y:VX):bm c lin T d L ⟨dst,.index x y,g,af⟩ s=fi T s dst (aK s.r (.index x y)):=aD rfl
theorem Qt(sz:Nat)(n:Nat)(y:VX):bm c lin T d L ⟨dst,.indexAddr sz none (.t n) y,g,af⟩ s=if cN T dst then KH T dst sz n s (lk s.r n) (bq s.r y)else fi T s dst (aK s.r (.indexAddr sz none (.t n) y)):=by
 simp only[bm,sU];cases hl:cN T dst with
 |true=>rfl
 |false=>rfl
theorem Tz(sz m:Nat)(x y:VX):bm c lin T d L ⟨dst,.indexAddr sz (some m) x y,g,af⟩ s=fi T s dst (aK s.r (.indexAddr sz (some m) x y)):=by simp only[bm,sU];cases hl:cN T dst<;>cases x<;>rfl
theorem Qx(sz:Nat)(v:AV)(y:VX):bm c lin T d L ⟨dst,.indexAddr sz none (.c v) y,g,af⟩ s=fi T s dst (aK s.r (.indexAddr sz none (.c v) y)):=by simp only[bm,sU];cases hl:cN T dst<;>rfl
theorem Tu(off:Nat)(x:VX):bm c lin T d L ⟨dst,.fieldAddr off x,g,af⟩ s=fi T s dst (aK s.r (.fieldAddr off x)):=aD rfl
theorem X9(str:Bool)(sz:Nat)(x:VX)(lo hi:iq):bm c lin T d L ⟨dst,.slice str sz x lo hi,g,af⟩ s=fi T s dst (aK s.r (.slice str sz x lo hi)):=aD rfl
theorem Z6(f:Nat)(cs:cm):bm c lin T d L ⟨dst,.makeFunc f cs,g,af⟩ s=fi T s dst (aK s.r (.makeFunc f cs)):=aD rfl
theorem Wn(str:Bool)(x:VX):bm c lin T d L ⟨dst,.len str x,g,af⟩ s=fi T s dst (aK s.r (.len str x)):=aD rfl
theorem WR(v:AV):fi T s dst (some v)=some (be T s dst v.clr):=aD rfl
theorem qYl(v:AV):jB T s dst (some v)=some (be T s dst v):=aD rfl
theorem Ux(r:aE)(B:ar)(n:Nat)(v:AV):be T ⟨r,B⟩ (some n) v=⟨(n,if T.contains n then v else v.clr)::r,B⟩:=aD rfl
theorem qsZ(v:AV):be T s none v=s:=aD rfl
theorem qSw(r:aE)(B:ar)(xs:cm):eu T dst ⟨r,B⟩ xs=if cN T dst then⟨dC T r xs,B⟩else⟨r,B⟩:=aD rfl
theorem ZK(k:Nat)(z:al):bm c lin T d L ⟨dst,.alloc k z,g,af⟩ s=if cO s.B (L+k)/\z.all DV.isCell then some (be T ⟨s.r,s.B.set (L+k) (some (z.map fun z=> .d z.cn1))⟩ dst (.ptr (L+k) 0))else none:=aD rfl
theorem qSr(x a b:VX):bm c lin T d L ⟨dst,.pick x a b,g,af⟩ s=GZ T dst s a b (bq s.r x):=aD rfl
theorem WO(sz bytes:Nat)(x y:VX):bm c lin T d L ⟨dst,.append sz bytes x y,g,af⟩ s=J9 T dst sz bytes x y s (bq s.r x) (bq s.r y):=aD rfl
theorem Pp(k:Nat)(x:VX):bm c lin T d L ⟨dst,.box k x,g,af⟩ s=JR T L dst k x s (bq s.r x):=aD rfl
theorem Vs(agg:Bool)(sz:Nat)(a:VX):bm c lin T d L ⟨dst,.load agg sz a,g,af⟩ s=xf T d L dst agg sz a s (bq s.r a):=aD rfl
theorem TW(sz:Nat)(a x:VX)(av:ae):bm c lin T d L ⟨dst,.storeN sz a x av,g,af⟩ s=M2 T d L dst sz x av s (bq s.r a) (bq s.r x):=aD rfl
theorem Xm(init:Bool)(sz:Nat)(a x:VX):bm c lin T d L ⟨dst,.store init sz a x,g,af⟩ s=MF T d L dst init sz x s (bq s.r a) (bq s.r x):=aD rfl
theorem Zl(n i:Nat):bm c lin T d L ⟨dst,.extract (.t n) i,g,af⟩ s=tq T dst n i s (lk s.r n):=aD rfl
theorem PU(k sz bytes:Nat)(z:DV)(x:VX):bm c lin T d L ⟨dst,.makeSlice k sz bytes z x,g,af⟩ s=Ma T d L dst k sz bytes z s (bq s.r x):=aD rfl
theorem qqc(sz:Nat)(z:DV)(len:Nat)(ps:i9):bm c lin T d L ⟨dst,.buildSlice sz z len ps,g,af⟩ s=if z.cells.length=sz/\z.cells.all DV.isCell/\len*sz<=16777216/\len<=16777216 then NM T dst (eu T dst s (ps.map fun q=>q.2)) (df (bq s.r) sz (List.replicate len z.cn) ps)else none:=aD rfl
theorem qYq(f:VX)(args:cm):bm c lin T d L ⟨dst,.call true f args,g,af⟩ s=yu c T dst s (bq s.r f) (h_ s.r args):=by simp only[bm,yu,if_true]<;>rfl
theorem Qd(f:VX)(args:cm):bm c lin T d L ⟨dst,.call false f args,g,af⟩ s=xN c lin T dst s args (bq s.r f) (h_ s.r args):=by simp only[bm,xN,yq,bL,if_false]<;>rfl
theorem PR(sz bytes:Nat)(x y a v:VX)(t9:Nat):bm c lin T d L ⟨dst,.append1 sz bytes x y a v t9,g,af⟩ s=HF T d dst sz bytes x v t9 s (bq s.r x) (bq s.r y) (bq s.r a) (bq s.r v):=aD rfl
theorem PN(sz bytes:Nat)(x v:VX)(t9:Nat)(a e:Tag)(xs:al)(z w:DV)(k:IntKind)(n:Int):HF T d dst sz bytes x v t9 s (some (.d (.sl a xs))) (some (.d (.sl e [z]))) (some (.d (.int k n))) (some (.d w))=
 if d=false/\n=xs.length/\z.cells.length=sz/\z.cells.all DV.isCell=true/\w.cells.length=sz/\w.cells.all DV.isCell=true/\lk s.r t9=none then
  (cK sz bytes (.sl a xs) (.sl .sub [w])).map fun u=>be T ⟨dC T s.r (if cN T dst then [x,v]else [x]),s.B⟩ dst (.d u)
 else none:=aD rfl
theorem qOP(a:Nat)(f:VX)(args:cm):bm c lin T d L ⟨dst,.callS a f args,g,af⟩ s=Cj c T dst s (bq s.r f) (h_ s.r args) (lk s.r a):=aD rfl
theorem Z1(agg:Bool)(sz:Nat)(a:VX)(e:Nat):bm c lin T d L ⟨dst,.loadS agg sz a e,g,af⟩ s=L8 T d L dst agg sz s (bq s.r a) (lk s.r e):=aD rfl
theorem q1A(k b off a:Nat)(vs:aA):Cj c T dst s (some (.fn k [])) (some (.ptr b off::vs)) (some (.ptr b a))=(aV vs).bind fun _=>(aT s.B b).bind fun cs=>(aV cs).bind fun _=>ED T dst s b (c k (.ptr 0 off::c8 [] 0 vs) [some (AV.clrs cs)]):=by simp only[Cj,fw,om,if_false]
theorem UE(r:aE)(B:ar)(b:Nat)(v:DV)(cs:aA):ED T dst ⟨r,B⟩ b (some (.d v,[some cs]))=(aV cs).map fun _=>be T ⟨r,B.set b (some (AV.clrs cs))⟩ dst (.d v):=aD rfl
theorem XU(agg:Bool)(sz b off a e:Nat):L8 T d L dst agg sz s (some (.ptr b off)) (some (.ptr a e))=if b=a\/(d/\L<=b)then none else jB T (if cN T dst then⟨s.r,iE s.B b off (if agg then sz else 1)⟩else s) dst (aP s.B agg sz b off):=aD rfl
theorem X6(k:Nat)(th:Bool)(vs:aA):xT c T false dst th s (some (.fn k [])) (some vs)=yB c T dst th s k (cQ (AV.frz s.B) vs):=by simp only[xT,true_or,if_true]
theorem q1x(k:Nat)(vs:aA):xT c T true dst false s (some (.fn k [])) (some vs)=yB c T dst false s k (cQ (AV.frz s.B) vs):=by simp only[xT,or_true,if_true]
theorem Qb(k:Nat)(th:Bool)(ds:al):yB c T dst th s k (some ds)=CS T dst th s (c k (c8 [] 0 (ds.map .d)) []):=aD rfl
theorem T4(th:Bool)(v:DV)(B:ar):CS T dst th s (some (.d v,B))=qJ T th s dst v:=aD rfl
theorem Vw(v:DV):qJ T false s dst v=if v.allUT then some (be T s dst (.d v))else none:=by simp[qJ]
theorem We(r:aE)(B:ar)(v:DV):qJ T true ⟨r,B⟩ dst v=if v.allUT then some (be T ⟨r,B++(v.clr.thaw B.length).2⟩ dst (v.clr.thaw B.length).1)else none:=by simp[qJ]
theorem WF(a b:VX)(v:Bool):GZ T dst s a b (some (ax v))=if v then jB T (eu T dst s [a]) dst (bq s.r a)else jB T (eu T dst s [b]) dst (bq s.r b):=by cases v<;>rfl
theorem qYL(sz bytes:Nat)(x y:VX)(v w:DV):J9 T dst sz bytes x y s (some (.d v)) (some (.d w))=BN T ⟨dC T s.r (if cN T dst then [x,y]else [x]),s.B⟩ dst (cK sz bytes v w):=aD rfl
theorem ZC(k:Nat)(x:VX)(v:AV):JR T L dst k x s (some v)=if cO s.B (L+k)/\v.cells.all AV.isCell/\v.safe (L+k)then some (be T ⟨eW T s.r x,s.B.set (L+k) (some v.cells)⟩ dst (.ptr (L+k) 0))else none:=aD rfl
theorem UR(agg:Bool)(sz:Nat)(x:VX)(cs:al):xf T d L dst agg sz x s (some (.ep cs))=if cN T dst then jB T (eu T dst s [x]) dst ((cut agg sz cs).map .d)else fi T s dst ((cut agg sz cs).map .d):=by
 simp only[xf,fi,jB,Gj];cases hl:cN T dst with
 |true=>rfl
 |false=>
  simp only[bL,if_false];cases cut agg sz cs with
  |none=>rfl
  |some v=>
   simp only[bH,Function.comp,eu,hl,bL,if_false];cases dst with
   |none=>rfl
   |some n=>simp only[cN]at hl;simp only[be,hl,bL,if_false,AV.clr,DV.qhI]
theorem UG(sz n:Nat)(g:Tag)(xs:al)(a:IntKind)(k:Int):KH T dst sz n s (some (.d (.sl g xs))) (some (.d (.int a k)))=if 0<=k then Es T dst sz n g xs k.toNat s (xs[k.toNat]?)else none:=aD rfl
theorem Wk(sz n:Nat)(g:Tag)(xs:al)(k:Nat)(e:DV):Es T dst sz n g xs k s (some e)=if e.cells.length=sz/\sz≠0 then some (be T (if T.contains n then⟨(n,.d (.sl g (xs.set k e.clr)))::s.r,s.B⟩else s) dst (.ep e.cells))else none:=aD rfl
theorem qSZ(agg:Bool)(sz b off:Nat)(x:VX):xf T d L dst agg sz x s (some (.ptr b off))=if d/\L<=b then none else jB T (if cN T dst then⟨s.r,iE s.B b off (if agg then sz else 1)⟩else s) dst (aP s.B agg sz b off):=aD rfl
theorem qI4(sz:Nat)(x:VX)(av:ae)(b off:Nat)(v:AV):M2 T d L dst sz x av s (some (.ptr b off)) (some v)=if gq d false L b|| !eZ s.r b av then none else Er T ⟨eW T s.r x,s.B⟩ dst (gS s.B sz b off v):=aD rfl
theorem qPg(init:Bool)(sz:Nat)(x:VX)(b off:Nat)(v:AV):MF T d L dst init sz x s (some (.ptr b off)) (some v)=if gq d init L b then none else Er T ⟨eW T s.r x,s.B⟩ dst (gS s.B sz b off v):=aD rfl
theorem V2(r:aE)(B B':ar):Er T ⟨r,B⟩ dst (some B')=some (be T ⟨r,B'⟩ dst .und):=aD rfl
theorem Wh(n i:Nat)(vs:al):tq T dst n i s (some (.d (.tup vs)))=BN T (if cN T dst&&T.contains n then⟨(n,.d (.tup (vs.set i ((vs[i]?).getD (.bool false)).clr)))::s.r,s.B⟩else s) dst (vs[i]?):=by
 simp only[tq,BN];cases hv:vs[i]? with
 |none=>rfl
 |some v=>simp
theorem qS1(n i:Nat)(vs:aA):tq T dst n i s (some (.ag true vs))=fi T s dst (vs[i]?):=by simp only[tq,fi]
theorem XH(k sz bytes:Nat)(z:DV)(a:IntKind)(n:Int):Ma T d L dst k sz bytes z s (some (.d (.int a n)))=if d=false/\cO s.B (L+k)/\0<=n/\n.toNat*bytes<=140737488355328/\n<9223372036854775808/\z.cells.length=sz/\z.cells.all DV.isCell then
 some (be T ⟨s.r,s.B.set (L+k) (some (((List.replicate n.toNat z.cn).flatMap DV.cells).map .d))⟩ dst (.bsl [] (isAgg z) (L+k) sz n.toNat))else none:=aD rfl
theorem Z9(xs:al):NM T dst s (some xs)=some (be T s dst (.d (.sl U xs))):=aD rfl
theorem OK(k:Nat)(vs:aA):yu c T dst s (some (.fn k [])) (some vs)=EX T dst s (aV vs) (c k (c8 [] 0 vs) []):=by simp only[yu,EX];cases aV vs<;>rfl
theorem Z7(ds:al)(v:DV)(B:ar):EX T dst s (some ds) (some (.d v,B))=some (be T s dst (.d v)):=aD rfl
theorem Q3(args:cm)(k:Nat)(caps vs:aA):xN c lin T dst s args (some (.fn k caps)) (some vs)=yq T dst s (dV (lin k) 0 args) (dn T (dV (lin k) 0 args)) (c k (c8 (lin k) 0 vs++caps) s.B):=aD rfl
theorem Pn(xs:cm)(r:aE)(a:ar)(v:AV)(B:ar):yq T dst ⟨r,a⟩ xs true (some (v,B))=some (be T ⟨dC T r xs,B⟩ dst v):=aD rfl
theorem ZQ(v:DV):BN T s dst (some v)=some (be T s dst (.d v)):=aD rfl
end
theorem PE(r:aE)(x:VX):aK r (.nilCheck x)=uY (x.get r):=aD rfl
theorem ZO(r:aE)(op:BinOp)(x y:VX):aK r (.bin op x y)=Ml op (x.get r) (y.get r):=aD rfl
theorem RV(r:aE)(neg:Bool)(ks:ae)(x y:VX):aK r (.eqAgg neg ks x y)=EK neg ks (x.get r) (y.get r):=aD rfl
theorem OH(r:aE)(neg:Bool)(x y:VX):aK r (.eqB neg x y)=IY neg (x.get r) (y.get r):=aD rfl
theorem Qi(r:aE)(x:VX):aK r (.not x)=G9 (x.get r):=aD rfl
theorem OC(r:aE)(k:IntKind)(x:VX):aK r (.conv (.kind k) x)=Nl k (x.get r):=aD rfl
theorem qXn(r:aE)(x:VX):aK r (.conv .rune x)=Hb (x.get r):=aD rfl
theorem Xy(r:aE)(x:VX):aK r (.conv .bytes x)=J_ (x.get r):=aD rfl
theorem Wa(r:aE)(x y:VX):aK r (.index x y)=NO (x.get r) (y.get r):=aD rfl
theorem UP(r:aE)(sz:Nat)(x y:VX):aK r (.indexAddr sz none x y)=tN sz (x.get r) (y.get r):=aD rfl
theorem XY(r:aE)(sz m:Nat)(x y:VX):aK r (.indexAddr sz (some m) x y)=F6 sz m (x.get r) (y.get r):=aD rfl
theorem qu7(r:aE)(off:Nat)(x:VX):aK r (.fieldAddr off x)=Ge off (x.get r):=aD rfl
theorem qAj(r:aE)(f:Nat)(cs:cm):aK r (.makeFunc f cs)=(di r cs).map fun vs=> .fn f vs:=aD rfl
theorem Oc(r:aE)(str:Bool)(x:VX):aK r (.len str x)=qw str (x.get r):=by
 cases str<;>simp only[aK,qw]<;>(cases h:x.get r with
  |none=>rfl
  |some v=>cases v with
   |d w=>cases w<;>rfl
   |_=>rfl)
theorem qRn(r:aE)(str:Bool)(sz:Nat)(x:VX)(lo hi:iq):aK r (.slice str sz x lo hi)=vN str sz (x.get r) (dz r lo) (dz r hi):=by
 cases str<;>simp only[aK,vN]<;>(cases h:x.get r with
  |none=>rfl
  |some v=>cases v with
   |d w=>cases w<;>cases dz r lo<;>cases dz r hi<;>rfl
   |_=>rfl)
theorem Se(i o:Nat):uY (some (.ptr i o))=some (.ptr i o):=aD rfl
theorem qW9(cs:al):uY (some (.ep cs))=some (.ep cs):=aD rfl
theorem W5(f:Nat)(c:aA):uY (some (.fn f c))=some (.fn f c):=aD rfl
theorem Yp(op:BinOp)(a b:DV):Ml op (some (.d a)) (some (.d b))=dO (fV op a b):=aD rfl
theorem Xc(a:DV):dO (some a)=some (.d a):=aD rfl
theorem PF(neg:Bool)(ks:ae)(a b:al):EK neg ks (some (.d (.agg a))) (some (.d (.agg b)))=(eB ks a b).map fun e=> ax (if neg then !e else e):=aD rfl
theorem Tc(neg:Bool)(a b:Bool):IY neg (some (ax a)) (some (ax b))=some (ax (if neg then !(a==b)else(a==b))):=aD rfl
theorem O4(b:Bool):G9 (some (ax b))=some (.d (.bool !b)):=aD rfl
theorem Qs(k k':IntKind)(n:Int):Nl k (some (.d (.int k' n)))=some (.d (.int k (k.wrap n))):=aD rfl
theorem Xr(k':IntKind)(n:Int):Hb (some (.d (.int k' n)))=some (.d (.str (Utf8.encode n))):=aD rfl
theorem QH(g:Tag)(xs:al):J_ (some (.d (.sl g xs)))=(bytesOf xs).map fun bs=> .d (.str ⟨bs.toArray⟩):=aD rfl
theorem Qp(s:ByteArray)(k:IntKind)(n:Int):NO (some (.d (.str s))) (some (.d (.int k n)))=if 0<=n then(ng s n.toNat).map fun b=> .d (.int .u8 b)else none:=aD rfl
theorem qXh(sz:Nat)(g:Tag)(xs:al)(k:IntKind)(n:Int):tN sz (some (.d (.sl g xs))) (some (.d (.int k n)))=if 0<=n then Ds sz (xs[n.toNat]?)else none:=by simp only[tN,Ds]
theorem QA(sz:Nat)(e:DV):Ds sz (some e)=if e.cells.length=sz/\sz≠0 then some (.ep e.cells)else none:=aD rfl
theorem Qn(sz:Nat)(id:Id)(a:Bool)(b s' m:Nat)(k:IntKind)(n:Int):tN sz (some (.bsl id a b s' m)) (some (.d (.int k n)))=if s'=sz/\0<=n/\n<m then some (.ptr b (n.toNat*sz))else none:=aD rfl
theorem ZR(sz:Nat)(a:Bool)(b s' m:Nat)(k:IntKind)(n:Int):tN sz (some (.tsl a b s' m)) (some (.d (.int k n)))=if s'=sz/\0<=n/\n<m then some (.ptr b (n.toNat*sz))else none:=aD rfl
theorem q0v(sz m b o:Nat)(k:IntKind)(n:Int):F6 sz m (some (.ptr b o)) (some (.d (.int k n)))=if 0<=n/\n<m then some (.ptr b (o+n.toNat*sz))else none:=aD rfl
theorem Ru(sz m:Nat)(cs:al)(k:IntKind)(n:Int):F6 sz m (some (.ep cs)) (some (.d (.int k n)))=if 0<=n/\n<m/\n.toNat*sz<=cs.length then some (.ep (cs.drop (n.toNat*sz)))else none:=aD rfl
theorem W9(off b o:Nat):Ge off (some (.ptr b o))=some (.ptr b (o+off)):=aD rfl
theorem Sp(off:Nat)(cs:al):Ge off (some (.ep cs))=if off<=cs.length then some (.ep (cs.drop off))else none:=aD rfl
theorem YT(s:ByteArray):qw true (some (.d (.str s)))=some (aa s.size):=aD rfl
theorem ZT(g:Tag)(xs:al):qw false (some (.d (.sl g xs)))=some (aa xs.length):=aD rfl
theorem QG(a:Bool)(i s n:Nat):qw false (some (.tsl a i s n))=some (aa n):=aD rfl
theorem X5(a:Bool)(i s n:Nat)(r:aA):aV (.tsl a i s n::r)=none:=aD rfl
theorem TH(v:DV):GF v none=none:=aD rfl
theorem WI(cs:aA):jH cs none=if cs.all AV.plainT then some (.ag false cs)else none:=aD rfl
theorem SQ(k:IntKind)(n:Int):(AV.d (.int k n)).plainT=true:=aD rfl
theorem Xz(b:Bool):(AV.d (.bool b)).plainT=true:=aD rfl
theorem Vu(b:ByteArray):(AV.d (.str b)).plainT=true:=aD rfl
theorem VN(g:Tag):(AV.d (.sl g [])).plainT=true:=aD rfl
theorem qzA(a:Bool)(i s n:Nat):(AV.tsl a i s n).plainT=true:=aD rfl
theorem M8(a:Bool)(i s n:Nat):(AV.tsl a i s n).clr= .tsl a i s n:=by simp only[AV.clr]
theorem QE(t:Bool)(cs:aA):(AV.ag t cs).clr= .ag t (AV.clrs cs):=by simp only[AV.clr]
theorem Rz(cs:aA)(ds:al):jH cs (some ds)=some (.d (.agg ds)):=aD rfl
theorem qKJ(f:AV->cZ):cQ f []=some []:=aD rfl
theorem VC(f:AV->cZ)(v:AV)(r:aA):cQ f (v::r)=LN (f v) (cQ f r):=aD rfl
theorem VP(d:DV)(ds:al):LN (some d) (some ds)=some (d::ds):=aD rfl
theorem N5(B:ar)(v:DV):AV.frz B (.d v)=some v:=by unfold AV.frz;cases B.length<;>simp only[AV.frzC]
theorem UH(id:Id)(a:Bool)(i s n:Nat):qw false (some (.bsl id a i s n))=some (aa n):=aD rfl
theorem XQ(sz:Nat)(s:ByteArray)(lo hi:bc):vN true sz (some (.d (.str s))) (some lo) (some hi)=(fk s.size hi).bind fun h=>(fj h lo).map fun l=> .d (.str (s.extract l h)):=aD rfl
theorem qRd(sz:Nat)(g:Tag)(xs:al)(lo hi:bc):vN false sz (some (.d (.sl g xs))) (some lo) (some hi)=if xs.all (fun e=>e.cells.length=sz)then(fk xs.length hi).bind fun h=>(fj h lo).map fun l=> .d (.sl (if g= .nil then .nil else .sub) ((xs.take h).drop l))else none:=aD rfl
theorem qGy(r:aE):dz r none=some none:=aD rfl
theorem YZ(r:aE)(x:VX):dz r (some x)=(x.get r).map some:=aD rfl
theorem WH(n:Nat):fk n none=some n:=aD rfl
theorem qQm(n:Nat):fj n none=some 0:=aD rfl
theorem OR(n:Nat)(k:IntKind)(h:Int):fk n (some (.d (.int k h)))=if 0<=h/\h.toNat<=n then some h.toNat else none:=aD rfl
theorem XD(n:Nat)(k:IntKind)(h:Int):fj n (some (.d (.int k h)))=if 0<=h/\h.toNat<=n then some h.toNat else none:=aD rfl
theorem qKH(r:aE):di r []=some []:=aD rfl
theorem UK(r:aE)(x:VX)(xs:cm):di r (x::xs)=uI (x.get r) (di r xs):=by simp only[di,uI];cases x.get r<;>cases di r xs<;>rfl
theorem Ve(v:AV)(vs:aA):uI (some v) (some vs)=some (v::vs):=aD rfl
theorem UI(r:aE)(n:Nat):bq r (.t n)=lk r n:=aD rfl
theorem ZE(r:aE)(v:DV):bq r (.c (.d v))=some (.d v.cn):=aD rfl
theorem Rs(r:aE)(f:Nat):bq r (.c (.fn f []))=some (.fn f []):=by simp[bq,AV.clr,AV.clrs]
theorem qBk(r:aE):bq r (.c .nilp)=some .nilp:=by simp[bq,AV.clr]
theorem Xa(T:ae)(r:aE):dC T r []=r:=aD rfl
theorem qs7(T:ae)(r:aE)(x:VX)(xs:cm):dC T r (x::xs)=dC T (eW T r x) xs:=aD rfl
theorem qO0(T:ae)(r:aE)(v:AV):eW T r (.c v)=r:=aD rfl
theorem qBl(T:ae)(r:aE)(n:Nat)(h:T.contains n=false):eW T r (.t n)=r:=by simp only[eW,h];simp
theorem qBm(T:ae)(r:aE)(n:Nat)(h:T.contains n=true)(v:AV)(a:lk r n=some v):eW T r (.t n)=(n,v.clr)::r:=by simp only[eW,h,a];simp
theorem W6(T:ae):cN T none=false:=aD rfl
theorem Qj(T:ae)(d:Nat):cN T (some d)=T.contains d:=aD rfl
theorem qXP(k:IntKind)(n:Int):(DV.int k n).cn= .int k n:=by simp[DV.cn,DV.cn1,DV.clr]
theorem QN(b:Bool):(DV.bool b).cn= .bool b:=by simp[DV.cn,DV.cn1,DV.clr]
theorem X8(s:ByteArray):(DV.str s).cn= .str s:=by simp[DV.cn,DV.cn1,DV.clr]
theorem Ya:(DV.sl .nil []).cn= .sl U []:=by simp[DV.cn,DV.cn1]
theorem Q2(cs:al):(DV.agg cs).cn= .agg (cs.map DV.cn1):=aD rfl
theorem Yt(k:IntKind)(n:Int):(DV.int k n).cn1= .int k n:=by simp[DV.cn1,DV.clr]
theorem Vk(b:Bool):(DV.bool b).cn1= .bool b:=by simp[DV.cn1,DV.clr]
theorem RB(s:ByteArray):(DV.str s).cn1= .str s:=by simp[DV.cn1,DV.clr]
theorem Qy:(DV.sl .nil []).cn1= .sl U []:=by simp[DV.cn1]
theorem CJ(k:IntKind)(n:Int):(DV.int k n).clr= .int k n:=by simp[DV.clr]
theorem YM(b:Bool):(DV.bool b).clr= .bool b:=by simp[DV.clr]
theorem Ly(s:ByteArray):(DV.str s).clr= .str s:=by simp[DV.clr]
theorem Nx(g:Tag)(xs:al):(DV.sl g xs).clr= .sl .sub (xs.map DV.clr):=by simp[DV.clr,DV.qaw]
theorem N9(xs:al):(DV.agg xs).clr= .agg (xs.map DV.clr):=by simp[DV.clr,DV.qaw]
theorem Ql(xs:al):(DV.tup xs).clr= .tup (xs.map DV.clr):=by simp[DV.clr,DV.qaw]
theorem YX(v:DV):(AV.d v).clr= .d v.clr:=by simp[AV.clr]
theorem Oy(i o:Nat):(AV.ptr i o).clr= .ptr i o:=by simp[AV.clr]
theorem Ra(cs:al):(AV.ep cs).clr= .ep (cs.map DV.clr):=by simp[AV.clr,DV.qaw]
theorem SO(f:Nat)(cs:aA):(AV.fn f cs).clr= .fn f (cs.map AV.clr):=by simp[AV.clr,AV.qaw]
theorem RL:AV.nilp.clr= .nilp:=by simp[AV.clr]
theorem YW(id:Id)(a:Bool)(i sz n:Nat):(AV.bsl id a i sz n).clr= .bsl id a i sz n:=by simp[AV.clr]
theorem ZV:AV.und.clr= .und:=by simp[AV.clr]
theorem qBf(LP:ae)(j:Nat):c8 LP j []=[]:=aD rfl
theorem Sy(LP:ae)(j:Nat)(v:AV)(r:aA):c8 LP j (v::r)=(if LP.contains j then v else v.clr)::c8 LP (j+1) r:=aD rfl
theorem qs6(LP:ae)(j:Nat):dV LP j []=[]:=aD rfl
theorem K_(j:Nat):∀xs:cm,dV [] j xs=[]
 | []=>rfl
 |x::xs=>by simp[dV,K_ (j+1) xs]
theorem qqh(LP:ae)(j:Nat)(v:VX)(r:cm):dV LP j (v::r)=if LP.contains j then v::dV LP (j+1) r else dV LP (j+1) r:=aD rfl
theorem Wv(r:aE):h_ r []=some []:=aD rfl
theorem XX(r:aE)(x:VX)(xs:cm):h_ r (x::xs)=uI (bq r x) (h_ r xs):=by simp only[h_,uI];cases bq r x<;>cases h_ r xs<;>rfl
theorem qHh:aV []=some []:=aD rfl
theorem Tv(v:DV)(r:aA):aV (.d v::r)=GF v (aV r):=aD rfl
theorem RZ(v:DV)(r:al):GF v (some r)=some (v::r):=aD rfl
theorem WX(T:ae):dn T []=true:=aD rfl
theorem Ye(g:VX->bc)(cs:al):ez g cs []=some cs:=aD rfl
theorem Yf(g:VX->bc)(cs:al)(off size:Nat)(x:VX)(r:iX):ez g cs ((off,size,x)::r)=F8 g cs off size r (g x):=by simp only[ez,F8]<;>rfl
theorem UN(g:VX->bc)(cs:al)(off size:Nat)(r:iX)(v:DV):F8 g cs off size r (some (.d v))=if v.cells.length=size/\off+size<=cs.length/\v.cells.all DV.isCell then ez g (splice cs off v.cells) r else none:=aD rfl
theorem SH(g:VX->bc)(sz:Nat)(cs:al):df g sz cs []=some cs:=aD rfl
theorem qpW(g:VX->bc)(sz:Nat)(cs:al)(i:Nat)(x:VX)(r:i9):df g sz cs ((i,x)::r)=Ca g sz cs i r (g x):=by simp only[df,Ca]<;>rfl
theorem Tj(g:VX->bc)(sz:Nat)(cs:al)(i:Nat)(r:i9)(v:DV):Ca g sz cs i r (some (.d v))=if v.cells.length=sz/\i<cs.length/\v.cells.all DV.isCell then df g sz (cs.set i v) r else none:=aD rfl
def NA(t:Nat)(live:ae)(s:XS)(v:bc):bU:=
 match v with
 |some (.d (.sl (.own [] 0) (x::xs)))=>
  if live.contains t=false/\jv ((x::xs).flatMap DV.cells) (keep s.r live)=true/\ft ((x::xs).flatMap DV.cells) s.B=true/\DV.xrests ((x::xs).flatMap DV.cells) ((x::xs).flatMap DV.cells)=true then
   some ⟨(t,.tsl (b_ x) s.B.length x.cells.length (xs.length+1))::keep s.r live,s.B++[some (((x::xs).flatMap DV.cells).map .d)]⟩
  else none
 |_=>none
theorem Yz(t:Nat)(live:ae)(s:XS):gp (.focR t live) s=NA t live s (lk s.r t):=aD rfl
theorem TQ(t:Nat)(live:ae)(r:aE)(B:ar)(x:DV)(xs:al):NA t live ⟨r,B⟩ (some (.d (.sl U (x::xs))))=
 if live.contains t=false/\jv ((x::xs).flatMap DV.cells) (keep r live)=true/\ft ((x::xs).flatMap DV.cells) B=true/\DV.xrests ((x::xs).flatMap DV.cells) ((x::xs).flatMap DV.cells)=true then
  some ⟨(t,.tsl (b_ x) B.length x.cells.length (xs.length+1))::keep r live,B++[some (((x::xs).flatMap DV.cells).map .d)]⟩
 else none:=aD rfl
def ve(off:Nat)(live:ae)(s:XS)(j o:Nat)(cs:aA)(v:bc):bU:=
 match v with
 |some (.d (.sl (.own [] 0) (x::xs)))=>
  if cO s.B j=true/\jv ((x::xs).flatMap DV.cells) (keep s.r live)=true/\
   ft ((x::xs).flatMap DV.cells) (s.B.set (j+1) (some (cs.set (o+off) (.tsl (b_ x) j x.cells.length (xs.length+1)))))=true/\DV.xrests ((x::xs).flatMap DV.cells) ((x::xs).flatMap DV.cells)=true then
   some ⟨keep s.r live,(s.B.set (j+1) (some (cs.set (o+off) (.tsl (b_ x) j x.cells.length (xs.length+1))))).set j (some (((x::xs).flatMap DV.cells).map .d))⟩
  else none
 |_=>none
def HC(off:Nat)(live:ae)(s:XS)(v:bc):bU:=
 match v with
 |some (.ptr (j+1) o)=>(aT s.B (j+1)).bind fun cs=>ve off live s j o cs (cs[o+off]?)
 |_=>none
theorem Na(t off:Nat)(live:ae)(s:XS):gp (.focC t off live) s=HC off live s (lk s.r t):=aD rfl
theorem Jj(off:Nat)(live:ae)(s:XS)(j o:Nat):HC off live s (some (.ptr (j+1) o))=(aT s.B (j+1)).bind fun cs=>ve off live s j o cs (cs[o+off]?):=aD rfl
theorem No(off:Nat)(live:ae)(r:aE)(B:ar)(j o:Nat)(cs:aA)(x:DV)(xs:al):ve off live ⟨r,B⟩ j o cs (some (.d (.sl U (x::xs))))=
 if cO B j=true/\jv ((x::xs).flatMap DV.cells) (keep r live)=true/\
  ft ((x::xs).flatMap DV.cells) (B.set (j+1) (some (cs.set (o+off) (.tsl (b_ x) j x.cells.length (xs.length+1)))))=true/\DV.xrests ((x::xs).flatMap DV.cells) ((x::xs).flatMap DV.cells)=true then
  some ⟨keep r live,(B.set (j+1) (some (cs.set (o+off) (.tsl (b_ x) j x.cells.length (xs.length+1))))).set j (some (((x::xs).flatMap DV.cells).map .d))⟩
 else none:=aD rfl
def Ix(t L:Nat)(live:ae)(s:XS)(v:bc):bU:=
 match v with
 |some v=>if live.contains t=false/\aG L (keep s.r live)=true/\L<=s.B.length then(v.frz (dp L s.B)).map fun d=>⟨(t,.d d.clr)::keep s.r live,s.B.take L⟩else none
 |none=>none
theorem qW0(t L:Nat)(live:ae)(s:XS):gp (.frzR t L live) s=Ix t L live s (lk s.r t):=aD rfl
theorem qQ8(t L:Nat)(live:ae)(r:aE)(B:ar)(v:AV):Ix t L live ⟨r,B⟩ (some v)=if live.contains t=false/\aG L (keep r live)=true/\L<=B.length then(v.frz (dp L B)).map fun d=>⟨(t,.d d.clr)::keep r live,B.take L⟩else none:=aD rfl
def Ng(t L:Nat)(live:ae)(s:XS)(v:bc):bU:=
 match v with
 |some (.ptr i 0)=>
  if L<=i/\live.contains t=false/\aG L (keep s.r live)=true/\L<=s.B.length then
   (aT s.B i).bind fun cs=>(cQ (AV.frzC (dp L s.B) s.B.length) cs).bind fun ds=>if ds.all DV.isCell then some ⟨(t,.ptr L 0)::keep s.r live,s.B.take L++[some (ds.map fun d=> .d d.clr)]⟩else none
  else none
 |_=>none
theorem MQ(t L:Nat)(live:ae)(s:XS):gp (.frzB t L live) s=Ng t L live s (lk s.r t):=aD rfl
theorem IE(t L:Nat)(live:ae)(r:aE)(B:ar)(i:Nat):Ng t L live ⟨r,B⟩ (some (.ptr i 0))=
 if L<=i/\live.contains t=false/\aG L (keep r live)=true/\L<=B.length then
  (aT B i).bind fun cs=>(cQ (AV.frzC (dp L B) B.length) cs).bind fun ds=>if ds.all DV.isCell then some ⟨(t,.ptr L 0)::keep r live,B.take L++[some (ds.map fun d=> .d d.clr)]⟩else none
 else none:=aD rfl
theorem Q1(rs:al):jv rs []=true:=aD rfl
theorem Tl(rs:al)(t:Nat)(v:AV)(r:aE):jv rs ((t,v)::r)=(v.xrest rs&&jv rs r):=aD rfl
theorem YE(rs:al):ft rs []=true:=aD rfl
theorem Xj(rs:al)(B:ar):ft rs (none::B)=ft rs B:=by simp only[ft,gF,fh]
def iy(rs:al)(cs:aA):Bool:=cs.all (AV.xrest rs)
theorem To(rs:al):iy rs []=true:=aD rfl
theorem SJ(rs:al)(v:AV)(cs:aA):iy rs (v::cs)=(v.xrest rs&&iy rs cs):=aD rfl
theorem SI(rs:al)(cs:aA)(B:ar):ft rs (some cs::B)=(iy rs cs&&ft rs B):=aD rfl
theorem qLj(rs:al)(v:DV):AV.xrest rs (.d v)=v.xrest rs:=aD rfl
theorem qAZ(rs:al)(i o:Nat):AV.xrest rs (.ptr i o)=true:=aD rfl
theorem ZL(rs:al)(a:Bool)(i sz n:Nat):AV.xrest rs (.tsl a i sz n)=true:=aD rfl
theorem TB(rs:al):AV.xrest rs .und=true:=aD rfl
theorem Ln(rs:al)(k:IntKind)(n:Int):DV.xrest rs (.int k n)=true:=by simp only[DV.xrest]
theorem SV(rs:al)(b:Bool):DV.xrest rs (.bool b)=true:=by simp only[DV.xrest]
theorem Z0(rs:al)(s:ByteArray):DV.xrest rs (.str s)=true:=by simp only[DV.xrest]
theorem J6(rs cs:al):DV.xrest rs (.agg cs)=DV.xrests rs cs:=by simp only[DV.xrest]
theorem MX(rs xs:al):DV.xrest rs (.sl U xs)=DV.xrests rs xs:=by simp only[DV.xrest,decide_true,Bool.or_true,fh]
theorem Yd(rs:al)(g:Tag):DV.xrest rs (.sl g [])=true:=by simp[DV.xrest,DV.xrests]
theorem C5(rs:al):DV.xrests rs []=true:=by simp only[DV.xrests]
theorem FY(rs:al)(v:DV)(r:al):DV.xrests rs (v::r)=(v.xrest rs&&DV.xrests rs r):=by simp only[DV.xrests]
attribute [simp] To SJ Yz TQ Na Jj No qW0 qQ8 MQ IE Q1 Tl YE Xj SI qLj qAZ ZL TB Ln SV Z0 J6 MX Yd C5 FY
theorem KP:fZ []=[]:=aD rfl
theorem Nq(cs:aA)(B:ar):fZ (some cs::B)=some (AV.clrs cs)::fZ B:=aD rfl
theorem Ov(B:ar):fZ (none::B)=none::fZ B:=aD rfl
theorem Un:AV.clrs []=[]:=by simp only[AV.clrs]
theorem Yu(v:AV)(r:aA):AV.clrs (v::r)=v.clr::AV.clrs r:=by simp only[AV.clrs]
attribute [simp] Hl PR PN qOP Z1 q1A UE XU Co KP Nq Ov Un Yu
def Ew(c:cq)(lin:Nat->ae)(T:ae)(d:Bool)(L:Nat)(fs:eU)(o:bU):bU:=o.bind (fu c lin T d L fs)
def N3(c:cq)(lin:Nat->ae)(T:ae)(d:Bool)(L:Nat)(f:FOper)(fs:eU)(o:bU):bU:=o.bind fun s=>Ew c lin T d L fs (iu T f s)
def EI(T:ae)(a d3 sz:Nat)(ok:Bool)(s:XS)(v:bc)(lo hi:Option bc):bU:=
 match v,lo,hi with
 |some (.d (.sl g xs)),some lo,some hi=>
  if ok=true/\xs.all (fun e=>e.cells.length=sz)then
   (fk xs.length hi).bind fun h=>(fj h lo).map fun l=>be T ⟨(a,.d (.sl g (f9 xs l h)))::s.r,s.B⟩ (some d3) (.d (.sl .sub ((xs.take h).drop l)))
  else none
 |_,_,_=>none
def rz(T:ae)(d4 sz:Nat)(s:XS)(b off:Nat)(cs:aA)(g:Tag)(xs:al)(k:Nat)(e:cZ):bU:=
 match e with
 |some (.agg a)=>if a.length=sz then some (be T ⟨s.r,s.B.set b (some (cs.set off (.d (.sl g (xs.set k (DV.agg a).clr)))))⟩ (some d4) (.d (.agg a)))else none
 |_=>none
def y7(T:ae)(d4 sz:Nat)(s:XS)(b off:Nat)(cs:aA)(k:Nat)(v:bc):bU:=
 match v with
 |some (.d (.sl g xs))=>rz T d4 sz s b off cs g xs k (xs[k]?)
 |_=>none
def Cr(T:ae)(d4 sz:Nat)(ok:Bool)(s:XS)(v w:bc):bU:=
 match v,w with
 |some (.ptr b off),some (.d (.int _ k))=>if ok=true/\0<=k/\sz≠0 then(aT s.B b).bind fun cs=>y7 T d4 sz s b off cs k.toNat (cs[off]?)else none
 |_,_=>none
theorem P3(c:cq)(lin:Nat->ae)(T:ae)(d:Bool)(L:Nat)(f:FOper)(fs:eU)(s:XS):fu c lin T d L (f::fs) s=N3 c lin T d L f fs (bl c lin T d L f.pre s):=aD rfl
theorem TU(c:cq)(lin:Nat->ae)(T:ae)(d:Bool)(L:Nat)(s:XS):fu c lin T d L [] s=some s:=aD rfl
theorem TG(c:cq)(lin:Nat->ae)(T:ae)(d:Bool)(L:Nat)(f:FOper)(fs:eU)(s:XS):N3 c lin T d L f fs (some s)=Ew c lin T d L fs (iu T f s):=aD rfl
theorem Tq(c:cq)(lin:Nat->ae)(T:ae)(d:Bool)(L:Nat)(fs:eU)(s:XS):Ew c lin T d L fs (some s)=fu c lin T d L fs s:=aD rfl
theorem Zt(T:ae)(o:VOper)(s:XS):iu T (.one o) s=some s:=aD rfl
theorem ZY(T:ae)(d1 a d2:Nat)(b:VX)(d3 sz:Nat)(lo hi:iq)(f1 f2 f3:ae)(s:XS):iu T (.sl d1 a d2 b d3 sz lo hi f1 f2 f3) s=EI T a d3 sz (decide (T.contains a=true/\T.contains d3=true/\d1≠a/\d2≠a/\d1≠d2)) s (lk s.r a) (dz s.r lo) (dz s.r hi):=by simp only[iu,EI,bu];rfl
theorem Yj(T:ae)(a d3 sz:Nat)(ok:Bool)(s:XS)(g:Tag)(xs:al)(lo hi:bc):EI T a d3 sz ok s (some (.d (.sl g xs))) (some lo) (some hi)=if ok=true/\xs.all (fun e=>e.cells.length=sz)then
 (fk xs.length hi).bind fun h=>(fj h lo).map fun l=>be T ⟨(a,.d (.sl g (f9 xs l h)))::s.r,s.B⟩ (some d3) (.d (.sl .sub ((xs.take h).drop l)))
 else none:=aD rfl
theorem qYj(T:ae)(d1 q d2:Nat)(b:VX)(d3 sz d4:Nat)(f1 f2 f3 f4:ae)(s:XS):iu T (.el d1 q d2 b d3 sz d4 f1 f2 f3 f4) s=Cr T d4 sz (decide (T.contains d4=true/\d1≠q/\d2≠q/\d3≠q/\d1≠d2/\d3≠d2)) s (lk s.r q) (lk s.r d2):=by simp only[iu,Cr,y7,rz,bu];rfl
theorem qYF(T:ae)(d4 sz:Nat)(ok:Bool)(s:XS)(b off:Nat)(a:IntKind)(k:Int):Cr T d4 sz ok s (some (.ptr b off)) (some (.d (.int a k)))=if ok=true/\0<=k/\sz≠0 then(aT s.B b).bind fun cs=>y7 T d4 sz s b off cs k.toNat (cs[off]?)else none:=aD rfl
theorem Ul(T:ae)(d4 sz:Nat)(s:XS)(b off:Nat)(cs:aA)(k:Nat)(g:Tag)(xs:al):y7 T d4 sz s b off cs k (some (.d (.sl g xs)))=rz T d4 sz s b off cs g xs k (xs[k]?):=aD rfl
theorem qSU(T:ae)(d4 sz:Nat)(s:XS)(b off:Nat)(cs:aA)(g:Tag)(xs:al)(k:Nat)(a:al):rz T d4 sz s b off cs g xs k (some (.agg a))=if a.length=sz then some (be T ⟨s.r,s.B.set b (some (cs.set off (.d (.sl g (xs.set k (DV.agg a).clr)))))⟩ (some d4) (.d (.agg a)))else none:=aD rfl
theorem UL(X:XEnv)(T:ae)(na:Nat)(live:ae)(fs:eU)(r:aE)(B:ar):
 aO X T (.regionF false na live fs) ⟨r,B⟩=bF live (fu (ap X) X.lin T false B.length fs ⟨r,B++List.replicate na none⟩):=by
 rw[LH];simp[jA,bF,lH]
theorem VV(X:XEnv)(T:ae)(na:Nat)(live:ae)(fs:eU)(h:ja (gQ fs)=true)(r:aE)(B:ar):
 aO X T (.regionF true na live fs) ⟨r,B⟩=bF live (fu (ap X) X.lin T true B.length fs ⟨r,B++List.replicate na none⟩):=by
 rw[LH];simp[jA,bF,lH,h]
attribute [simp] P3 TU TG Tq Zt ZY Yj qYj qYF Ul qSU UL FOper.pre
attribute [simp] nV Qh PO qAu qAv Y3 OJ Qq X0 Ue WT qYs Ku Wz Sk Uc Xd qYk Rh LJ LA PL Sg qOR Xp qYu qOM XL Ur Wy ZD Qt Tz Qx UG Wk Tu X9 Z6 Wn WR qYl Ux qsZ qSw ZK WO Pp Vs TW Xm Zl qSr PU qqc qYq Qd Rz X5 TH WI SQ Xz Vu VN qzA M8 QE WF qYL ZC UR qSZ qPg qI4 VM XT W8 EL V2 Wh XH Z9 OK Z7 Q3 Pn ZQ X6 q1x Qb T4 Vw We qS1 qKJ VC VP N5 ZR QG PE ZO RV OH Qi OC qXn Xy Wa UP XY qu7 qAj Oc qRn Se qW9 W5 Yp Xc PF Tc O4 Qs Xr QH Qp qXh QA Qn q0v Ru W9 Sp YT ZT UH XQ qRd qGy YZ WH qQm OR XD qKH UK Ve UI ZE Rs qBk Xa qs7 qO0 qBl qBm W6 Qj qXP QN X8 Ya Q2 Yt Vk RB Qy CJ YM Ly Nx N9 Ql YX Oy Ra SO RL YW ZV qBf Sy qs6 K_ qqh Wv XX qHh Tv RZ WX Ye Yf UN SH qpW Tj gf v_ Cy nA pn gS cO aT gq iE aP
theorem Gm(q:Ex×XS)(k:XS->eK)(h:q.1≠.normal):mu (some q) k=some q:=by
 obtain⟨e,s'⟩:=q;cases e with
 |normal=>exact absurd rfl h
 |exit id=>rfl
 |ret=>rfl
variable{β γ:Type}
def FI(L:Nat)(live:ae)(st:β->Nat->XS)(R:γ->Ex×XS)(i:Nat)(o:eK):β⊕γ->Prop
 | .inl a'=>∃s',o=some (.normal,s')/\aJ L live s'=some (st a' (i+1))
 | .inr r=>(R r).1≠.normal/\o=some (R r)
variable{b:VCode}
theorem sn{T:ae}{L:Nat}{st:β->Nat->XS}{step:β->Nat->β⊕γ}{F:β->Ex×XS}{R:γ->Ex×XS}(Inv:β->Nat->Prop)
 (l:∀a,Inv a n->(F a).1≠.normal/\aO X T b (st a n)=some (F a))
 (e:∀a i,i<n->Inv a i->FI L live st R i (aO X T b (st a i)) (step a i)/\∀a',step a i= .inl a'->Inv a' (i+1)):
 ∀(k:Nat) (a:β) (i:Nat) (s:XS),i+k=n->Inv a i->aJ L live s=some (st a i)->cj X T L live b s=some (match runN step k a i with| .inl a'=>F a'| .inr r=>R r)
 |0,a,i,s,w,hi,u=>by
  have:i=n:=by omega
  subst this;obtain⟨t,o⟩:=l a hi;rw[mZ,u];simp only[a9,o,runN];exact Gm _ _ t
 |k+1,a,i,s,w,hi,u=>by
  obtain⟨h,j⟩:=e a i (by omega) hi;rw[mZ,u];simp only[a9,runN];generalize step a i=q at h j;cases q with
  |inl a'=>obtain⟨s',t,o⟩:=h;have x:=sn Inv l e k a' (i+1) s' (by omega) (j a' rfl) o;rw[t];exact x
  |inr r=>obtain⟨t,o⟩:=h;rw[o];exact Gm _ _ t
theorem cd{T:ae}{L:Nat}{st:β->Nat->XS}{step:β->Nat->β⊕γ}{F:β->Ex×XS}{R:γ->Ex×XS}
 (h:∀a,(F a).1≠.normal/\aO X T b (st a n)=some (F a))
 (e:∀a i,i<n->FI L live st R i (aO X T b (st a i)) (step a i)) (k:Nat) (a:β) (i:Nat) (s:XS) (j:i+k=n) (l:aJ L live s=some (st a i)):
 cj X T L live b s=some (match runN step k a i with| .inl a'=>F a'| .inr r=>R r):=
 sn (fun _ _=>True) (fun a _=>h a) (fun a i hi _=>⟨e a i hi,fun _ _=>trivial⟩) k a i s j trivial l
variable{s0:XS}
theorem fA{T:ae}{L:Nat}{s':XS}(h:aJ L live s=some s0)(a:aO X T b s0=some (.normal,s')):cj X T L live b s=cj X T L live b s':=by rw[mZ,h];simp only[a9,a];rfl
theorem eF{T:ae}{L:Nat}{q:Ex×XS}(h:aJ L live s=some s0)(a:aO X T b s0=some q)(e:q.1≠.normal):cj X T L live b s=some q:=by rw[mZ,h];simp only[a9,a];exact Gm _ _ e
end Go.Proofs.YtpcoohnjllclnaaGreat.VS
