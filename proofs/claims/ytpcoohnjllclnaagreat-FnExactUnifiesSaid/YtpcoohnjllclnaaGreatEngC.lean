/- The engine, part 5: a call of the program answers what an evaluator of values without memory answers, for the functions whose code is the one that the evaluator is given. -/
import Derived.Test.YtpcoohnjllclnaaGreatEngE
set_option linter.unusedSimpArgs false
set_option linter.unusedVariables false
namespace Go.Proofs.YtpcoohnjllclnaaGreat.VS
open Classical
variable{v':AV}{B' B:az}{k n:Nat}{rs:jt}{v:DV}{A:Ids}{sf:SFn}{lin:Nat->ae}{V:cj}{ds:aw}{X:XEnv}
section
variable {A0:Ids} {T:ae} {F:Id->Prop} {p:Id} {sx:XS} {sv:St}
structure Back(F:Id->Prop)(p:Id)(A0:Ids)(v':AV)(B':az)(r:Res):Prop where
 fit:v'.fit r.v
 boxes:qbv B' r.B
 held:Held F (fun _=>False) r.A (aU [(0,v')] B' [(0,r.v)] r.B)
 am:∀a,r.A a=true->A0 a=true\/Fut p 0 a
theorem Rel.back(h:Rel A0 T F p k sx sv){o:az}(G:qbv B' o)(q:∀j,(bD B' o j).Sublist (bD sx.B sv.B j)){u:AV}(J:v'.fit u){A':Ids}
 (w:(v'.own u).Nodup) (l:∀a,a∈v'.own u->A' a=true/\¬F a/\∀j,a∉bD B' o j) (C:∀a,sv.A a=true->A' a=true) (y:∀a,A' a=true->A0 a=true\/Fut p 0 a):
 Back F p A0 v' B' ⟨u,A',o⟩:=by
 refine⟨J,G,⟨fun ℓ=> ?_,fun ℓ ℓ' a i e=> ?_,fun ℓ a i=> ?_,fun a i=>⟨C a (h.held.fr a i).1,id⟩⟩,y⟩
 ·cases ℓ with
  |reg t=>simp only[aU,fx];split
          ·exact w
          ·simp
  |box j=>exact(h.held.nodup (.box j)).sublist (q j)
 ·cases ℓ with
  |reg t=>
   simp only[aU,fx]at i;split at i
   ·rename_i x;subst x
    cases ℓ' with
    |reg H=>
     simp only[aU,fx]at e;split at e
     ·rename_i x;subst x;rfl
     ·simp at e
    |box j=>exact absurd e ((l a i).2.2 j)
   ·simp at i
  |box j=>
   cases ℓ' with
   |reg H=>
    simp only[aU,fx]at e;split at e
    ·exact absurd i ((l a e).2.2 j)
    ·simp at e
   |box z=>have:=h.held.apart (.box j) (.box z) a ((q j).subset i) ((q z).subset e);exact this
 ·cases ℓ with
  |reg t=>
   simp only[aU,fx]at i;split at i
   ·exact⟨(l a i).1,(l a i).2.1,id⟩
   ·simp at i
  |box j=>obtain⟨I,D,_⟩:=h.held.opn (.box j) a ((q j).subset i);exact⟨C a I,D,id⟩
theorem lg(B Bv:az)(n j:Nat):(bD (B.take n) (Bv.take n) j).Sublist (bD B Bv j):=by
 simp only[bD,w8]
 by_cases a:j<n
 ·simp[a]
 ·simp[a]
theorem Rj(h:Rel A0 T F p k sx sv){r:VRes}{v:AV}(e:uK sx r=some v):∃u,oj sv r=some u/\v.fit u/\∀a,a∈v.own u->∃t,r= .tmp t/\T.contains t=true/\a∈bp sx.r sv.r t:=by
 cases r with
 |tmp t=>
  simp only[uK]at e;obtain⟨u,l,o⟩:=h.regs t v e;refine⟨u,l,o,fun a j=>⟨t,rfl,?_,?_⟩⟩
  ·cases ht:T.contains t with
   |true=>rfl
   |false=>
    have:=h.nl t ht;unfold bp at this;rw[e,l]at this;simp only at this
    rw[this]at j;simp at j
  ·unfold bp;rw[e,l];exact j
 |cell t agg sz=>
  simp only[uK]at e;split at e
  ·rename_i i off l
   obtain⟨w,o,rfl⟩:=aN.1 e;obtain⟨u,cs,ds,y,z,_⟩:=Ei h.boxes o;obtain⟨x,C,q⟩:=h.regs t _ l;simp only[AV.fit]at q;subst q
   exact⟨u,by simp only[oj,C,y],AV.qde _ _ z,fun a j=>by rw[AV.qbN]at j;simp at j⟩
  ·simp at e
theorem wA(h:Rel A0 T F p k sx sv):∀(rs:jt) (vs:aG),c6 T (rs.flatMap VRes.vx)=true->qS sx rs=some vs->∃us,qG sv rs=some us/\AV.fits vs us/\(AV.owns vs us).Nodup/\
 (∀a,a∈AV.owns vs us->∃t,VX.t t∈rs.flatMap VRes.vx/\T.contains t=true/\a∈bp sx.r sv.r t)/\(∀a,a∈AV.owns vs us->sv.A a=true/\¬F a/\∀j,a∉bD sx.B sv.B j)
 | [],vs,_,hx=>by simp[qS]at hx;subst hx;exact⟨[],rfl,by simp[AV.fits],by simp[AV.owns],by simp[AV.owns],by simp[AV.owns]⟩
 |r::rs,vs,x,hx=>by
  simp only[qS]at hx;obtain⟨v,w,K⟩:=aL.1 hx;obtain⟨z,R,rfl⟩:=aN.1 K;obtain⟨u,C,S,l⟩:=Rj h w;have y:c6 T (rs.flatMap VRes.vx)=true:=by
   cases r with
   |tmp t=>exact(qV (by simpa[VRes.vx]using x)).2
   |cell t a s=>simpa[VRes.vx]using x
  obtain⟨us,O,P,M,H,J⟩:=wA h rs z y R;refine⟨u::us,by simp[qG,C,O],by simp only[AV.fits];exact⟨_,_,rfl,S,P⟩,?_,fun a e=> ?_,fun a e=> ?_⟩
  ·simp only[AV.owns]
   rw[cJ];refine⟨?_,M,fun a e b N I=> ?_⟩
   ·cases r with
    |tmp t=>
     have:=h.held.nodup (.reg t);simp only[aU,bp]at this;simp only[uK]at w;simp only[oj]at C
     rw[w,C]at this;exact this
    |cell t ag s=>
     have:v.own u=[]:=List.eq_nil_iff_forall_not_mem.2 fun a e=>by obtain⟨G,i,_⟩:=l a e;simp at i
     rw[this];simp
   ·subst I
    obtain⟨t,rfl,o,i⟩:=l a e;obtain⟨G,D,Z,q⟩:=H a N;have:=h.held.apart (.reg t) (.reg G) a i q;simp at this;subst this
    exact(qV (by simpa[VRes.vx]using x)).1 t rfl o D
  ·simp only[AV.owns,bw]at e
   rcases e with e|e
   ·obtain⟨t,rfl,o,i⟩:=l a e
    exact⟨t,by simp[VRes.vx],o,i⟩
   ·obtain⟨t,D,q⟩:=H a e
    exact⟨t,by simp only[mC,bw];exact .inr D,q⟩
  ·simp only[AV.owns,bw]at e
   rcases e with e|e
   ·obtain⟨t,rfl,o,i⟩:=l a e
    obtain⟨q1,Q,q3⟩:=h.held.opn (.reg t) a i;exact⟨q1,Q,fun j Y=>by have:=h.held.apart (.reg t) (.box j) a i Y;simp at this⟩
   ·exact J a e
theorem SJ(h:Rel A0 T F p sv.c sx sv){L:Nat}(S:c6 T (rs.flatMap VRes.vx)=true)(hx:Cn L sx rs=some (v',B')):
 ∃r,finish L p sv rs=some r/\Back F p A0 v' B' r:=by
 have D:∀a,sv.A a=true->A0 a=true\/Fut p 0 a:=fun a e=>(h.am a e).2
 have many:∀vs ds,qS sx rs=some vs->bd vs=some ds->∃us es,qG sv rs=some us/\AV.fits vs us/\bd us=some es/\us=es.map .d/\Back F p A0 (.d (.tup ds)) (sx.B.take L) ⟨.d (.tup es),sv.A,sv.B.take L⟩:=by
  intro vs ds z O;obtain⟨us,t,o,q,M,C⟩:=wA h rs vs S z;obtain⟨es,K,e2,e3⟩:=p9 O o;have x2:us=es.map .d:=by
   clear t o q M C e2 e3
   induction us generalizing es with
   |nil=>simp[bd]at K;subst K;rfl
   |cons u us ih=>
    cases u with
    |d d=>simp only[bd]at K;obtain⟨x1,G,rfl⟩:=aN.1 K;rw[ih x1 G];rfl
    |_=>simp[bd]at K
  refine⟨us,es,t,o,K,x2,h.back (h.boxes.take L) (lg _ _ L) (by simp only[AV.fit,DV.fit];exact⟨_,rfl,_,rfl,e2⟩) (by simp only[AV.own,DV.own];rw[<-e3];exact q) (fun a e=> ?_) (fun a e=>e) D⟩;simp only[AV.own,DV.own]at e;rw[<-e3]at e;obtain⟨J,Q,R⟩:=C a e;exact⟨J,Q,fun j w=>R j ((lg _ _ L j).subset w)⟩
 unfold Cn at hx;split at hx
 ·rename_i v z
  simp at hx;obtain⟨rfl,rfl⟩:=hx
  obtain⟨us,t,o,q,M,C⟩:=wA h rs _ S z;simp only[AV.fits]at o;obtain⟨u,_,rfl,l,rfl⟩:=o;simp only[AV.fit]at l;obtain⟨y,rfl,Y⟩:=l;simp only[AV.owns,cS]at q C;refine⟨_,by unfold finish;rw[t],h.back (h.boxes.take L) (lg _ _ L) (by simp only[AV.fit];exact⟨_,rfl,Y⟩) q (fun a e=> ?_) (fun a e=>e) D⟩;obtain⟨J,Q,R⟩:=C a e;exact⟨J,Q,fun j w=>R j ((lg _ _ L j).subset w)⟩
 ·rename_i i off z
  simp at hx;obtain⟨rfl,rfl⟩:=hx
  obtain⟨us,t,o,q,M,C⟩:=wA h rs _ S z;simp only[AV.fits]at o;obtain⟨u,_,rfl,l,rfl⟩:=o;simp only[AV.fit]at l;subst l;exact⟨_,by unfold finish;rw[t],h.back h.boxes (fun j=>ct _) (by simp[AV.fit]) (by simp[AV.own]) (by simp[AV.own]) (fun a e=>e) D⟩
 ·rename_i id agg i sz n z
  split at hx
  ·rename_i hc
   obtain⟨cs,O,G⟩:=aL.1 hx;obtain⟨bs,h4,h5⟩:=aL.1 O;split at G
   ·rename_i N
    obtain⟨xs,h6,h7⟩:=aN.1 G;simp at h7;obtain⟨rfl,rfl⟩:=h7
    obtain⟨us,t,o,q,M,C⟩:=wA h rs _ S z;simp only[AV.fits]at o;obtain⟨u,_,rfl,l,rfl⟩:=o;simp only[AV.fit]at l;obtain⟨a1,rfl⟩:=l;obtain⟨ds,J,Q⟩:=h.boxes.get h4;obtain⟨es,R,q4,q5⟩:=p9 h5 Q;obtain⟨ys,q6,q7,q8,q9,x3⟩:=HX agg sz n cs es xs q4 h6;have P:bD sx.B sv.B i=DV.owns cs es:=by unfold bD;rw[h4,J];exact q5
    have I:∀a,a∈DV.owns xs ys->a∈aU sx.r sx.B sv.r sv.B (.box i):=fun a e=>by simp only[aU];rw[P];exact q9.subset e
    have H:¬sv.A (sv.c::p)=true:=fun e=>(h.am _ e).1 (Fut.self p _)
    refine⟨⟨.d (.sl (.own (sv.c::p) sz) ys),Ids.add (sv.c::p) sv.A,sv.B.take L⟩,?_,?_⟩
    ·unfold finish
     rw[t];simp only;rw[ay hc,J];simp only[bO,R];rw[ay (by rw[<-DV.qao q4];exact N),q6];rfl
    ·refine h.back (h.boxes.take L) (lg _ _ L) ?_ ?_ (fun a e=> ?_) (fun a e=>by simp[Ids.add,e]) (fun a e=> ?_)
     ·simp only[AV.fit,DV.fit]
      refine⟨_,rfl,_,_,rfl,q7,.inr ⟨rfl,?_⟩⟩
      by_cases hn:xs.length=0
      ·exact .inl ⟨hn,.inr ⟨_,_,rfl⟩⟩
      ·exact .inr ⟨hn,_,_,rfl,q8⟩
     ·simp only[AV.own,DV.own]
      rw[cJ];refine⟨by split<;>simp[Tag.ids],((h.held.nodup (.box i)).sublist (by simp only[aU];rw[P];exact q9)),fun a e b hb he=> ?_⟩;split at e<;>simp[Tag.ids]at e
      subst e;subst he
      exact H (h.held.opn _ _ (I _ hb)).1
     ·simp only[AV.own,DV.own,bw]at e
      rcases e with e|e
      ·split at e<;>simp[Tag.ids]at e
       subst e;refine⟨by simp[Ids.add],fun hF=>H (h.held.fr _ hF).1,fun j w=> ?_⟩;exact H (h.held.opn (.box j) _ ((lg _ _ L j).subset w)).1
      ·obtain⟨z1,z2,_⟩:=h.held.opn _ a (I a e)
       refine⟨by simp[Ids.add,z1],z2,fun j w=> ?_⟩;have:=h.held.apart (.box i) (.box j) a (I a e) ((lg _ _ L j).subset w);simp at this;subst this
       simp only[bD,w8]at w;rw[aC (by omega)]at w;simp at w
     ·simp only[Ids.add,jr,cB]at e
      rcases e with rfl|e
      ·exact .inr ((Fut.self p _).le (c8 _))
      ·exact D a e
   ·simp at G
  ·simp at hx
 ·simp at hx
 ·rename_i vs a2 b1 a3 Z z
  obtain⟨ds,O,G⟩:=aN.1 hx;simp at G;obtain⟨rfl,rfl⟩:=G
  obtain⟨us,es,t,o,q,M,C⟩:=many vs ds z O;refine⟨_,?_,C⟩;unfold finish;rw[t]
  match us,o with
  | [],_=>simp at M;simp[bd]at q;subst q;rfl
  | [u],o=>
   have hl:=AV.qao o
   match vs,hl with
   | [x],_=>exact absurd rfl (Z x)
  |u::u'::us,_=>simp only[q,b9]
 ·simp at hx
theorem FD(h:Rel A0 T F p sv.c sx sv){L:Nat}(hd:c6 T (rs.flatMap VRes.vx)=true)(hx:f8 L sx rs=some (v',B')):
 ∃r,finish L p sv rs=some r/\Back F p A0 v' B' r:=by
 unfold f8 at hx;split at hx
 ·rename_i t agg sz
  unfold G0 at hx;split at hx
  ·rename_i i off h1
   split at hx
   ·rename_i hL
    split at hx
    ·rename_i v h2
     simp at hx;obtain⟨rfl,rfl⟩:=hx
     obtain⟨u,cs,ds,h3,N,S,h6,I,Z,h9⟩:=Ei h.boxes h2;obtain⟨x,g1,M⟩:=h.regs t _ h1;simp only[AV.fit]at M;subst M
     have o:=N;simp only[AV.fit]at o;obtain⟨y,rfl,hy⟩:=o;have C:bD sx.B sv.B i=AV.owns cs ds:=by unfold bD;rw[S,h6]
     have l:((AV.d v).own (.d y)).Sublist (AV.owns cs ds):=by rw[Z,AV.qb1 (AV.qao I) off];refine List.Sublist.trans ?_ (j6 _ _);rw[AV.qb1 (a:=cs.drop off) (c:=ds.drop off) (by simp[AV.qao I]) (if agg=true then sz else 1)];exact GJ _ _
     refine⟨_,by unfold finish;simp only[qG,oj,g1,h3,bO,b9],h.back (h.boxes.take L) (lg _ _ L) N ((h.held.nodup (.box i)).sublist (by simp only[aU];rw[C];exact l)) (fun a e=> ?_) (fun a e=>e) (fun a e=>(h.am a e).2)⟩;have w:a∈aU sx.r sx.B sv.r sv.B (.box i):=by simp only[aU];rw[C];exact l.subset e
     obtain⟨H,J,_⟩:=h.held.opn _ a w;refine⟨H,J,fun j D=> ?_⟩;have:=h.held.apart (.box i) (.box j) a w ((lg _ _ L j).subset D);simp at this;subst this
     simp only[bD,w8]at D;rw[aC (by omega)]at D;simp at D
    ·simp at hx
   ·simp at hx
  ·simp at hx
 ·rename_i t1 g1 z1 t2 M z2 t3
  unfold HK at hx;split at hx
  ·rename_i K o1 O o2 b e1 e2 e3
   split at hx
   ·rename_i hL
    obtain⟨x1,P,x3⟩:=hL;split at hx
    ·rename_i v1 v2 l1 l2
     simp at hx;obtain⟨rfl,rfl⟩:=hx
     have one:∀(t i off:Nat) (g:Bool) (z:Nat) (v:DV),lk sx.r t=some (.ptr i off)->aW sx.B g z i off=some (.d v)->∃y,oj sv (.cell t g z)=some (.d y)/\v.fit y/\(v.own y).Sublist (bD sx.B sv.B i):=by
      intro t i off g z v H J;obtain⟨u,cs,ds,h3,N,S,h6,I,Z,h9⟩:=Ei h.boxes J;obtain⟨x,r1,r2⟩:=h.regs t _ H;simp only[AV.fit]at r2;subst r2
      have o:=N;simp only[AV.fit]at o;obtain⟨y,rfl,hy⟩:=o;have C:bD sx.B sv.B i=AV.owns cs ds:=by unfold bD;rw[S,h6]
      have l:((AV.d v).own (.d y)).Sublist (AV.owns cs ds):=by rw[Z,AV.qb1 (AV.qao I) off];refine List.Sublist.trans ?_ (j6 _ _);rw[AV.qb1 (a:=cs.drop off) (c:=ds.drop off) (by simp[AV.qao I]) (if g=true then z else 1)];exact GJ _ _
      exact⟨y,by simp only[oj,r1,h3],hy,by rw[C];exact l⟩
     obtain⟨y1,a1,a2,Q⟩:=one t1 K o1 g1 z1 v1 e1 l1;obtain⟨y2,b1,b2,b3⟩:=one t2 O o2 M z2 v2 e2 l2;obtain⟨x,c1,c2⟩:=h.regs t3 _ e3;simp only[AV.fit]at c2;obtain⟨y3,rfl,c3⟩:=c2;have Y:y3= .bool b:=by simpa only[DV.fit]using c3
     subst Y;have G:DV.owns [v1,v2,.bool b] [y1,y2,.bool b]=v1.own y1++(v2.own y2++[]):=by simp only[DV.owns,DV.own,cS]
     have good:∀i a,L<=i->a∈bD sx.B sv.B i->sv.A a=true/\¬F a/\∀j,a∉bD (sx.B.take L) (sv.B.take L) j:=fun i a hi e=>by
      have w:a∈aU sx.r sx.B sv.r sv.B (.box i):=e;obtain⟨H,J,_⟩:=h.held.opn _ a w;refine⟨H,J,fun j D=> ?_⟩;have:=h.held.apart (.box i) (.box j) a w ((lg _ _ L j).subset D);simp at this;subst this
      simp only[bD,w8]at D;rw[aC (by omega)]at D;simp at D
     have x2:oj sv (.tmp t3)=some (au b):=c1;refine⟨⟨.d (.tup [y1,y2,.bool b]),sv.A,sv.B.take L⟩,by unfold finish;simp only[qG,a1,b1,x2,bO,b9,bd],h.back (h.boxes.take L) (lg _ _ L) ?_ ?_ (fun a e=> ?_) (fun a e=>e) (fun a e=>(h.am a e).2)⟩
     ·simp only[AV.fit,DV.fit,DV.fits]
      exact⟨_,rfl,_,rfl,_,_,rfl,a2,_,_,rfl,b2,_,_,rfl,rfl,rfl⟩
     ·simp only[AV.own,DV.own,G,cS]
      rw[cJ];refine⟨(h.held.nodup (.box K)).sublist Q,(h.held.nodup (.box O)).sublist b3,fun q hq q' R he=> ?_⟩;subst he;have:=h.held.apart (.box K) (.box O) q (Q.subset hq) (b3.subset R);simp at this;exact x3 this
     ·simp only[AV.own,DV.own,G,cS,bw]at e
      rcases e with e|e
      ·exact good K a x1 (Q.subset e)
      ·exact good O a P (b3.subset e)
    ·simp at hx
   ·simp at hx
  ·simp at hx
 ·exact SJ h hd hx
theorem yd{x:DV}(h:x.fit v):v.flat=x.flat:=by
 cases x<;>simp only[DV.fit]at h
 case agg cs=>obtain⟨ds,rfl,a⟩:=h;rfl
 case sl g xs=>
  obtain⟨g',j,rfl,a,i⟩:=h;cases xs with
  |nil=>simp only[DV.fits]at a;subst a;rfl
  |cons x r=>simp only[DV.fits]at a;obtain⟨y,e,rfl,_,_⟩:=a;rfl
 case tup cs=>obtain⟨ds,rfl,a⟩:=h;rfl
 all_goals subst h;rfl
theorem YK{sx:XS}{sv:St}(h:Rel A0 T F p k sx sv){y:DV×DV}(hy:rY sx=some y):
 ∃a,GB sv=some a/\y.1.fit a.1/\y.2.fit a.2/\y.1.own a.1=[]/\y.2.own a.2=[]:=by
 unfold rY at hy;split at hy
 ·rename_i x0 x1 Z z0 S R J P e3
  split at hy
  ·rename_i hc
   simp only[ca]at hy;subst hy
   obtain⟨v3,K,t⟩:=h.regs 3 _ J;obtain⟨v4,D,w⟩:=h.regs 4 _ P;simp only[AV.fit]at t w;subst t;subst w
   have e:=h.boxes;rw[e3]at e;obtain⟨Y,i,x⟩:=(e.2 0).2 _ rfl;obtain⟨c1,l,o⟩:=(e.2 1).2 _ rfl;simp only[AV.fits,AV.fit]at x o;obtain⟨_,_,rfl,⟨u,rfl,j⟩,_,_,rfl,⟨q,rfl,f1⟩,O,_,rfl,_,rfl⟩:=x;obtain⟨_,_,rfl,⟨H,rfl,z⟩,_,_,rfl,⟨Q,rfl,I⟩,_,_,rfl,⟨N,rfl,M⟩,rfl⟩:=o;have G:sv.B=[some [.d u,.d q,O],some [.d H,.d Q,.d N]]:=by
    have C:=e.1
    match hs:sv.B,C with
    | [m,n],_=>rw[hs]at i l;simp at i l;subst i;subst l;rfl
   refine⟨(u,q),?_,DV.qde _ _ j,DV.qde _ _ f1,DV.qbN _ _,DV.qbN _ _⟩;unfold GB;rw[K,D,G];simp only;rw[yd j,yd f1,yd z,yd I,yd M,DV.qeQ j,DV.qeQ f1,ay hc]
  ·simp at hy
 ·simp at hy
theorem O6:∀{xs vs:aw},DV.fits xs vs->DV.fits (xs.flatMap DV.cells) (vs.flatMap DV.cells)/\DV.owns (xs.flatMap DV.cells) (vs.flatMap DV.cells)=DV.owns xs vs
 | [],vs,h=>by simp only[DV.fits]at h;subst h;simp[DV.fits,DV.owns]
 |x::xs,vs,h=>by simp only[DV.fits]at h;obtain⟨v,vs,rfl,a,i⟩:=h;obtain⟨j,e⟩:=O6 i;simp only[mC];exact⟨DV.qa6 (DV.qbe a) j,by rw[DV.qa0 (DV.qao (DV.qbe a)),DV.qdJ a,e];simp only[DV.owns]⟩
theorem Xc{X:cf}(Q:jj X V lin){a:Id}{sz:Nat}{x y:DV}{xr w:aw}{q:Id}
 (Z:x.fit y) (h2:DV.fits xr w) (S:∀b,b∈a::DV.owns (x::xr) (y::w)->A b=true/\¬Fut q 0 b) (D:(a::DV.owns (x::xr) (y::w)).Nodup)
 (x2:∀e:DV,e∈y::w->e.cells.length=sz) {r:aw} (hx:ji X sf x xr=some r):
 ∃G K,sd V q sf A a y w=some (G,Ids.add a K)/\DV.fits r G/\r.length=xr.length+1/\(∀e:DV,e∈G->e.cells.length=sz)/\(a::DV.owns r G).Nodup/\(∀b,b∈DV.owns r G->K b=true)/\(∀b,K b=true->b∈DV.owns (x::xr) (y::w)\/Fut q 0 b):=by
 unfold ji at hx;split at hx
 ·rename_i hu
  have hf:DV.fits (x::xr) (y::w):=by simp only[DV.fits];exact⟨_,_,rfl,Z,h2⟩
  obtain⟨l,a1,z⟩:=DN _ _ hf hu;obtain⟨c1,c2⟩:=O6 hf;rw[B8]at D;split at hx
  ·rename_i v cs I
   obtain⟨es,d1,hx⟩:=aL.1 hx;split at hx
   ·rename_i M
    have x3:AV.fits [AV.tsl true 0 x.cells.length (xr.length+1),.fn sf.cmp []] [AV.tsl true 0 y.cells.length (w.length+1),.fn sf.cmp []]:=by simp only[AV.fits,AV.fit];rw[DV.qbG Z,<-DV.qao h2];exact⟨_,_,rfl,rfl,_,_,rfl,⟨_,rfl,rfl,by simp[AV.owns]⟩,rfl⟩
    have J:∀j,bp (bn 0 [AV.tsl true 0 x.cells.length (xr.length+1),.fn sf.cmp []]) (bn 0 [AV.tsl true 0 y.cells.length (w.length+1),.fn sf.cmp []]) j=[]:=by
     intro j;rw[r8]
     match j with
     |0=>simp[AV.own]
     |1=>simp[AV.own]
     |j+2=>simp
    have R:∀j,bD [some (((x::xr).flatMap DV.cells).map AV.d)] [some (((y::w).flatMap DV.cells).map AV.d)] j=if j=0 then DV.owns (x::xr) (y::w)else []:=by
     intro j;unfold bD b5
     match j with
     |0=>simp only[pz,if_true];show AV.owns _ _=_;rw[AV.qqD,c2]
     |j+1=>simp
    have C:∀ℓ b,b∈aU (bn 0 [AV.tsl true 0 x.cells.length (xr.length+1),.fn sf.cmp []]) [some (((x::xr).flatMap DV.cells).map AV.d)] (bn 0 [AV.tsl true 0 y.cells.length (w.length+1),.fn sf.cmp []]) [some (((y::w).flatMap DV.cells).map AV.d)] ℓ->ℓ= .box 0/\b∈DV.owns (x::xr) (y::w):=by
     intro ℓ b o;cases ℓ with
     |reg t=>simp only[aU,J]at o;simp at o
     |box j=>
      simp only[aU,R]at o;split at o
      ·rename_i hj;subst hj;exact⟨rfl,o⟩
      ·simp at o
    obtain⟨u,Y,K,hV,_,O,hh,x1⟩:=Q _ _ _ _ _ I q _ [some (((y::w).flatMap DV.cells).map AV.d)] (fun b=>l.contains b) (fun _=>False) x3
     ⟨rfl,fun i=>by
      match i with
      |0=>exact⟨by simp,fun cs hc=>by simp at hc;subst hc;exact⟨_,rfl,by have:=AV.qqE c1;simpa using this⟩⟩
      |i+1=>exact⟨by simp,fun cs hc=>by simp at hc⟩⟩
     ⟨fun ℓ=>by
      cases ℓ with
      |reg t=>simp only[aU,J];simp
      |box j=>simp only[aU,R];split
              ·exact D.2
              ·simp,
      fun ℓ ℓ' b o h4=>by rw[(C ℓ b o).1,(C ℓ' b h4).1],
      fun ℓ b o=>⟨by simpa using z.mem_iff.2 (C ℓ b o).2,id,(S b (jn _ (C ℓ b o).2)).2⟩,fun b o=>by simp at o⟩
     (fun j _=>J j) (fun b o=>by
      have:b∈l:=by simpa using o
      exact(S b (jn _ (z.mem_iff.1 this))).2)
    obtain⟨ds,e1,e2⟩:=(O.2 0).2 cs rfl;have h5:Y=[some ds]:=by
     have hl:=O.1
     match Y,hl with
     | [m],_=>simp at e1;subst e1;rfl
    subst h5;obtain⟨a2,d2,d3,d4⟩:=p9 d1 e2;obtain⟨G,k1,k2,k3,k4,k5⟩:=HX _ _ _ _ _ _ d3 hx;have H:∀b,b∈DV.owns r G->K b=true:=fun b o=>(hh.opn (.box 0) b (by simp only[aU,bD,b5];simp only[pz];show b∈AV.owns _ _;rw[d4];exact k4.subset o)).1
    have P:(DV.owns r G).Nodup:=by have:=hh.nodup (.box 0);simp only[aU,bD,b5,pz]at this;have h':(AV.owns cs ds).Nodup:=this;rw[d4]at h';exact h'.sublist k4
    have N:∀b,K b=true->b∈DV.owns (x::xr) (y::w)\/Fut q 0 b:=fun b o=>(x1 b o).imp_left fun h=>z.mem_iff.1 (by simpa using h)
    refine⟨G,K,?_,k2,k5,fun e he=>by rw[k3 e he,<-DV.qbG Z];exact x2 y (by simp),?_,H,N⟩
    ·unfold sd
     rw[a1,bO,ay ⟨(S a (by simp)).1,cm.2 fun b o=>(S b (jn _ (z.mem_iff.1 o))).1,by
      have:¬a∈l:=fun hm=>D.1 (z.mem_iff.1 hm)
      simpa using this⟩,hV]
     simp only[d2,bO];rw[DV.qbG Z,<-DV.qao h2,ay (by rw[<-DV.qao d3];exact M),k1];rfl
    ·rw[B8]
     refine⟨fun hm=> ?_,P⟩;rcases N a (H a hm)with h3|h3
     ·exact D.1 h3
     ·exact(S a (by simp)).2 h3
   ·simp at hx
  ·simp at hx
 ·simp at hx
theorem qLE{X:cf}(D:jj X V lin){T:ae}{p:Id}{es:aw}(hf:DV.fits ds es)
 (O:sf.pre.linOK T=true) (P:sf.rest.linOK T=true) (Q:c6 T (sf.results.flatMap VRes.vx)=true)
 (hz:∀j,bp (bn 0 (ds.map .d)) (bn 0 (es.map .d)) j=[])(hx:jE X lin T n sf ds=some v):
 ∃u i,p8 V n p sf es=some (u,i)/\v.fit u/\(v.own u).Nodup/\(∀a,a∈v.own u->i a=true)/\∀a,i a=true->Fut p 0 a:=by
 unfold jE at hx;split at hx
 ·simp at hx
 rename_i x2;have x1:=AV.qqE hf;have G:∀ℓ,aU (bn 0 (ds.map AV.d)) [] (bn 0 (es.map AV.d)) [] ℓ=[]:=by
  intro ℓ;cases ℓ with
  |reg t=>exact hz t
  |box j=>simp[aU,bD,b5]
 have h0:Rel Ids.none T (fun _=>False) p (⟨bn 0 (es.map .d),[],Ids.none,0⟩:St).c ⟨bn 0 (ds.map .d),[]⟩ ⟨bn 0 (es.map .d),[],Ids.none,0⟩:=by
  refine⟨fun t x R=> ?_,⟨rfl,by simp⟩,⟨fun ℓ=>by rw[G];simp,fun ℓ ℓ' a o=>by rw[G]at o;simp at o,fun ℓ a o=>by rw[G]at o;simp at o,fun a o=>by simp at o⟩,fun j _=>hz j,fun t R=> ?_,fun a o=>by simp[Ids.none]at o⟩
  ·simp only[nV]at R⊢
   simp only[c8,if_true,qa]at R⊢
   exact AV.qb2 x1 R
  ·simp only[nV]at R⊢
   simp only[c8,if_true,qa]at R⊢
   rw[AR]at R⊢
   have:=AV.qao x1;omega
 obtain⟨⟨e,s1⟩,h1,Y⟩:=aL.1 hx;obtain⟨v1,h3,C⟩:=Ar D n sf.pre O _ _ _ _ h0 h1;have N:¬es.length≠sf.np:=by rw[<-DV.qao hf];exact x2
 have z:∀{e:Ex},(e= .normal)->((bP X lin T n sf.rest s1).bind fun I=>match I.1 with
  | .exit _=>none
  |_=>(f8 0 I.2 sf.results).bind fun q=>match q.1 with
   | .d v=>some v
   |_=>none)=some v->∃u i,((cV V p n sf.rest v1).bind fun I=>match I.1 with
  | .exit _=>none
  |_=>(finish 0 p I.2 sf.results).bind fun q=>match q.v with
   | .d v=>some (v,q.A)
   |_=>none)=some (u,i)/\v.fit u/\(v.own u).Nodup/\(∀a,a∈v.own u->i a=true)/\∀a,i a=true->Fut p 0 a:=by
  intro _ _ hr;obtain⟨⟨S,s2⟩,r1,I⟩:=aL.1 hr;obtain⟨v2,r3,r4⟩:=Ar D n sf.rest P _ _ _ _ C r1;have key:((f8 0 s2 sf.results).bind fun q=>match q.1 with
   | .d v=>some v
   |_=>none)=some v->∃u i,((finish 0 p v2 sf.results).bind fun q=>match q.v with
   | .d v=>some (v,q.A)
   |_=>none)=some (u,i)/\v.fit u/\(v.own u).Nodup/\(∀a,a∈v.own u->i a=true)/\∀a,i a=true->Fut p 0 a:=by
   intro hk;obtain⟨⟨w,B'⟩,k1,K⟩:=aL.1 hk;obtain⟨⟨w',Aw,Bw⟩,k3,k4⟩:=FD r4 Q k1;split at K
   ·rename_i d hd
    simp only at hd;subst hd
    simp only[ca]at K;subst K
    have k5:=k4.fit;simp only[AV.fit]at k5;obtain⟨u,rfl,k6⟩:=k5;refine⟨u,Aw,by rw[k3];rfl,k6,?_,fun a o=> ?_,fun a o=> ?_⟩
    ·have:=k4.held.nodup (.reg 0)
     simp only[aU,fx]at this;simpa[AV.own]using this
    ·exact(k4.held.opn (.reg 0) a (by simp only[aU,fx];simpa[AV.own]using o)).1
    ·rcases k4.am a o with h|h
     ·simp[Ids.none]at h
     ·exact h
   ·simp at K
  rw[r3,bO];cases S with
  |exit id=>simp at I
  |normal=>exact key I
  |ret=>exact key I
 unfold p8;rw[aC N,h3,bO];simp only at Y⊢
 split at Y
 ·rename_i x xr e1 S
  obtain⟨vb,g1,J⟩:=C.regs _ _ e1;simp only[AV.fit,DV.fit]at J;obtain⟨_,rfl,rfl⟩:=J;obtain⟨vr,g3,Z⟩:=C.regs _ _ S;have x3:=Z;simp only[AV.fit,DV.fit]at Z;obtain⟨_,rfl,g',ys,rfl,g5,M⟩:=Z;rcases M with M|⟨_,M⟩
  ·exact absurd M (by decide)
  rcases M with⟨M,_⟩|⟨_,a,sz,rfl,g7⟩
  ·simp at M
  have a1:=g5;simp only[DV.fits]at g5;obtain⟨y,yr,rfl,f1,f2⟩:=g5;obtain⟨w,m1,m2⟩:=aL.1 Y;obtain⟨q,m3,m4⟩:=aN.1 m2;subst m4;obtain⟨w',n1,n2,n3,n4,n5⟩:=YK C m1;have H:∀b,b∈a::DV.owns (x::xr) (y::yr)->b∈aU s1.r s1.B v1.r v1.B (.reg sf.row):=by intro b l;simp only[aU,bp,S,g3,AV.own,DV.own];rw[ay ⟨rfl,by simp⟩];simpa[Tag.ids]using l
  have h5:(a::DV.owns (x::xr) (y::yr)).Nodup:=by have:=C.held.nodup (.reg sf.row);simp only[aU,bp,S,g3,AV.own,DV.own]at this;rw[ay ⟨rfl,by simp⟩]at this;simpa[Tag.ids]using this
  obtain⟨r',i,s3,s4,s5,s6,s7,s8,s9⟩:=Xc D (A:=v1.A) (a:=a) (sz:=sz) (q:=(v1.c+1)::p) f1 f2 (fun b l=>by obtain⟨t1,_,t3⟩:=C.held.opn _ b (H b l);exact⟨t1,fun hF=>t3 (hF.sub.le (b7 _))⟩) h5 g7 m3
  simp only[g1,g3];refine⟨.agg [w'.1,w'.2,.sl (.own a sz) r'],Ids.add a i,by rw[n1,bO,s3];rfl,?_,?_,fun b l=> ?_,fun b l=> ?_⟩
  ·simp only[DV.fit,DV.fits]
   exact⟨_,rfl,_,_,rfl,n2,_,_,rfl,n3,_,_,rfl,⟨_,_,rfl,s4,.inr ⟨rfl,.inr ⟨by omega,_,_,rfl,s6⟩⟩⟩,rfl⟩
  ·simp only[DV.own,DV.owns,n4,n5]
   rw[ay ⟨trivial,by omega⟩];simpa[Tag.ids]using s7
  ·simp only[DV.own,DV.owns,n4,n5]at l
   rw[ay ⟨trivial,by omega⟩]at l;simp only[Ids.add,jr,cB];simp[Tag.ids]at l;rcases l with rfl|l
   ·exact .inl rfl
   ·exact .inr (s8 b l)
  ·have old:∀b,b∈a::DV.owns (x::xr) (y::yr)->Fut p 0 b:=fun b l=>by
    rcases(C.am b (C.held.opn _ b (H b l)).1).2 with h|h
    ·simp[Ids.none]at h
    ·exact h
   simp only[Ids.add,jr,cB]at l;rcases l with rfl|l
   ·exact old b (by simp)
   ·rcases s9 b l with h|h
    ·exact old b (jn _ h)
    ·exact h.sub.le (c8 _)
 ·rename_i e1
  obtain⟨vb,g1,J⟩:=C.regs _ _ e1;simp only[AV.fit,DV.fit]at J;obtain⟨_,rfl,rfl⟩:=J;obtain⟨u,i,k1,K⟩:=z (e:= .normal) rfl Y;exact⟨u,i,by simp only[g1];exact k1,K⟩
 ·rename_i g e1 S
  obtain⟨vb,g1,J⟩:=C.regs _ _ e1;simp only[AV.fit,DV.fit]at J;obtain⟨_,rfl,rfl⟩:=J;obtain⟨vr,g3,Z⟩:=C.regs _ _ S;simp only[AV.fit,DV.fit,DV.fits]at Z;obtain⟨_,rfl,g',ys,rfl,rfl,M⟩:=Z;obtain⟨u,i,k1,K⟩:=z (e:= .normal) rfl Y;exact⟨u,i,by simp only[g1,g3];exact k1,K⟩
 ·simp at Y
def qT(g:aw->cP)(gv:Id->aG->r9):Prop:=∀ds v,g ds=some v->∀es p,DV.fits ds es->∃u e,gv p (es.map .d)=some (u,e)/\v.fit u/\(v.own u).Nodup/\(∀a,a∈v.own u->e a=true)/\∀a,e a=true->Fut p 0 a
structure XOK(X:XEnv):Prop where
 code:∀f vf,X.env.code f=some vf->vf.linOK (X.lin f)=true
 nat:∀f g,X.nat f=some g->∃gv,X.env.nat f=some gv/\qT g gv/\X.lin f=[]
 no:∀f,X.nat f=none->X.env.nat f=none
 spec:∀f sf,X.env.spec f=some sf->sf.pre.linOK (X.lin f)=true/\sf.rest.linOK (X.lin f)=true/\c6 (X.lin f) (sf.results.flatMap VRes.vx)=true/\(X.lin f).all (fun j=>decide (sf.np<=j))=true
theorem GZ:∀{cs:aG} {ds:aw},bd cs=some ds->cs=ds.map .d
 | [],ds,h=>by simp[bd]at h;subst h;rfl
 |v::cs,ds,h=>by
  cases v with
  |d d=>simp only[bd]at h;obtain⟨es,a,rfl⟩:=aN.1 h;rw[GZ a];rfl
  |_=>simp[bd]at h
theorem KT{xs vs:aG}{Bv:az}{o:Ids}{F:Id->Prop}{p:Id}{u:DV}{R:Option Res}(l:Held F (Fut p 0) A (aU (bn 0 xs) B (bn 0 vs) Bv))(J:qbv B Bv)
 (K:v.fit u) (I:(v.own u).Nodup) (z:∀a,a∈v.own u->o a=true) (x:∀a,o a=true->Fut p 0 a) (N:R=some ⟨.d u,Ids.or o A,Bv⟩):
 ∃w i A',R=some ⟨w,A',i⟩/\(AV.d v).fit w/\qbv B i/\Held F (fun _=>False) A' (aU [(0,.d v)] B [(0,w)] i)/\∀a,A' a=true->A a=true\/Fut p 0 a:=by
 refine⟨.d u,Bv,Ids.or o A,N,by simp only[AV.fit];exact⟨_,rfl,K⟩,J,⟨fun ℓ=> ?_,fun ℓ ℓ' a e h=> ?_,fun ℓ a e=> ?_,fun a e=>⟨by simp[Ids.or,(l.fr a e).1],id⟩⟩,fun a e=> ?_⟩
 ·cases ℓ with
  |reg t=>simp only[aU,fx];split
          ·exact I
          ·simp
  |box j=>exact l.nodup (.box j)
 ·have key:∀a j,a∈v.own u->a∉bD B Bv j:=fun a j q D=>(l.opn (.box j) a D).2.2 (x a (z a q))
  cases ℓ with
  |reg t=>
   simp only[aU,fx]at e;split at e
   ·rename_i y;subst y
    cases ℓ' with
    |reg H=>
     simp only[aU,fx]at h;split at h
     ·rename_i y;subst y;rfl
     ·simp at h
    |box j=>exact absurd h (key a j e)
   ·simp at e
  |box j=>
   cases ℓ' with
   |reg H=>
    simp only[aU,fx]at h;split at h
    ·exact absurd e (key a j h)
    ·simp at h
   |box G=>exact l.apart (.box j) (.box G) a e h
 ·cases ℓ with
  |reg t=>
   simp only[aU,fx]at e;split at e
   ·have q:=z a e
    exact⟨by simp[Ids.or,q],fun C=>(l.fr a C).2 (x a q),id⟩
   ·simp at e
  |box j=>obtain⟨O,M,_⟩:=l.opn (.box j) a e;exact⟨by simp[Ids.or,O],M,id⟩
 ·simp only[Ids.or,jr]at e
  rcases e with e|e
  ·exact .inr (x a e)
  ·exact .inl e
theorem Mm(hX:XOK X):∀n,jj (ci X n) (dY X.env n) X.lin:=by
 intro n
 induction n with
 |zero=>intro f xs B v' B' h;simp[ci]at h
 |succ n ih=>
  intro f xs B v' B' hx p vs Bv A F Y M hh hl c1;simp only[ci]at hx;split at hx
  ·rename_i g hg
   obtain⟨gv,h1,P,N⟩:=hX.nat f g hg;obtain⟨ds,C,O⟩:=aL.1 hx;obtain⟨v,H,y⟩:=aN.1 O;simp at y;obtain⟨rfl,rfl⟩:=y
   obtain⟨es,Q,e2,e3⟩:=p9 C Y;have Z:vs=es.map .d:=by
    clear hx Y hh hl e2 e3 C
    induction vs generalizing es with
    |nil=>simp[bd]at Q;subst Q;rfl
    |cons u us ih=>
     cases u with
     |d d=>simp only[bd]at Q;obtain⟨a3,N,rfl⟩:=aN.1 Q;rw[ih a3 N];rfl
     |_=>simp[bd]at Q
   obtain⟨u,A1,g1,g2,g3,g4,g5⟩:=P ds v H es p e2;refine KT hh M g2 g3 g4 g5 ?_;simp only[dY,h1,Q,bO];rw[Z,g1];rfl
  ·rename_i hg
   split at hx
   ·rename_i G
    split at hx
    ·simp at hx
    rename_i sf hs;obtain⟨ds,C,O⟩:=aL.1 hx;obtain⟨v,H,y⟩:=aN.1 O;simp at y;obtain⟨rfl,rfl⟩:=y
    obtain⟨es,Q,e2,e3⟩:=p9 C Y;have x2:=GZ C;have Z:=GZ Q;obtain⟨l1,l2,l3,l4⟩:=hX.spec f sf hs;have S:ds.length=sf.np:=by
     unfold jE at H;split at H
     ·simp at H
     ·rename_i hn;simpa using hn
    obtain⟨u,A1,g1,g2,g3,g4,g5⟩:=qLE ih (p:=p) e2 l1 l2 l3 (fun j=>by
     rw[<-x2,<-Z]
     by_cases hj:(X.lin f).contains j=true
     ·have h8:=cm.1 l4 j (by simpa using hj)
      simp only[cB]at h8;rw[r8];rw[x2,jm (by simp;omega)]
     ·exact hl j (by simpa using hj)) H
    refine KT hh M g2 g3 g4 g5 ?_;simp only[dY,hX.no f hg,G,hs,Q,bO,g1];rfl
   ·rename_i vf G
    split at hx
    ·simp at hx
    ·rename_i S
     split at hx
     case h_2 m hbm=>
      split at hx
      ·simp at hx
      rename_i a1;obtain⟨⟨e,s1⟩,h1,P⟩:=aL.1 hx;have w:=hX.code f vf G;simp only[VFn.linOK,cd]at w;have J:=AV.qao Y;obtain⟨a2,hco⟩:=AV.qbF _ _ Y;have c2:qbv (f7 B) Bv:=by
       refine⟨by simp[f7,M.1],fun i=>⟨fun h=> ?_,fun cs h=> ?_⟩⟩
       ·simp only[f7,dP]at h
        obtain⟨o,N,C⟩:=aN.1 h;cases o with
        |none=>exact(M.2 i).1 N
        |some c=>simp at C
       ·simp only[f7,dP]at h
        obtain⟨o,N,C⟩:=aN.1 h;cases o with
        |none=>simp at C
        |some c=>simp only[b9,ca]at C;subst C;obtain⟨ds,O,H⟩:=(M.2 i).2 c N;exact⟨ds,O,(AV.qbF _ _ H).1⟩
      have x3:∀j,bp (bn 0 (AV.clrs xs)) (bn 0 vs) j=[]:=by
       intro j;rw[r8,AV.qay,dP];cases xs[j]? with
       |none=>rfl
       |some a=>cases vs[j]? with
        |none=>rfl
        |some b=>simp[AV.qbN]
      have b1:∀j,bD (f7 B) Bv j=[]:=by
       intro j;unfold bD;split
       ·rename_i cs ds q1 q2
        have q3:=lL.1 q1;simp only[f7,dP]at q3;obtain⟨o,q4,q5⟩:=aN.1 q3;cases o with
        |none=>simp at q5
        |some c=>
         simp only[b9,ca]at q5;subst q5;obtain⟨ds',q6,q7⟩:=(M.2 j).2 c q4;have:=lL.1 q2;rw[q6]at this;simp only[ca]at this;subst this
         exact(AV.qbF _ _ q7).2
       ·rfl
      have K:∀ℓ,aU (bn 0 (AV.clrs xs)) (f7 B) (bn 0 vs) Bv ℓ=[]:=by
       intro ℓ;cases ℓ with
       |reg t=>exact x3 t
       |box j=>exact b1 j
      have h0:Rel Ids.none (X.lin f) (fun _=>False) p 0 ⟨bn 0 (AV.clrs xs),f7 B⟩ ⟨bn 0 vs,Bv,Ids.none,0⟩:=by
       refine⟨fun t x z=> ?_,c2,⟨fun ℓ=>by rw[K];simp,fun ℓ ℓ' a l=>by rw[K]at l;simp at l,fun ℓ a l=>by rw[K]at l;simp at l,fun a l=>by simp at l⟩,fun t _=>x3 t,fun t z=> ?_,fun a l=>by simp[Ids.none]at l⟩
       ·simp only[nV]at z⊢
        simp only[c8,if_true,qa]at z⊢
        exact AV.qb2 a2 z
       ·simp only[nV]at z⊢
        simp only[c8,if_true,qa]at z⊢
        rw[AR]at z⊢
        rw[AV.qcD]at z;omega
      obtain⟨v1,N,C⟩:=Ar (sv:=⟨bn 0 vs,Bv,Ids.none,0⟩) ih n vf.code w.1 _ _ _ h0 h1;have hc:(∀id,e≠.exit id)->dY X.env (n+1) p f vs Bv A=(finish Bv.length p v1 vf.results).map fun q=>⟨q.v,Ids.or q.A A,q.B⟩:=by
       intro x1;rw[dY];simp only[hX.no f hg,G,hbm];rw[aC (by rw[<-J];exact S),aC (by rw[<-M.1];exact a1),N];cases e with
       |exit id=>exact absurd rfl (x1 id)
       |normal=>rfl
       |ret=>rfl
      have I:∀{v' B'},f8 B.length s1 vf.results=some (v',B')->(∀id,e≠.exit id)->∃v D A',dY X.env (n+1) p f vs Bv A=some ⟨v,A',D⟩/\v'.fit v/\qbv B' D/\Held F (fun _=>False) A' (aU [(0,v')] B' [(0,v)] D)/\∀a,A' a=true->A a=true\/Fut p 0 a:=by
       intro v' B' O he;obtain⟨r,H,y⟩:=FD C w.2 O;have R:∀a,r.A a=true->Fut p 0 a:=fun a l=>by
        rcases y.am a l with h8|h8
        ·simp[Ids.none]at h8
        ·exact h8
       refine⟨r.v,r.B,Ids.or r.A A,?_,y.fit,y.boxes,⟨y.held.nodup,y.held.apart,fun ℓ a l=> ?_,fun a l=>⟨by simp[Ids.or,(hh.fr a l).1],id⟩⟩,fun a l=> ?_⟩
       ·rw[hc he]
        rw[M.1]at H;rw[H];rfl
       ·obtain⟨q1,_,_⟩:=y.held.opn ℓ a l
        exact⟨by simp[Ids.or,q1],fun hF=>(hh.fr a hF).2 (R a q1),id⟩
       ·simp only[Ids.or,jr]at l
        rcases l with l|l
        ·exact .inr (R a l)
        ·exact .inl l
      cases e with
      |exit id=>simp at P
      |normal=>exact I P (fun id h=>by simp at h)
      |ret=>exact I P (fun id h=>by simp at h)
     rename_i b2;obtain⟨⟨e,s1⟩,h1,P⟩:=aL.1 hx;have w:=hX.code f vf G;simp only[VFn.linOK,cd]at w;have J:=AV.qao Y;have h0:Rel A (X.lin f) F p 0 ⟨bn 0 xs,B⟩ ⟨bn 0 vs,Bv,A,0⟩:=by
      refine⟨fun t x z=> ?_,M,hh,hl,fun t z=> ?_,fun a l=>⟨c1 a l,.inl l⟩⟩
      ·simp only[nV]at z⊢
       simp only[c8,if_true,qa]at z⊢
       exact AV.qb2 Y z
      ·simp only[nV]at z⊢
       simp only[c8,if_true,qa]at z⊢
       rw[AR]at z⊢
       omega
     obtain⟨v1,N,C⟩:=Ar (sv:=⟨bn 0 vs,Bv,A,0⟩) ih n vf.code w.1 _ _ _ h0 h1;have hc:(∀id,e≠.exit id)->dY X.env (n+1) p f vs Bv A=finish Bv.length p v1 vf.results:=by
      intro x1;rw[dY];simp only[hX.no f hg,G,b2];rw[aC (by rw[<-J];exact S),N];cases e with
      |exit id=>exact absurd rfl (x1 id)
      |normal=>rfl
      |ret=>rfl
     have I:∀{v' B'},f8 B.length s1 vf.results=some (v',B')->(∀id,e≠.exit id)->∃v D A',dY X.env (n+1) p f vs Bv A=some ⟨v,A',D⟩/\v'.fit v/\qbv B' D/\Held F (fun _=>False) A' (aU [(0,v')] B' [(0,v)] D)/\∀a,A' a=true->A a=true\/Fut p 0 a:=by intro v' B' O he;obtain⟨r,H,y⟩:=FD C w.2 O;refine⟨r.v,r.B,r.A,?_,y.fit,y.boxes,y.held,y.am⟩;rw[hc he,<-M.1,H]
     cases e with
     |exit id=>simp at P
     |normal=>exact I P (fun id h=>by simp at h)
     |ret=>exact I P (fun id h=>by simp at h)
end
def kW(c c':cf):Prop:=∀f as B r,c f as B=some r->c' f as B=some r
variable{c c':cf}
theorem O1(h:kW c c')(lin:Nat->ae)(T:ae)(draw:Bool)(i:Nat)(o:VOper):iL (be c lin T draw i o) (be c' lin T draw i o):=by
 intro s r a;obtain⟨dst,op,g,af⟩:=o;cases op
 case call iso f args=>
  simp only[be]at a⊢
  split at a
  ·rename_i k caps vs q t
   split at a
   ·rename_i e
    simp only[e,if_true];split at a
    ·rename_i l
     split at a
     ·rename_i hc
      rw[h _ _ _ _ hc];exact a
     ·simp at a
    ·simp at a
   ·rename_i e
    simp only[e];split at a
    ·rename_i j
     rw[ay j];split at a
     ·rename_i hc
      rw[h _ _ _ _ hc];exact a
     ·simp at a
    ·simp at a
  ·simp at a
 all_goals exact a
theorem sN(h:kW c c')(lin:Nat->ae)(T:ae)(draw:Bool)(e:Nat)(os:ak):iL (a7 c lin T draw e os) (a7 c' lin T draw e os):=by
 induction os with
 |nil=>intro s r a;exact a
 |cons o os i=>
  intro s r a;simp only[a7]at a⊢
  split at a
  ·obtain⟨s1,j,l⟩:=aL.1 a
   exact aL.2 ⟨s1,O1 h lin T draw e o s s1 j,i _ _ l⟩
  ·exact i _ _ a
  ·simp at a
theorem KA(h:kW c c')(lin:Nat->ae)(T:ae)(draw:Bool)(na:Nat)(live:ae)(ops:ak):iL (lD c lin T draw na live ops) (lD c' lin T draw na live ops):=by
 intro s r a;unfold lD at a⊢
 split
 ·simp_all
 ·rename_i i
  simp only[i]at a;obtain⟨s1,e,j⟩:=aN.1 a;exact aN.2 ⟨s1,sN h lin T draw _ ops _ _ e,j⟩
theorem Pp(h:kW c c')(lin:Nat->ae)(T:ae)(draw:Bool)(e:Nat)(fs:dZ):iL (ew c lin T draw e fs) (ew c' lin T draw e fs):=by
 induction fs with
 |nil=>intro s r a;exact a
 |cons f fs q=>
  intro s r a;simp only[ew]at a⊢
  obtain⟨s1,j,t⟩:=aL.1 a;obtain⟨i,l,o⟩:=aL.1 t;exact aL.2 ⟨s1,sN h lin T draw e f.pre _ _ j,aL.2 ⟨i,l,q _ _ o⟩⟩
theorem Nn(h:kW c c')(lin:Nat->ae)(T:ae)(draw:Bool)(na:Nat)(live:ae)(fs:dZ):iL (ku c lin T draw na live fs) (ku c' lin T draw na live fs):=by
 intro s r a;unfold ku at a⊢
 split
 ·simp_all
 ·rename_i i
  simp only[i]at a;obtain⟨s1,e,j⟩:=aN.1 a;exact aN.2 ⟨s1,Pp h lin T draw _ fs _ _ e,j⟩
theorem CB{f g:XS->dK}(h:iL f g)(i:Nat)(live:ae):∀n m,n<=m->iL (fH f i live n) (fH g i live m):=by
 intro n
 induction n with
 |zero=>intro m _ s r a;simp[fH]at a
 |succ n l=>
  intro m q s r a;obtain⟨m,rfl⟩:∃k,m=k+1:=⟨m-1,by omega⟩;simp only[fH]at a⊢
  obtain⟨s0,o,a⟩:=aL.1 a;obtain⟨⟨e,s1⟩,j,a⟩:=aL.1 a;refine aL.2 ⟨s0,o,aL.2 ⟨(e,s1),h _ _ j,?_⟩⟩;cases e with
  |normal=>exact l m (by omega) _ _ a
  |exit id=>exact a
  |ret=>exact a
variable{m:Nat}
theorem iZ(h:kW c c')(lin:Nat->ae)(T:ae)(H:n<=m)(vc:VCode):iL (bP c lin T n vc) (bP c' lin T m vc):=by
 induction vc with
 |skip=>intro s r j;exact j
 |ret=>intro s r j;exact j
 |exit id=>intro s r j;exact j
 |seq a b o u=>
  intro s r j;simp only[bP]at j⊢
  obtain⟨⟨e,s1⟩,l,j⟩:=aL.1 j;refine aL.2 ⟨(e,s1),o _ _ l,?_⟩;cases e with
  |normal=>exact u _ _ j
  |exit id=>exact j
  |ret=>exact j
 |region draw na live ops=>
  intro s r j;simp only[bP]at j⊢
  obtain⟨s1,l,q⟩:=aN.1 j;exact aN.2 ⟨s1,KA h lin T draw na live ops _ _ l,q⟩
 |regionF draw na live fs=>
  intro s r j;simp only[bP]at j⊢
  obtain⟨s1,l,q⟩:=aN.1 j;exact aN.2 ⟨s1,Nn h lin T draw na live fs _ _ l,q⟩
 |regionS na live pre t t1 i x d f1 f2=>
  intro s r j;simp only[bP,rm]at j⊢
  obtain⟨s1,l,q⟩:=aN.1 j;split at l
  ·simp at l
  ·rename_i y
   obtain⟨z,C,D⟩:=aL.1 l;rw[aC y];exact aN.2 ⟨s1,aL.2 ⟨z,sN h lin T false _ pre _ _ C,D⟩,q⟩
 |cond x a b o u=>
  intro s r j;simp only[bP]at j⊢
  split at j
  ·exact o _ _ j
  ·exact u _ _ j
  ·simp at j
 |block id G w=>
  intro s r j;simp only[bP]at j⊢
  obtain⟨s1,l,q⟩:=aN.1 j;exact aN.2 ⟨s1,w _ _ l,q⟩
 |loop live G w=>
  intro s r j;simp only[bP]at j⊢
  exact CB w _ _ n m H _ _ j
theorem GW(h:kW c c')(sf:SFn)(x:DV)(xr:aw):∀r,ji c sf x xr=some r->ji c' sf x xr=some r:=by
 intro r a;unfold ji at a⊢
 split at a
 ·rename_i hc
  rw[ay hc];split at a
  ·rename_i v cs e
   rw[h _ _ _ _ e];exact a
  ·simp at a
 ·simp at a
theorem qA6(h:kW c c')(t:n<=m)(lin:Nat->ae)(T:ae)(sf:SFn)(ds:aw):∀r,jE c lin T n sf ds=some r->jE c' lin T m sf ds=some r:=by
 intro r o;unfold jE at o⊢
 split at o
 ·simp at o
 rename_i j;rw[aC j];obtain⟨⟨e,s⟩,w,a⟩:=aL.1 o;refine aL.2 ⟨(e,s),iZ h lin T t sf.pre _ _ w,?_⟩;simp only at a⊢
 split at a
 ·rename_i x xr u D
  obtain⟨y,z,C⟩:=aL.1 a;obtain⟨q,l,i⟩:=aN.1 C;exact aL.2 ⟨y,z,aN.2 ⟨q,GW h _ _ _ _ l,i⟩⟩
 ·rename_i u
  obtain⟨q,l,i⟩:=aL.1 a;exact aL.2 ⟨q,iZ h lin T t sf.rest _ _ l,i⟩
 ·rename_i g u D
  obtain⟨q,l,i⟩:=aL.1 a;exact aL.2 ⟨q,iZ h lin T t sf.rest _ _ l,i⟩
 ·simp at a
theorem RN(X:XEnv):∀n,kW (ci X n) (ci X (n+1)):=by
 intro n
 induction n with
 |zero=>intro f as B r a;simp[ci]at a
 |succ n o=>
  intro f as B r a;rw[ci]at a⊢
  split
  ·rename_i g i
   rw[i]at a;exact a
  ·rename_i i
   simp only[i]at a;split
   ·rename_i l
    simp only[l]at a;split
    ·rename_i t;simp[t]at a
    ·rename_i sf t
     simp only[t]at a;obtain⟨ds,e,h⟩:=aL.1 a;obtain⟨q,w,x⟩:=aN.1 h;exact aL.2 ⟨ds,e,aN.2 ⟨q,qA6 o (b7 n) _ _ sf ds _ w,x⟩⟩
   ·rename_i vf l
    simp only[l]at a;split at a
    ·simp at a
    ·rename_i j
     rw[aC j];split at a
     ·rename_i u
      obtain⟨s1,e,h⟩:=aL.1 a;exact aL.2 ⟨s1,iZ o _ _ (b7 n) vf.code _ _ e,h⟩
     ·rename_i m u
      split at a
      ·simp at a
      rename_i y;rw[aC y];obtain⟨s1,e,h⟩:=aL.1 a;exact aL.2 ⟨s1,iZ o _ _ (b7 n) vf.code _ _ e,h⟩
theorem iO(X:XEnv)(h:n<=m):kW (ci X n) (ci X m):=by
 induction h with
 |refl=>intro f as B r a;exact a
 |step _ e=>intro f as B r a;exact RN X _ _ _ _ _ (e _ _ _ _ a)
noncomputable def aj(X:XEnv):cf:=fun f as B=>lim fun n=>ci X n f as B
noncomputable def aS(X:XEnv)(T:ae)(c:VCode)(s:XS):dK:=lim fun n=>bP (ci X n) X.lin T n c s
variable{f:Nat}
theorem l9{as:aG}{r:AV×az}:aj X f as B=some r↔∃n,ci X n f as B=some r:=CJ (fun n m r h a=>iO X h _ _ _ _ a) r
variable{r:Ex×XS}{s:XS}
theorem dn{T:ae}{c:VCode}:aS X T c s=some r↔∃n,bP (ci X n) X.lin T n c s=some r:=CJ (fun n m r h a=>iZ (iO X h) _ _ h c _ _ a) r
theorem Ae(X:XEnv)(n:Nat):kW (ci X n) (aj X):=fun _ _ _ _ h=>l9.2 ⟨n,h⟩
theorem QI(X:XEnv)(T:ae)(draw:Bool)(i:Nat)(o:VOper)(s r:XS)(a:be (aj X) X.lin T draw i o s=some r):∃n,be (ci X n) X.lin T draw i o s=some r:=by
 obtain⟨dst,op,g,af⟩:=o;cases op
 case call iso f args=>
  simp only[be]at a⊢
  split at a
  ·rename_i k caps vs q t
   split at a
   ·rename_i e
    simp only[e,if_true];split at a
    ·rename_i l
     split at a
     ·rename_i hc
      obtain⟨n,h⟩:=l9.1 hc;exact⟨n,by rw[h];exact a⟩
     ·simp at a
    ·simp at a
   ·rename_i e
    simp only[e];split at a
    ·rename_i j
     split at a
     ·rename_i hc
      obtain⟨n,h⟩:=l9.1 hc;exact⟨n,by rw[ay j,h];exact a⟩
     ·simp at a
    ·simp at a
  ·simp at a
 all_goals exact⟨0,a⟩
theorem Fh(X:XEnv)(T:ae)(draw:Bool)(e:Nat)(os:ak):∀s r,a7 (aj X) X.lin T draw e os s=some r->∃n,a7 (ci X n) X.lin T draw e os s=some r:=by
 induction os with
 |nil=>intro s r a;exact⟨0,a⟩
 |cons o os h=>
  intro s r a;simp only[a7]at a⊢
  split at a
  ·obtain⟨s1,i,j⟩:=aL.1 a
   obtain⟨n,q⟩:=QI X T draw e o s s1 i;obtain⟨m,l⟩:=h _ _ j;exact⟨Nat.max n m,aL.2 ⟨s1,O1 (iO X (rk n m)) _ _ _ _ _ _ _ q,sN (iO X (pw n m)) _ _ _ _ _ _ _ l⟩⟩
  ·exact h _ _ a
  ·simp at a
theorem J3(X:XEnv)(T:ae)(draw:Bool)(na:Nat)(live:ae)(ops:ak)(s:XS):
 aS X T (.region draw na live ops) s=(lD (aj X) X.lin T draw na live ops s).map fun s'=>(.normal,s'):=by
 refine lY fun r=> ?_
 rw[dn];constructor
 ·rintro⟨n,e⟩
  simp only[bP]at e;obtain⟨s1,a,i⟩:=aN.1 e;exact aN.2 ⟨s1,KA (Ae X n) _ _ _ _ _ _ _ _ a,i⟩
 ·intro h
  obtain⟨s1,a,i⟩:=aN.1 h;unfold lD at a;split at a
  ·simp at a
  ·rename_i q
   obtain⟨j,l,o⟩:=aN.1 a;obtain⟨n,e⟩:=Fh _ _ _ _ _ _ _ l;refine⟨n,?_⟩;simp only[bP];refine aN.2 ⟨s1,?_,i⟩;unfold lD;rw[aC q];exact aN.2 ⟨j,e,o⟩
theorem ZX(X:XEnv)(T:ae)(s:XS):aS X T .skip s=some (.normal,s):=dn.2 ⟨0,rfl⟩
theorem Wn(X:XEnv)(T:ae)(s:XS):aS X T .ret s=some (.ret,s):=dn.2 ⟨0,rfl⟩
theorem Xe(X:XEnv)(T:ae)(id:Nat)(s:XS):aS X T (.exit id) s=some (.exit id,s):=dn.2 ⟨0,rfl⟩
def ol(r:dK)(k:XS->dK):dK:=
 r.bind fun r=>match r.1 with
  | .normal=>k r.2
  |_=>some r
theorem H5(X:XEnv)(T:ae)(a b:VCode)(s:XS):aS X T (.seq a b) s=ol (aS X T a s) (aS X T b):=by
 refine lY fun r=> ?_
 unfold ol;rw[dn];constructor
 ·rintro⟨n,j⟩
  simp only[bP]at j;obtain⟨⟨e,s1⟩,l,i⟩:=aL.1 j;refine aL.2 ⟨(e,s1),dn.2 ⟨n,l⟩,?_⟩;cases e with
  |normal=>exact dn.2 ⟨n,i⟩
  |exit id=>exact i
  |ret=>exact i
 ·intro h
  obtain⟨⟨e,s1⟩,l,i⟩:=aL.1 h;obtain⟨n,j⟩:=dn.1 l;cases e with
  |normal=>obtain⟨m,o⟩:=dn.1 i;refine⟨Nat.max n m,?_⟩;simp only[bP];exact aL.2 ⟨_,iZ (iO X (rk n m)) _ _ (rk n m) _ _ _ j,iZ (iO X (pw n m)) _ _ (pw n m) _ _ _ o⟩
  |exit id=>exact⟨n,by simp only[bP];exact aL.2 ⟨_,j,i⟩⟩
  |ret=>exact⟨n,by simp only[bP];exact aL.2 ⟨_,j,i⟩⟩
theorem Sw(X:XEnv)(T:ae)(x:VX)(a b:VCode)(s:XS):
 aS X T (.cond x a b) s=match bm s.r x with
  |some (.d (.bool true))=>aS X T a s
  |some (.d (.bool false))=>aS X T b s
  |_=>none:=by
 unfold aS;split<;>simp only[bP, *]
 unfold lim;split
 ·rename_i h;obtain⟨n,e⟩:=h;simp at e
 ·rfl
theorem SK(X:XEnv)(T:ae)(id:Nat)(c:VCode)(s:XS):
 aS X T (.block id c) s=(aS X T c s).map fun r=>if r.1= .exit id then(.normal,r.2)else r:=by
 refine lY fun r=> ?_
 rw[dn];constructor
 ·rintro⟨n,a⟩
  simp only[bP]at a;obtain⟨s1,e,i⟩:=aN.1 a;exact aN.2 ⟨s1,dn.2 ⟨n,e⟩,i⟩
 ·intro h
  obtain⟨s1,e,i⟩:=aN.1 h;obtain⟨n,a⟩:=dn.1 e;exact⟨n,by simp only[bP];exact aN.2 ⟨s1,a,i⟩⟩
noncomputable def bq(X:XEnv)(T:ae)(a:Nat)(live:ae)(c:VCode)(s:XS):dK:=lim fun n=>fH (bP (ci X n) X.lin T n c) a live n s
variable{live:ae}
theorem Gw{T:ae}{a:Nat}{c:VCode}:bq X T a live c s=some r↔∃n,fH (bP (ci X n) X.lin T n c) a live n s=some r:=CJ (fun n m r h e=>CB (iZ (iO X h) _ _ h c) _ _ n m h _ _ e) r
theorem SL(X:XEnv)(T:ae)(live:ae)(c:VCode)(s:XS):aS X T (.loop live c) s=bq X T s.B.length live c s:=rfl
theorem pH(X:XEnv)(T:ae)(q:Nat)(live:ae)(c:VCode)(s:XS):
 bq X T q live c s=(aA q live s).bind fun s0=>ol (aS X T c s0) (bq X T q live c):=by
 refine lY fun r=> ?_
 unfold ol;rw[Gw];constructor
 ·rintro⟨n,i⟩
  cases n with
  |zero=>simp[fH]at i
  |succ n=>
   simp only[fH]at i;obtain⟨s0,j,i⟩:=aL.1 i;obtain⟨⟨e,s1⟩,o,a⟩:=aL.1 i;refine aL.2 ⟨s0,j,aL.2 ⟨(e,s1),dn.2 ⟨n+1,o⟩,?_⟩⟩;cases e with
   |normal=>exact Gw.2 ⟨n+1,CB (fun _ _ h=>h) _ _ n (n+1) (b7 n) _ _ a⟩
   |exit id=>exact a
   |ret=>exact a
 ·intro h
  obtain⟨s0,j,h⟩:=aL.1 h;obtain⟨⟨e,s1⟩,o,a⟩:=aL.1 h;obtain⟨n,i⟩:=dn.1 o;have one:∀m,n<=m->bP (ci X m) X.lin T m c s0=some (e,s1):=fun m l=>iZ (iO X l) _ _ l c _ _ i
  cases e with
  |normal=>obtain⟨m,l⟩:=Gw.1 a;refine⟨n+m+1,?_⟩;simp only[fH];refine aL.2 ⟨s0,j,aL.2 ⟨(.normal,s1),one _ (by omega),?_⟩⟩;exact CB (iZ (iO X (by omega)) _ _ (by omega) c) _ _ m _ (by omega) _ _ l
  |exit id=>refine⟨n+1,?_⟩;simp only[fH];exact aL.2 ⟨s0,j,aL.2 ⟨(.exit id,s1),one _ (by omega),a⟩⟩
  |ret=>refine⟨n+1,?_⟩;simp only[fH];exact aL.2 ⟨s0,j,aL.2 ⟨(.ret,s1),one _ (by omega),a⟩⟩
theorem qCM(X:XEnv)(f:Nat)(as:aG)(B:az)(vf:VFn)(o:X.nat f=none)(j:X.env.code f=some vf)(l:X.env.base f=none)(a:as.length=vf.np):
 aj X f as B=(aS X (X.lin f) vf.code ⟨bn 0 as,B⟩).bind fun r=>
  match r.1 with
  | .exit _=>none
  |_=>f8 B.length r.2 vf.results:=by
 refine lY fun r=> ?_
 rw[l9];constructor
 ·rintro⟨n,h⟩
  cases n with
  |zero=>simp[ci]at h
  |succ n=>rw[ci]at h;simp only[o,j,l]at h;rw[aC (by simp[a])]at h;obtain⟨s1,e,i⟩:=aL.1 h;exact aL.2 ⟨s1,dn.2 ⟨n,e⟩,i⟩
 ·intro h
  obtain⟨s1,e,i⟩:=aL.1 h;obtain⟨n,q⟩:=dn.1 e;refine⟨n+1,?_⟩;rw[ci];simp only[o,j,l];rw[aC (by simp[a])];exact aL.2 ⟨s1,q,i⟩
theorem Zd(X:XEnv)(f:Nat)(as:aG)(B:az)(vf:VFn)(q:X.nat f=none)(j:X.env.code f=some vf)(l:X.env.base f=some m)(o:B.length=m)(a:as.length=vf.np):
 aj X f as B=(aS X (X.lin f) vf.code ⟨bn 0 (AV.clrs as),f7 B⟩).bind fun r=>
  match r.1 with
  | .exit _=>none
  |_=>f8 B.length r.2 vf.results:=by
 refine lY fun r=> ?_
 rw[l9];constructor
 ·rintro⟨n,h⟩
  cases n with
  |zero=>simp[ci]at h
  |succ n=>rw[ci]at h;simp only[q,j,l]at h;rw[aC (by simp[a]),aC (by simp[o])]at h;obtain⟨s1,e,i⟩:=aL.1 h;exact aL.2 ⟨s1,dn.2 ⟨n,e⟩,i⟩
 ·intro h
  obtain⟨s1,e,i⟩:=aL.1 h;obtain⟨n,t⟩:=dn.1 e;refine⟨n+1,?_⟩;rw[ci];simp only[q,j,l];rw[aC (by simp[a]),aC (by simp[o])];exact aL.2 ⟨s1,t,i⟩
theorem qSW(X:XEnv)(T:ae)(draw:Bool)(e:Nat):∀(fs:dZ) (s r:XS),ew (aj X) X.lin T draw e fs s=some r->∃n,ew (ci X n) X.lin T draw e fs s=some r:=by
 intro fs
 induction fs with
 |nil=>intro s r a;exact⟨0,a⟩
 |cons f fs q=>
  intro s r a;simp only[ew]at a⊢
  obtain⟨s1,h,i⟩:=aL.1 a;obtain⟨j,l,o⟩:=aL.1 i;obtain⟨n,u⟩:=Fh _ _ _ _ _ _ _ h;obtain⟨m,t⟩:=q _ _ o;exact⟨Nat.max n m,aL.2 ⟨s1,sN (iO X (rk n m)) _ _ _ _ _ _ _ u,aL.2 ⟨j,l,Pp (iO X (pw n m)) _ _ _ _ _ _ _ t⟩⟩⟩
theorem qrX(X:XEnv)(T:ae)(na:Nat)(live:ae)(pre:ak)(t t1:Nat)(i x:VX)(d:Nat)(f1 f2:ae)(s:XS):aS X T (.regionS na live pre t t1 i x d f1 f2) s=(rm (aj X) X.lin T na live pre t t1 i x s).map fun s'=>(.normal,s'):=by
 refine lY fun r=> ?_
 rw[dn];simp only[bP,rm]
 by_cases a:rq t t1 pre=false
 ·simp[a]
 ·rw[aC a]
  constructor
  ·rintro⟨n,e⟩
   rw[aC a]at e;obtain⟨s1,j,l⟩:=aN.1 e;obtain⟨o,q,u⟩:=aL.1 j;exact aN.2 ⟨s1,aL.2 ⟨o,sN (Ae X n) _ _ _ _ _ _ _ q,u⟩,l⟩
  ·intro h
   obtain⟨s1,j,l⟩:=aN.1 h;obtain⟨o,q,u⟩:=aL.1 j;obtain⟨n,e⟩:=Fh _ _ _ _ _ _ _ q;refine⟨n,?_⟩;rw[aC a];exact aN.2 ⟨s1,aL.2 ⟨o,e,u⟩,l⟩
theorem Ox(X:XEnv)(T:ae)(draw:Bool)(na:Nat)(live:ae)(fs:dZ)(s:XS):aS X T (.regionF draw na live fs) s=(ku (aj X) X.lin T draw na live fs s).map fun s'=>(.normal,s'):=by
 refine lY fun r=> ?_
 rw[dn];constructor
 ·rintro⟨n,e⟩
  simp only[bP]at e;obtain⟨s1,a,i⟩:=aN.1 e;exact aN.2 ⟨s1,Nn (Ae X n) _ _ _ _ _ _ _ _ a,i⟩
 ·intro h
  obtain⟨s1,a,i⟩:=aN.1 h;unfold ku at a;split at a
  ·simp at a
  ·rename_i q
   obtain⟨j,l,o⟩:=aN.1 a;obtain⟨n,e⟩:=qSW _ _ _ _ _ _ _ l;refine⟨n,?_⟩;simp only[bP];refine aN.2 ⟨s1,?_,i⟩;unfold ku;rw[aC q];exact aN.2 ⟨j,e,o⟩
theorem vk(X:XEnv)(f:Nat)(as:aG)(B:az)(g:aw->cP)(a:X.nat f=some g):
 aj X f as B=(bd as).bind fun ds=>(g ds).map fun v=>(.d v,B):=by
 refine lY fun r=> ?_
 rw[l9];constructor
 ·rintro⟨n,h⟩
  cases n with
  |zero=>simp[ci]at h
  |succ n=>rw[ci]at h;simpa only[a]using h
 ·intro h
  exact⟨1,by rw[ci];simpa only[a]using h⟩
noncomputable def mx(X:XEnv)(T:ae)(sf:SFn)(ds:aw):cP:=
 if ds.length≠sf.np then none else
  (aS X T sf.pre ⟨bn 0 (ds.map .d),[]⟩).bind fun r=>
   match r.1,lk r.2.r sf.cond,lk r.2.r sf.row with
   | .normal,some (.d (.bool true)),some (.d (.sl (.own [] 0) (x::xr)))=>(rY r.2).bind fun y=>(ji (aj X) sf x xr).map fun q=> .agg [y.1,y.2,.sl U q]
   | .normal,some (.d (.bool false)),_| .normal,some (.d (.bool true)),some (.d (.sl _ []))=>
    (aS X T sf.rest r.2).bind fun a=>
     match a.1 with
     | .exit _=>none
     |_=>(f8 0 a.2 sf.results).bind fun q=>match q.1 with
      | .d v=>some v
      |_=>none
   |_,_,_=>none
theorem RX(X:XEnv)(sf:SFn)(x:DV)(xr:aw):∀r,ji (aj X) sf x xr=some r->∃n,ji (ci X n) sf x xr=some r:=by
 intro r a;unfold ji at a⊢
 split at a
 ·rename_i hc
  split at a
  ·rename_i v cs h
   obtain⟨n,e⟩:=l9.1 h;exact⟨n,by rw[ay hc,e];exact a⟩
  ·simp at a
 ·simp at a
theorem MF{T:ae}{r:DV}:mx X T sf ds=some r↔∃n,jE (ci X n) X.lin T n sf ds=some r:=by
 constructor
 ·intro o
  unfold mx at o;split at o
  ·simp at o
  rename_i a;obtain⟨⟨e,s⟩,w,h⟩:=aL.1 o;obtain⟨n,G⟩:=dn.1 w;have two:∀m,∀{q:Ex×XS},bP (ci X m) X.lin T m sf.rest s=some q->bP (ci X (Nat.max n m)) X.lin T (Nat.max n m) sf.rest s=some q:=fun m q D=>iZ (iO X (pw n m)) _ _ (pw n m) _ _ _ D
  have one:∀m,bP (ci X (Nat.max n m)) X.lin T (Nat.max n m) sf.pre ⟨bn 0 (ds.map .d),[]⟩=some (e,s):=fun m=>iZ (iO X (rk n m)) _ _ (rk n m) _ _ _ G
  simp only at h;split at h
  ·rename_i x xr j t
   obtain⟨y,z,C⟩:=aL.1 h;obtain⟨q,l,i⟩:=aN.1 C;obtain⟨m,u⟩:=RX X _ _ _ _ l;refine⟨Nat.max n m,?_⟩;unfold jE;rw[aC a,one m];simp only[bO,j,t];exact aL.2 ⟨y,z,aN.2 ⟨q,GW (iO X (pw n m)) _ _ _ _ u,i⟩⟩
  ·rename_i j
   obtain⟨q,l,i⟩:=aL.1 h;obtain⟨m,u⟩:=dn.1 l;refine⟨Nat.max n m,?_⟩;unfold jE;rw[aC a,one m];simp only[bO,j];exact aL.2 ⟨q,two m u,i⟩
  ·rename_i g j t
   obtain⟨q,l,i⟩:=aL.1 h;obtain⟨m,u⟩:=dn.1 l;refine⟨Nat.max n m,?_⟩;unfold jE;rw[aC a,one m];simp only[bO,j,t];exact aL.2 ⟨q,two m u,i⟩
  ·simp at h
 ·rintro⟨n,o⟩
  unfold jE at o;unfold mx;split at o
  ·simp at o
  rename_i a;rw[aC a];obtain⟨⟨e,s⟩,w,h⟩:=aL.1 o;refine aL.2 ⟨(e,s),dn.2 ⟨n,w⟩,?_⟩;simp only at h⊢
  split at h
  ·rename_i x xr j t
   obtain⟨y,z,C⟩:=aL.1 h;obtain⟨q,l,i⟩:=aN.1 C
   try simp only[j,t]
   exact aL.2 ⟨y,z,aN.2 ⟨q,GW (Ae X n) _ _ _ _ l,i⟩⟩
  ·rename_i j
   obtain⟨q,l,i⟩:=aL.1 h
   try simp only[j]
   exact aL.2 ⟨q,dn.2 ⟨n,l⟩,i⟩
  ·rename_i g j t
   obtain⟨q,l,i⟩:=aL.1 h
   try simp only[j,t]
   exact aL.2 ⟨q,dn.2 ⟨n,l⟩,i⟩
  ·simp at h
theorem Rl(X:XEnv)(f:Nat)(as:aG)(B:az)(sf:SFn)(o:X.nat f=none)(t:X.env.code f=none)(l:X.env.spec f=some sf):
 aj X f as B=(bd as).bind fun ds=>(mx X (X.lin f) sf ds).map fun v=>(.d v,B):=by
 refine lY fun r=> ?_
 rw[l9];constructor
 ·rintro⟨n,h⟩
  cases n with
  |zero=>simp[ci]at h
  |succ n=>rw[ci]at h;simp only[o,t,l]at h;obtain⟨ds,a,j⟩:=aL.1 h;obtain⟨q,e,i⟩:=aN.1 j;exact aL.2 ⟨ds,a,aN.2 ⟨q,MF.2 ⟨n,e⟩,i⟩⟩
 ·intro h
  obtain⟨ds,a,j⟩:=aL.1 h;obtain⟨q,e,i⟩:=aN.1 j;obtain⟨n,u⟩:=MF.1 e;refine⟨n+1,?_⟩;rw[ci];simp only[o,t,l];exact aL.2 ⟨ds,a,aN.2 ⟨q,u,i⟩⟩
theorem Z4(z:XOK X){xs vs:aw}(hc:DV.clrs xs=xs)(G:DV.fits xs vs){d:DV}(H:d.clr=d)(h:aj X f (xs.map .d) []=some (.d d,B')):
 ∃u A Bv,AM X.env [] f (vs.map .d) [] Ids.none=some ⟨.d u,A,Bv⟩/\d.fit u:=by
 obtain⟨n,D⟩:=l9.1 h;have C:AV.fits (xs.map .d) (vs.map .d):=AV.qqE G;have l:∀j,bp (bn 0 (xs.map AV.d)) (bn 0 (vs.map AV.d)) j=[]:=by
  intro j;rw[r8];split
  ·rename_i a b e x
   have:=AV.qb7 e x;rw[AV.qqD,<-hc,DV.qfG]at this;exact tw.1 this
  ·rfl
 have i:∀ℓ,aU (bn 0 (xs.map AV.d)) [] (bn 0 (vs.map AV.d)) [] ℓ=[]:=by
  intro ℓ;cases ℓ with
  |reg t=>exact l t
  |box j=>simp[aU,bD,b5]
 obtain⟨v,Bv,A',q,o,_⟩:=Mm z n f _ _ _ _ D [] (vs.map .d) [] Ids.none (fun _=>False) C ⟨rfl,by simp⟩
  ⟨fun ℓ=>by rw[i];simp,fun ℓ ℓ' a e=>by rw[i]at e;simp at e,fun ℓ a e=>by rw[i]at e;simp at e,fun a e=>by simp at e⟩ (fun j _=>l j) (fun a e=>by simp[Ids.none]at e)
 simp only[AV.fit]at o;obtain⟨y,rfl,w⟩:=o;exact⟨y,A',Bv,Ru.2 ⟨n,q⟩,w⟩
def Fy(b:uL)(c:cf)(lin:Nat->ae)(T:ae)(d:Bool)(L:Nat)(o:VOper)(os:ak)(s:XS):bZ:=
 match b with
 |some true=>(be c lin T d L o s).bind (a7 c lin T d L os)
 |some false=>a7 c lin T d L os (a9 T s o.dst .und)
 |none=>none
def M7(r:bZ)(c:cf)(lin:Nat->ae)(T:ae)(d:Bool)(L:Nat)(os:ak):bZ:=r.bind (a7 c lin T d L os)
def bu(live:ae)(r:bZ):dK:=r.map fun s'=>(.normal,⟨keep s'.r live,s'.B⟩)
def Ol(id:Nat)(r:dK):dK:=r.map fun r=>if r.1= .exit id then(.normal,r.2)else r
noncomputable def Hb(v:a8)(X:XEnv)(T:ae)(a b:VCode)(s:XS):dK:=
 match v with
 |some (.d (.bool true))=>aS X T a s
 |some (.d (.bool false))=>aS X T b s
 |_=>none
def uh(L:Nat)(rs:jt)(r:dK):nJ:=
 r.bind fun r=>match r.1 with
  | .exit _=>none
  |_=>f8 L r.2 rs
def mH(T:ae)(s:XS)(dst:bi)(v:a8):bZ:=v.map fun v=>a9 T s dst v
def ec(T:ae)(s:XS)(dst:bi)(v:a8):bZ:=v.map fun v=>a9 T s dst v.clr
def Bs(T:ae)(s:XS)(dst:bi)(v:cP):bZ:=v.map fun v=>a9 T s dst (.d v)
def FV(T:ae)(s:XS)(dst:bi)(B:Option az):bZ:=B.map fun B=>a9 T ⟨s.r,B⟩ dst .und
def Lo(T:ae)(dst:bi)(s:XS)(v:Option aw):bZ:=v.map fun xs=>a9 T s dst (.d (.sl U xs))
def O0(T:ae)(dst:bi)(s:XS)(a b:VX)(v:a8):bZ:=
 match v with
 |some (.d (.bool true))=>(bm s.r a).map fun v=>a9 T (dH T dst s [a]) dst v
 |some (.d (.bool false))=>(bm s.r b).map fun v=>a9 T (dH T dst s [b]) dst v
 |_=>none
def Je(T:ae)(dst:bi)(sz bytes:Nat)(x y:VX)(s:XS)(v w:a8):bZ:=
 match v,w with
 |some (.d v),some (.d w)=>(bU sz bytes v w).map fun u=>a9 T ⟨du T s.r (if cR T dst then [x,y]else [x]),s.B⟩ dst (.d u)
 |_,_=>none
def Nz(T:ae)(L:Nat)(dst:bi)(k:Nat)(x:VX)(s:XS)(v:a8):bZ:=v.bind fun v=>if eK s.B (L+k)/\v.cells.all AV.isCell/\v.safe (L+k)then some (a9 T ⟨et T s.r x,s.B.set (L+k) (some v.cells)⟩ dst (.ptr (L+k) 0))else none
def Ft(T:ae)(dst:bi)(sz n:Nat)(g:Tag)(xs:aw)(k:Nat)(s:XS)(e:cP):bZ:=e.bind fun e=>if e.cells.length=sz/\sz≠0 then some (a9 T (if T.contains n then⟨(n,.d (.sl g (xs.set k e.clr)))::s.r,s.B⟩else s) dst (.ep e.cells))else none
def JY(T:ae)(dst:bi)(sz n:Nat)(s:XS)(v w:a8):bZ:=
 match v,w with
 |some (.d (.sl g xs)),some (.d (.int _ k))=>if 0<=k then Ft T dst sz n g xs k.toNat s (xs[k.toNat]?)else none
 |_,_=>none
def BP(T:ae)(d:Bool)(L:Nat)(dst:bi)(agg:Bool)(sz:Nat)(x:VX)(s:XS)(a:a8):bZ:=
 match a with
 |some (.ep cs)=>(cut agg sz cs).map fun v=>a9 T (dH T dst s [x]) dst (.d v)
 |some (.ptr b off)=>if d/\L<=b then none else(aW s.B agg sz b off).map fun v=>a9 T (if cR T dst then⟨s.r,qK s.B b off (if agg then sz else 1)⟩else s) dst v
 |_=>none
def KV(T:ae)(d:Bool)(L:Nat)(dst:bi)(init:Bool)(sz:Nat)(x:VX)(s:XS)(a v:a8):bZ:=
 match a,v with
 |some (.ptr b off),some v=>if nT d init L b then none else(pA s.B sz b off v).map fun B=>a9 T ⟨et T s.r x,B⟩ dst .und
 |_,_=>none
def NA(T:ae)(d:Bool)(L:Nat)(dst:bi)(sz:Nat)(x:VX)(av:ae)(s:XS)(a v:a8):bZ:=
 match a,v with
 |some (.ptr b off),some v=>if nT d false L b|| !lV s.r b av then none else(pA s.B sz b off v).map fun B=>a9 T ⟨et T s.r x,B⟩ dst .und
 |_,_=>none
def OS(b:Nat):a8->Bool
 |some (.ptr b' _)=>b' !=b
 |_=>false
theorem qCd(r:aI)(b:Nat):lV r b []=true:=aJ rfl
theorem YG(r:aI)(b t:Nat)(av:ae):lV r b (t::av)=(OS b (lk r t)&&lV r b av):=by unfold lV;simp only[fX];congr 1
theorem Z6(b b' off:Nat):OS b (some (.ptr b' off))=(b' !=b):=aJ rfl
def vu(T:ae)(dst:bi)(n i:Nat)(s:XS)(v:a8):bZ:=
 match v with
 |some (.ag true vs)=>(vs[i]?).map fun v=>a9 T s dst v.clr
 |some (.d (.tup vs))=>(vs[i]?).map fun v=>a9 T (if cR T dst&&T.contains n then⟨(n,.d (.tup (vs.set i v.clr)))::s.r,s.B⟩else s) dst (.d v)
 |_=>none
def Mq(T:ae)(d:Bool)(L:Nat)(dst:bi)(k sz bytes:Nat)(z:DV)(s:XS)(v:a8):bZ:=
 match v with
 |some (.d (.int _ n))=>
  if d=false/\eK s.B (L+k)/\0<=n/\n.toNat*bytes<=140737488355328/\n<9223372036854775808/\z.cells.length=sz/\z.cells.all DV.isCell then
   some (a9 T ⟨s.r,s.B.set (L+k) (some (((List.replicate n.toNat z.cn).flatMap DV.cells).map .d))⟩ dst (.bsl [] (isAgg z) (L+k) sz n.toNat))else none
 |_=>none
def Ab(c:cf)(T:ae)(dst:bi)(s:XS)(f:a8)(vs:Option aG):bZ:=
 match f,vs with
 |some (.fn k caps),some vs=>
  match bd vs,caps with
  |some _,[]=>
   match c k (dq [] 0 vs) []with
   |some (.d v,_)=>some (a9 T s dst (.d v))
   |_=>none
  |_,_=>none
 |_,_=>none
def Gc(T:ae)(dst:bi)(s:XS)(ds:Option aw)(r:nJ):bZ:=
 match ds with
 |some _=>
  match r with
  |some (.d v,_)=>some (a9 T s dst (.d v))
  |_=>none
 |none=>none
def CP(T:ae)(dst:bi)(s:XS)(xs:cg)(b:Bool)(r:nJ):bZ:=
 if b then
  match r with
  |some (v,B)=>some (a9 T ⟨du T s.r xs,B⟩ dst v)
  |none=>none
 else none
def xN(c:cf)(lin:Nat->ae)(T:ae)(dst:bi)(s:XS)(args:cg)(f:a8)(vs:Option aG):bZ:=
 match f,vs with
 |some (.fn k caps),some vs=>CP T dst s (dp (lin k) 0 args) (c6 T (dp (lin k) 0 args)) (c k (dq (lin k) 0 vs++caps) s.B)
 |_,_=>none
def E_(T:ae)(dst:bi)(thaw:Bool)(s:XS)(r:nJ):bZ:=
 match r with
 |some (.d v,_)=>r_ T thaw s dst v
 |_=>none
def Be(c:cf)(T:ae)(dst:bi)(thaw:Bool)(s:XS)(k:Nat)(ds:Option aw):bZ:=ds.bind fun ds=>E_ T dst thaw s (c k (dq [] 0 (ds.map .d)) [])
def xT(c:cf)(T:ae)(d:Bool)(dst:bi)(thaw:Bool)(s:XS)(f:a8)(vs:Option aG):bZ:=
 match f,vs with
 |some (.fn k []),some vs=>if d=false\/thaw=false then Be c T dst thaw s k (mE (AV.frz s.B) vs)else none
 |_,_=>none
def Pr(d:cP)(ds:Option aw):Option aw:=d.bind fun d=>ds.map (d::·)
def xV(v:a8)(vs:Option aG):Option aG:=match v,vs with|some v,some vs=>some (v::vs)|_,_=>none
def II(v:DV)(vs:Option aw):Option aw:=vs.map (v::·)
def dO(a:cP):a8:=a.map .d
def A8(v:a8):a8:=match v with|some (.ptr i o)=>some (.ptr i o)|some (.ep cs)=>some (.ep cs)|some (.fn f c)=>some (.fn f c)|_=>none
def N3(op:BinOp)(x y:a8):a8:=match x,y with|some (.d a),some (.d b)=>(mV op a b).map .d|_,_=>none
def FP(neg:Bool)(ks:ae)(x y:a8):a8:=match x,y with|some (.d (.agg a)),some (.d (.agg b))=>(eM ks a b).map fun e=> au (if neg then !e else e)|_,_=>none
def J5(neg:Bool)(x y:a8):a8:=match x,y with|some (.d (.bool a)),some (.d (.bool b))=>some (au (if neg then !(a==b)else(a==b)))|_,_=>none
def OA(x:a8):a8:=match x with|some (.d (.bool b))=>some (.d (.bool !b))|_=>none
def M2(k:IntKind)(x:a8):a8:=match x with|some (.d (.int _ n))=>some (.d (.int k (k.wrap n)))|_=>none
def KO(x:a8):a8:=match x with|some (.d (.int _ n))=>some (.d (.str (Utf8.encode n)))|_=>none
def KN(x:a8):a8:=match x with|some (.d (.sl _ xs))=>(bytesOf xs).map fun bs=> .d (.str ⟨bs.toArray⟩)|_=>none
def JB(x i:a8):a8:=match x,i with|some (.d (.str s)),some (.d (.int _ n))=>if 0<=n then(rW s n.toNat).map fun b=> .d (.int .u8 b)else none|_,_=>none
def vE(sz:Nat)(x i:a8):a8:=
 match x,i with
 |some (.d (.sl _ xs)),some (.d (.int _ n))=>if 0<=n then(xs[n.toNat]?).bind fun e=>if e.cells.length=sz/\sz≠0 then some (.ep e.cells)else none else none
 |some (.bsl _ _ b a m),some (.d (.int _ n))=>if a=sz/\0<=n/\n<m then some (.ptr b (n.toNat*sz))else none
 |some (.tsl _ b a m),some (.d (.int _ n))=>if a=sz/\0<=n/\n<m then some (.ptr b (n.toNat*sz))else none
 |_,_=>none
def FQ(sz:Nat)(e:cP):a8:=e.bind fun e=>if e.cells.length=sz/\sz≠0 then some (.ep e.cells)else none
def G_(sz m:Nat)(x i:a8):a8:=
 match x,i with
 |some (.ptr b o),some (.d (.int _ n))=>if 0<=n/\n<m then some (.ptr b (o+n.toNat*sz))else none
 |some (.ep cs),some (.d (.int _ n))=>if 0<=n/\n<m/\n.toNat*sz<=cs.length then some (.ep (cs.drop (n.toNat*sz)))else none
 |_,_=>none
def Ep(off:Nat)(x:a8):a8:=match x with|some (.ptr b o)=>some (.ptr b (o+off))|some (.ep cs)=>if off<=cs.length then some (.ep (cs.drop off))else none|_=>none
def ux(str:Bool)(x:a8):a8:=
 match str,x with
 |true,some (.d (.str s))=>some (aa s.size)
 |false,some (.d (.sl _ xs))=>some (aa xs.length)
 |false,some (.bsl _ _ _ _ n)=>some (aa n)
 |false,some (.tsl _ _ _ n)=>some (aa n)
 |_,_=>none
def GN(x y:a8):a8:=match x,y with|some (.d (.int k a)),some (.d (.int k' b))=>if k=k' then some (.d (.int k (if b>a then b else a)))else none|_,_=>none
def yO(str:Bool)(sz:Nat)(x:a8)(lo hi:Option a8):a8:=
 match str,x,lo,hi with
 |true,some (.d (.str s)),some lo,some hi=>(hZ s.size hi).bind fun h=>(gL h lo).map fun l=> .d (.str (s.extract l h))
 |false,some (.d (.sl g xs)),some lo,some hi=>if xs.all (fun e=>e.cells.length=sz)then(hZ xs.length hi).bind fun h=>(gL h lo).map fun l=> .d (.sl (if g= .nil then .nil else .sub) ((xs.take h).drop l))else none
 |_,_,_,_=>none
def GE(g:VX->a8)(cs:aw)(off size:Nat)(r:nq)(v:a8):Option aw:=
 match v with
 |some (.d v)=>if v.cells.length=size/\off+size<=cs.length/\v.cells.all DV.isCell then iR g (splice cs off v.cells) r else none
 |_=>none
def HQ(g:VX->a8)(sz:Nat)(cs:aw)(i:Nat)(r:mM)(v:a8):Option aw:=
 match v with
 |some (.d v)=>if v.cells.length=sz/\i<cs.length/\v.cells.all DV.isCell then f6 g sz (cs.set i v) r else none
 |_=>none
theorem q3U(c:cf)(lin:Nat->ae)(T:ae)(d:Bool)(L:Nat)(o:VOper)(os:ak)(s:XS):a7 c lin T d L (o::os) s=Fy (gk s.r o.guard) c lin T d L o os s:=aJ rfl
theorem UX(c:cf)(lin:Nat->ae)(T:ae)(d:Bool)(L:Nat)(s:XS):a7 c lin T d L [] s=some s:=aJ rfl
theorem TH(c:cf)(lin:Nat->ae)(T:ae)(d:Bool)(L:Nat)(o:VOper)(os:ak)(s:XS):Fy (some true) c lin T d L o os s=M7 (be c lin T d L o s) c lin T d L os:=aJ rfl
theorem qSz(c:cf)(lin:Nat->ae)(T:ae)(d:Bool)(L:Nat)(o:VOper)(os:ak)(s:XS):Fy (some false) c lin T d L o os s=a7 c lin T d L os (a9 T s o.dst .und):=aJ rfl
theorem Q_(s:XS)(c:cf)(lin:Nat->ae)(T:ae)(d:Bool)(L:Nat)(os:ak):M7 (some s) c lin T d L os=a7 c lin T d L os s:=aJ rfl
theorem Uy(X:XEnv)(T:ae)(na:Nat)(live:ae)(ops:ak)(r:aI)(B:az):
 aS X T (.region false na live ops) ⟨r,B⟩=bu live (a7 (aj X) X.lin T false B.length ops ⟨r,B++List.replicate na none⟩):=by
 rw[J3];simp[lD,bu,mf]
theorem bK(X:XEnv)(T:ae)(na:Nat)(live:ae)(ops:ak)(h:vP ops=true)(r:aI)(B:az):
 aS X T (.region true na live ops) ⟨r,B⟩=bu live (a7 (aj X) X.lin T true B.length ops ⟨r,B++List.replicate na none⟩):=by
 rw[J3];simp[lD,bu,mf,h]
theorem Uf(live:ae)(r:aI)(B:az):bu live (some ⟨r,B⟩)=some (.normal,⟨keep r live,B⟩):=aJ rfl
theorem FJ(X:XEnv)(T:ae)(id:Nat)(c:VCode)(s:XS):aS X T (.block id c) s=Ol id (aS X T c s):=SK X T id c s
theorem qC7(id:Nat)(e:Ex)(s:XS):Ol id (some (e,s))=some (if e= .exit id then(.normal,s)else(e,s)):=aJ rfl
theorem Us(X:XEnv)(T:ae)(x:VX)(a b:VCode)(s:XS):aS X T (.cond x a b) s=Hb (bm s.r x) X T a b s:=by rw[Sw];rfl
theorem qSC(X:XEnv)(T:ae)(a b:VCode)(s:XS):Hb (some (au true)) X T a b s=aS X T a s:=aJ rfl
theorem P7(X:XEnv)(T:ae)(a b:VCode)(s:XS):Hb (some (au false)) X T a b s=aS X T b s:=aJ rfl
theorem su(X:XEnv)(f:Nat)(as:aG)(B:az)(vf:VFn)(e:X.nat f=none)(i:X.env.code f=some vf)(a:as.length=vf.np)(h:X.env.base f=none:=by first|rfl|assumption):
 aj X f as B=uh B.length vf.results (aS X (X.lin f) vf.code ⟨bn 0 as,B⟩):=qCM X f as B vf e i h a
theorem I_(X:XEnv)(f:Nat)(as:aG)(B:az)(vf:VFn)(h:X.nat f=none)(j:X.env.code f=some vf)(a:as.length=vf.np)(i:X.env.base f=some m)(e:B.length=m):
 aj X f as B=uh B.length vf.results (aS X (X.lin f) vf.code ⟨bn 0 (AV.clrs as),f7 B⟩):=Zd X f as B vf h j i e a
theorem q3S(L:Nat)(rs:jt)(s:XS):uh L rs (some (.ret,s))=f8 L s rs:=aJ rfl
theorem YF(L:Nat)(rs:jt)(s:XS):uh L rs (some (.normal,s))=f8 L s rs:=aJ rfl
theorem Rb(s:XS)(k:XS->dK):ol (some (.normal,s)) k=k s:=aJ rfl
theorem Xq(s:XS)(k:XS->dK):ol (some (.ret,s)) k=some (.ret,s):=aJ rfl
theorem Y3(id:Nat)(s:XS)(k:XS->dK):ol (some (.exit id,s)) k=some (.exit id,s):=aJ rfl
section
variable (c:cf) (lin:Nat->ae) (T:ae) (d:Bool) (L:Nat) (dst:bi) (g:qs) (af:ae) (s:XS)
theorem VI(x:VX):be c lin T d L ⟨dst,.move x,g,af⟩ s=mH T (dH T dst s [x]) dst (bm s.r x):=aJ rfl
theorem U6(z:aw)(ps:nq):be c lin T d L ⟨dst,.build z ps,g,af⟩ s=mH T (dH T dst s (ps.map fun q=>q.2.2)) dst ((iR (bm s.r) (z.map DV.cn1) ps).map fun cs=> .d (.agg cs)):=by simp only[be,mH,Hq];rfl
theorem qA4(x:VX):be c lin T d L ⟨dst,.nilCheck x,g,af⟩ s=ec T s dst (bo s.r (.nilCheck x)):=aJ rfl
theorem q33(op:BinOp)(x y:VX):be c lin T d L ⟨dst,.bin op x y,g,af⟩ s=ec T s dst (bo s.r (.bin op x y)):=aJ rfl
theorem Wx(neg:Bool)(ks:ae)(x y:VX):be c lin T d L ⟨dst,.eqAgg neg ks x y,g,af⟩ s=ec T s dst (bo s.r (.eqAgg neg ks x y)):=aJ rfl
theorem q30(neg:Bool)(x y:VX):be c lin T d L ⟨dst,.eqB neg x y,g,af⟩ s=ec T s dst (bo s.r (.eqB neg x y)):=aJ rfl
theorem Qu(x:VX):be c lin T d L ⟨dst,.not x,g,af⟩ s=ec T s dst (bo s.r (.not x)):=aJ rfl
theorem qW0(k:Conv)(x:VX):be c lin T d L ⟨dst,.conv k x,g,af⟩ s=ec T s dst (bo s.r (.conv k x)):=aJ rfl
theorem R6(x y:VX):be c lin T d L ⟨dst,.index x y,g,af⟩ s=ec T s dst (bo s.r (.index x y)):=aJ rfl
theorem qvt(sz:Nat)(n:Nat)(y:VX):be c lin T d L ⟨dst,.indexAddr sz none (.t n) y,g,af⟩ s=if cR T dst then JY T dst sz n s (lk s.r n) (bm s.r y)else ec T s dst (bo s.r (.indexAddr sz none (.t n) y)):=by
 simp only[be,xJ];cases hl:cR T dst with
 |true=>rfl
 |false=>rfl
theorem S8(sz m:Nat)(x y:VX):be c lin T d L ⟨dst,.indexAddr sz (some m) x y,g,af⟩ s=ec T s dst (bo s.r (.indexAddr sz (some m) x y)):=by simp only[be,xJ];cases hl:cR T dst<;>cases x<;>rfl
theorem Ue(sz:Nat)(v:AV)(y:VX):be c lin T d L ⟨dst,.indexAddr sz none (.c v) y,g,af⟩ s=ec T s dst (bo s.r (.indexAddr sz none (.c v) y)):=by simp only[be,xJ];cases hl:cR T dst<;>rfl
theorem YE(off:Nat)(x:VX):be c lin T d L ⟨dst,.fieldAddr off x,g,af⟩ s=ec T s dst (bo s.r (.fieldAddr off x)):=aJ rfl
theorem qSw(str:Bool)(sz:Nat)(x:VX)(lo hi:nW):be c lin T d L ⟨dst,.slice str sz x lo hi,g,af⟩ s=ec T s dst (bo s.r (.slice str sz x lo hi)):=aJ rfl
theorem WI(f:Nat)(cs:cg):be c lin T d L ⟨dst,.makeFunc f cs,g,af⟩ s=ec T s dst (bo s.r (.makeFunc f cs)):=aJ rfl
theorem q3Y(str:Bool)(x:VX):be c lin T d L ⟨dst,.len str x,g,af⟩ s=ec T s dst (bo s.r (.len str x)):=aJ rfl
theorem WB(x y:VX):be c lin T d L ⟨dst,.max x y,g,af⟩ s=ec T s dst (bo s.r (.max x y)):=aJ rfl
theorem qWS(v:AV):ec T s dst (some v)=some (a9 T s dst v.clr):=aJ rfl
theorem Vl(v:AV):mH T s dst (some v)=some (a9 T s dst v):=aJ rfl
theorem qWQ(r:aI)(B:az)(n:Nat)(v:AV):a9 T ⟨r,B⟩ (some n) v=⟨(n,if T.contains n then v else v.clr)::r,B⟩:=aJ rfl
theorem qvr(v:AV):a9 T s none v=s:=aJ rfl
theorem Va(r:aI)(B:az)(xs:cg):dH T dst ⟨r,B⟩ xs=if cR T dst then⟨du T r xs,B⟩else⟨r,B⟩:=aJ rfl
theorem Tv(k:Nat)(z:aw):be c lin T d L ⟨dst,.alloc k z,g,af⟩ s=if eK s.B (L+k)/\z.all DV.isCell then some (a9 T ⟨s.r,s.B.set (L+k) (some (z.map fun z=> .d z.cn1))⟩ dst (.ptr (L+k) 0))else none:=aJ rfl
theorem Ud(x a b:VX):be c lin T d L ⟨dst,.pick x a b,g,af⟩ s=O0 T dst s a b (bm s.r x):=aJ rfl
theorem RB(sz bytes:Nat)(x y:VX):be c lin T d L ⟨dst,.append sz bytes x y,g,af⟩ s=Je T dst sz bytes x y s (bm s.r x) (bm s.r y):=aJ rfl
theorem ZN(k:Nat)(x:VX):be c lin T d L ⟨dst,.box k x,g,af⟩ s=Nz T L dst k x s (bm s.r x):=aJ rfl
theorem qWX(agg:Bool)(sz:Nat)(a:VX):be c lin T d L ⟨dst,.load agg sz a,g,af⟩ s=BP T d L dst agg sz a s (bm s.r a):=aJ rfl
theorem TP(sz:Nat)(a x:VX)(av:ae):be c lin T d L ⟨dst,.storeN sz a x av,g,af⟩ s=NA T d L dst sz x av s (bm s.r a) (bm s.r x):=aJ rfl
theorem UD(init:Bool)(sz:Nat)(a x:VX):be c lin T d L ⟨dst,.store init sz a x,g,af⟩ s=KV T d L dst init sz x s (bm s.r a) (bm s.r x):=aJ rfl
theorem Wk(n i:Nat):be c lin T d L ⟨dst,.extract (.t n) i,g,af⟩ s=vu T dst n i s (lk s.r n):=aJ rfl
theorem qvs(k sz bytes:Nat)(z:DV)(x:VX):be c lin T d L ⟨dst,.makeSlice k sz bytes z x,g,af⟩ s=Mq T d L dst k sz bytes z s (bm s.r x):=aJ rfl
theorem R4(sz:Nat)(z:DV)(len:Nat)(ps:mM):be c lin T d L ⟨dst,.buildSlice sz z len ps,g,af⟩ s=if z.cells.length=sz/\z.cells.all DV.isCell/\len*sz<=16777216/\len<=16777216 then Lo T dst (dH T dst s (ps.map fun q=>q.2)) (f6 (bm s.r) sz (List.replicate len z.cn) ps)else none:=aJ rfl
theorem VB(f:VX)(args:cg):be c lin T d L ⟨dst,.call true f args,g,af⟩ s=Ab c T dst s (bm s.r f) (j4 s.r args):=by simp only[be,Ab,if_true]<;>rfl
theorem qSx(f:VX)(args:cg):be c lin T d L ⟨dst,.call false f args,g,af⟩ s=xN c lin T dst s args (bm s.r f) (j4 s.r args):=by simp only[be,xN,CP,bg,if_false]<;>rfl
theorem w_T(k:Nat)(th:Bool)(vs:aG):xT c T false dst th s (some (.fn k [])) (some vs)=Be c T dst th s k (mE (AV.frz s.B) vs):=by simp only[xT,true_or,if_true]
theorem SB(k:Nat)(vs:aG):xT c T true dst false s (some (.fn k [])) (some vs)=Be c T dst false s k (mE (AV.frz s.B) vs):=by simp only[xT,or_true,if_true]
theorem q8n(k:Nat)(th:Bool)(ds:aw):Be c T dst th s k (some ds)=E_ T dst th s (c k (dq [] 0 (ds.map .d)) []):=aJ rfl
theorem P3(th:Bool)(v:DV)(B:az):E_ T dst th s (some (.d v,B))=r_ T th s dst v:=aJ rfl
theorem Q1(v:DV):r_ T false s dst v=if v.allUT then some (a9 T s dst (.d v))else none:=by simp[r_]
theorem QZ(r:aI)(B:az)(v:DV):r_ T true ⟨r,B⟩ dst v=if v.allUT then some (a9 T ⟨r,B++(v.clr.thaw B.length).2⟩ dst (v.clr.thaw B.length).1)else none:=by simp[r_]
theorem qXl(a b:VX)(v:Bool):O0 T dst s a b (some (au v))=if v then mH T (dH T dst s [a]) dst (bm s.r a)else mH T (dH T dst s [b]) dst (bm s.r b):=by cases v<;>rfl
theorem TI(sz bytes:Nat)(x y:VX)(v w:DV):Je T dst sz bytes x y s (some (.d v)) (some (.d w))=Bs T ⟨du T s.r (if cR T dst then [x,y]else [x]),s.B⟩ dst (bU sz bytes v w):=aJ rfl
theorem Qr(k:Nat)(x:VX)(v:AV):Nz T L dst k x s (some v)=if eK s.B (L+k)/\v.cells.all AV.isCell/\v.safe (L+k)then some (a9 T ⟨et T s.r x,s.B.set (L+k) (some v.cells)⟩ dst (.ptr (L+k) 0))else none:=aJ rfl
theorem Z7(agg:Bool)(sz:Nat)(x:VX)(cs:aw):BP T d L dst agg sz x s (some (.ep cs))=if cR T dst then mH T (dH T dst s [x]) dst ((cut agg sz cs).map .d)else ec T s dst ((cut agg sz cs).map .d):=by
 simp only[BP,ec,mH,Hq];cases hl:cR T dst with
 |true=>rfl
 |false=>
  simp only[bg,if_false];cases cut agg sz cs with
  |none=>rfl
  |some v=>
   simp only[b9,Function.comp,dH,hl,bg,if_false];cases dst with
   |none=>rfl
   |some n=>simp only[cR]at hl;simp only[a9,hl,bg,if_false,AV.clr,DV.qiZ]
theorem Za(sz n:Nat)(g:Tag)(xs:aw)(a:IntKind)(k:Int):JY T dst sz n s (some (.d (.sl g xs))) (some (.d (.int a k)))=if 0<=k then Ft T dst sz n g xs k.toNat s (xs[k.toNat]?)else none:=aJ rfl
theorem Qa(sz n:Nat)(g:Tag)(xs:aw)(k:Nat)(e:DV):Ft T dst sz n g xs k s (some e)=if e.cells.length=sz/\sz≠0 then some (a9 T (if T.contains n then⟨(n,.d (.sl g (xs.set k e.clr)))::s.r,s.B⟩else s) dst (.ep e.cells))else none:=aJ rfl
theorem Vu(agg:Bool)(sz b off:Nat)(x:VX):BP T d L dst agg sz x s (some (.ptr b off))=if d/\L<=b then none else mH T (if cR T dst then⟨s.r,qK s.B b off (if agg then sz else 1)⟩else s) dst (aW s.B agg sz b off):=aJ rfl
theorem qMw(sz:Nat)(x:VX)(av:ae)(b off:Nat)(v:AV):NA T d L dst sz x av s (some (.ptr b off)) (some v)=if nT d false L b|| !lV s.r b av then none else FV T ⟨et T s.r x,s.B⟩ dst (pA s.B sz b off v):=aJ rfl
theorem qS0(init:Bool)(sz:Nat)(x:VX)(b off:Nat)(v:AV):KV T d L dst init sz x s (some (.ptr b off)) (some v)=if nT d init L b then none else FV T ⟨et T s.r x,s.B⟩ dst (pA s.B sz b off v):=aJ rfl
theorem qXj(r:aI)(B B':az):FV T ⟨r,B⟩ dst (some B')=some (a9 T ⟨r,B'⟩ dst .und):=aJ rfl
theorem V3(n i:Nat)(vs:aw):vu T dst n i s (some (.d (.tup vs)))=Bs T (if cR T dst&&T.contains n then⟨(n,.d (.tup (vs.set i ((vs[i]?).getD (.bool false)).clr)))::s.r,s.B⟩else s) dst (vs[i]?):=by
 simp only[vu,Bs];cases hv:vs[i]? with
 |none=>rfl
 |some v=>simp
theorem Ty(n i:Nat)(vs:aG):vu T dst n i s (some (.ag true vs))=ec T s dst (vs[i]?):=by simp only[vu,ec]
theorem Zs(k sz bytes:Nat)(z:DV)(a:IntKind)(n:Int):Mq T d L dst k sz bytes z s (some (.d (.int a n)))=if d=false/\eK s.B (L+k)/\0<=n/\n.toNat*bytes<=140737488355328/\n<9223372036854775808/\z.cells.length=sz/\z.cells.all DV.isCell then
 some (a9 T ⟨s.r,s.B.set (L+k) (some (((List.replicate n.toNat z.cn).flatMap DV.cells).map .d))⟩ dst (.bsl [] (isAgg z) (L+k) sz n.toNat))else none:=aJ rfl
theorem Rn(xs:aw):Lo T dst s (some xs)=some (a9 T s dst (.d (.sl U xs))):=aJ rfl
theorem U5(k:Nat)(vs:aG):Ab c T dst s (some (.fn k [])) (some vs)=Gc T dst s (bd vs) (c k (dq [] 0 vs) []):=by simp only[Ab,Gc];cases bd vs<;>rfl
theorem qXn(ds:aw)(v:DV)(B:az):Gc T dst s (some ds) (some (.d v,B))=some (a9 T s dst (.d v)):=aJ rfl
theorem w_n(args:cg)(k:Nat)(caps vs:aG):xN c lin T dst s args (some (.fn k caps)) (some vs)=CP T dst s (dp (lin k) 0 args) (c6 T (dp (lin k) 0 args)) (c k (dq (lin k) 0 vs++caps) s.B):=aJ rfl
theorem Sg(xs:cg)(r:aI)(a:az)(v:AV)(B:az):CP T dst ⟨r,a⟩ xs true (some (v,B))=some (a9 T ⟨du T r xs,B⟩ dst v):=aJ rfl
theorem qXk(v:DV):Bs T s dst (some v)=some (a9 T s dst (.d v)):=aJ rfl
end
theorem Vg(r:aI)(x:VX):bo r (.nilCheck x)=A8 (x.get r):=aJ rfl
theorem Xd(r:aI)(op:BinOp)(x y:VX):bo r (.bin op x y)=N3 op (x.get r) (y.get r):=aJ rfl
theorem To(r:aI)(neg:Bool)(ks:ae)(x y:VX):bo r (.eqAgg neg ks x y)=FP neg ks (x.get r) (y.get r):=aJ rfl
theorem VG(r:aI)(neg:Bool)(x y:VX):bo r (.eqB neg x y)=J5 neg (x.get r) (y.get r):=aJ rfl
theorem q6v(r:aI)(x:VX):bo r (.not x)=OA (x.get r):=aJ rfl
theorem PM(r:aI)(k:IntKind)(x:VX):bo r (.conv (.kind k) x)=M2 k (x.get r):=aJ rfl
theorem TM(r:aI)(x:VX):bo r (.conv .rune x)=KO (x.get r):=aJ rfl
theorem WT(r:aI)(x:VX):bo r (.conv .bytes x)=KN (x.get r):=aJ rfl
theorem Sx(r:aI)(x y:VX):bo r (.index x y)=JB (x.get r) (y.get r):=aJ rfl
theorem XJ(r:aI)(sz:Nat)(x y:VX):bo r (.indexAddr sz none x y)=vE sz (x.get r) (y.get r):=aJ rfl
theorem qCl(r:aI)(sz m:Nat)(x y:VX):bo r (.indexAddr sz (some m) x y)=G_ sz m (x.get r) (y.get r):=aJ rfl
theorem qxC(r:aI)(off:Nat)(x:VX):bo r (.fieldAddr off x)=Ep off (x.get r):=aJ rfl
theorem qCk(r:aI)(f:Nat)(cs:cg):bo r (.makeFunc f cs)=(f0 r cs).map fun vs=> .fn f vs:=aJ rfl
theorem Su(r:aI)(str:Bool)(x:VX):bo r (.len str x)=ux str (x.get r):=by
 cases str<;>simp only[bo,ux]<;>(cases h:x.get r with
  |none=>rfl
  |some v=>cases v with
   |d w=>cases w<;>rfl
   |_=>rfl)
theorem Xi(r:aI)(x y:VX):bo r (.max x y)=GN (x.get r) (y.get r):=aJ rfl
theorem Ul(r:aI)(str:Bool)(sz:Nat)(x:VX)(lo hi:nW):bo r (.slice str sz x lo hi)=yO str sz (x.get r) (eJ r lo) (eJ r hi):=by
 cases str<;>simp only[bo,yO]<;>(cases h:x.get r with
  |none=>rfl
  |some v=>cases v with
   |d w=>cases w<;>cases eJ r lo<;>cases eJ r hi<;>rfl
   |_=>rfl)
theorem q2C(i o:Nat):A8 (some (.ptr i o))=some (.ptr i o):=aJ rfl
theorem PO(cs:aw):A8 (some (.ep cs))=some (.ep cs):=aJ rfl
theorem VU(f:Nat)(c:aG):A8 (some (.fn f c))=some (.fn f c):=aJ rfl
theorem T2(op:BinOp)(a b:DV):N3 op (some (.d a)) (some (.d b))=dO (mV op a b):=aJ rfl
theorem q8K(a:DV):dO (some a)=some (.d a):=aJ rfl
theorem qVv(neg:Bool)(ks:ae)(a b:aw):FP neg ks (some (.d (.agg a))) (some (.d (.agg b)))=(eM ks a b).map fun e=> au (if neg then !e else e):=aJ rfl
theorem q6s(neg:Bool)(a b:Bool):J5 neg (some (au a)) (some (au b))=some (au (if neg then !(a==b)else(a==b))):=aJ rfl
theorem VH(b:Bool):OA (some (au b))=some (.d (.bool !b)):=aJ rfl
theorem q2H(k k':IntKind)(n:Int):M2 k (some (.d (.int k' n)))=some (.d (.int k (k.wrap n))):=aJ rfl
theorem ZA(k':IntKind)(n:Int):KO (some (.d (.int k' n)))=some (.d (.str (Utf8.encode n))):=aJ rfl
theorem qVx(g:Tag)(xs:aw):KN (some (.d (.sl g xs)))=(bytesOf xs).map fun bs=> .d (.str ⟨bs.toArray⟩):=aJ rfl
theorem Q4(s:ByteArray)(k:IntKind)(n:Int):JB (some (.d (.str s))) (some (.d (.int k n)))=if 0<=n then(rW s n.toNat).map fun b=> .d (.int .u8 b)else none:=aJ rfl
theorem Zy(sz:Nat)(g:Tag)(xs:aw)(k:IntKind)(n:Int):vE sz (some (.d (.sl g xs))) (some (.d (.int k n)))=if 0<=n then FQ sz (xs[n.toNat]?)else none:=by simp only[vE,FQ]
theorem Yj(sz:Nat)(e:DV):FQ sz (some e)=if e.cells.length=sz/\sz≠0 then some (.ep e.cells)else none:=aJ rfl
theorem Qz(sz:Nat)(id:Id)(a:Bool)(b s' m:Nat)(k:IntKind)(n:Int):vE sz (some (.bsl id a b s' m)) (some (.d (.int k n)))=if s'=sz/\0<=n/\n<m then some (.ptr b (n.toNat*sz))else none:=aJ rfl
theorem Yo(sz:Nat)(a:Bool)(b s' m:Nat)(k:IntKind)(n:Int):vE sz (some (.tsl a b s' m)) (some (.d (.int k n)))=if s'=sz/\0<=n/\n<m then some (.ptr b (n.toNat*sz))else none:=aJ rfl
theorem q6u(sz m b o:Nat)(k:IntKind)(n:Int):G_ sz m (some (.ptr b o)) (some (.d (.int k n)))=if 0<=n/\n<m then some (.ptr b (o+n.toNat*sz))else none:=aJ rfl
theorem q2I(sz m:Nat)(cs:aw)(k:IntKind)(n:Int):G_ sz m (some (.ep cs)) (some (.d (.int k n)))=if 0<=n/\n<m/\n.toNat*sz<=cs.length then some (.ep (cs.drop (n.toNat*sz)))else none:=aJ rfl
theorem YW(off b o:Nat):Ep off (some (.ptr b o))=some (.ptr b (o+off)):=aJ rfl
theorem Yh(off:Nat)(cs:aw):Ep off (some (.ep cs))=if off<=cs.length then some (.ep (cs.drop off))else none:=aJ rfl
theorem Yz(s:ByteArray):ux true (some (.d (.str s)))=some (aa s.size):=aJ rfl
theorem Wi(g:Tag)(xs:aw):ux false (some (.d (.sl g xs)))=some (aa xs.length):=aJ rfl
theorem q2D(a:Bool)(i s n:Nat):ux false (some (.tsl a i s n))=some (aa n):=aJ rfl
theorem RJ(a:Bool)(i s n:Nat)(r:aG):bd (.tsl a i s n::r)=none:=aJ rfl
theorem Rc(v:DV):II v none=none:=aJ rfl
theorem Zc(cs:aG):p_ cs none=if cs.all AV.plainT then some (.ag false cs)else none:=aJ rfl
theorem WZ(k:IntKind)(n:Int):(AV.d (.int k n)).plainT=true:=aJ rfl
theorem Tl(b:Bool):(AV.d (.bool b)).plainT=true:=aJ rfl
theorem qBK(b:ByteArray):(AV.d (.str b)).plainT=true:=aJ rfl
theorem Uv(g:Tag):(AV.d (.sl g [])).plainT=true:=aJ rfl
theorem TA(a:Bool)(i s n:Nat):(AV.tsl a i s n).plainT=true:=aJ rfl
theorem XP(a:Bool)(i s n:Nat):(AV.tsl a i s n).clr= .tsl a i s n:=by simp only[AV.clr]
theorem RH(t:Bool)(cs:aG):(AV.ag t cs).clr= .ag t (AV.clrs cs):=by simp only[AV.clr]
theorem PX(cs:aG)(ds:aw):p_ cs (some ds)=some (.d (.agg ds)):=aJ rfl
theorem qOC(f:AV->cP):mE f []=some []:=aJ rfl
theorem Se(f:AV->cP)(v:AV)(r:aG):mE f (v::r)=Pr (f v) (mE f r):=aJ rfl
theorem V5(d:DV)(ds:aw):Pr (some d) (some ds)=some (d::ds):=aJ rfl
theorem QK(B:az)(v:DV):AV.frz B (.d v)=some v:=by unfold AV.frz;cases B.length<;>simp only[AV.frzC]
theorem XB(id:Id)(a:Bool)(i s n:Nat):ux false (some (.bsl id a i s n))=some (aa n):=aJ rfl
theorem Wa(k:IntKind)(a b:Int):GN (some (.d (.int k a))) (some (.d (.int k b)))=some (.d (.int k (if b>a then b else a))):=by simp[GN]
theorem Yb(sz:Nat)(s:ByteArray)(lo hi:a8):yO true sz (some (.d (.str s))) (some lo) (some hi)=(hZ s.size hi).bind fun h=>(gL h lo).map fun l=> .d (.str (s.extract l h)):=aJ rfl
theorem Ts(sz:Nat)(g:Tag)(xs:aw)(lo hi:a8):yO false sz (some (.d (.sl g xs))) (some lo) (some hi)=if xs.all (fun e=>e.cells.length=sz)then(hZ xs.length hi).bind fun h=>(gL h lo).map fun l=> .d (.sl (if g= .nil then .nil else .sub) ((xs.take h).drop l))else none:=aJ rfl
theorem qJN(r:aI):eJ r none=some none:=aJ rfl
theorem qJM(r:aI)(x:VX):eJ r (some x)=(x.get r).map some:=aJ rfl
theorem QW(n:Nat):hZ n none=some n:=aJ rfl
theorem PI(n:Nat):gL n none=some 0:=aJ rfl
theorem Vx(n:Nat)(k:IntKind)(h:Int):hZ n (some (.d (.int k h)))=if 0<=h/\h.toNat<=n then some h.toNat else none:=aJ rfl
theorem Yg(n:Nat)(k:IntKind)(h:Int):gL n (some (.d (.int k h)))=if 0<=h/\h.toNat<=n then some h.toNat else none:=aJ rfl
theorem WU(r:aI):f0 r []=some []:=aJ rfl
theorem qJH(r:aI)(x:VX)(xs:cg):f0 r (x::xs)=xV (x.get r) (f0 r xs):=by simp only[f0,xV];cases x.get r<;>cases f0 r xs<;>rfl
theorem UM(v:AV)(vs:aG):xV (some v) (some vs)=some (v::vs):=aJ rfl
theorem Xj(r:aI)(n:Nat):bm r (.t n)=lk r n:=aJ rfl
theorem Y5(r:aI)(v:DV):bm r (.c (.d v))=some (.d v.cn):=aJ rfl
theorem Vr(r:aI)(f:Nat):bm r (.c (.fn f []))=some (.fn f []):=by simp[bm,AV.clr,AV.clrs]
theorem WM(r:aI):bm r (.c .nilp)=some .nilp:=by simp[bm,AV.clr]
theorem UN(T:ae)(r:aI):du T r []=r:=aJ rfl
theorem UV(T:ae)(r:aI)(x:VX)(xs:cg):du T r (x::xs)=du T (et T r x) xs:=aJ rfl
theorem P4(T:ae)(r:aI)(v:AV):et T r (.c v)=r:=aJ rfl
theorem Z9(T:ae)(r:aI)(n:Nat)(h:T.contains n=false):et T r (.t n)=r:=by simp only[et,h];simp
theorem ZY(T:ae)(r:aI)(n:Nat)(h:T.contains n=true)(v:AV)(a:lk r n=some v):et T r (.t n)=(n,v.clr)::r:=by simp only[et,h,a];simp
theorem QS(T:ae):cR T none=false:=aJ rfl
theorem Ui(T:ae)(d:Nat):cR T (some d)=T.contains d:=aJ rfl
theorem V7(k:IntKind)(n:Int):(DV.int k n).cn= .int k n:=by simp[DV.cn,DV.cn1,DV.clr]
theorem Z8(b:Bool):(DV.bool b).cn= .bool b:=by simp[DV.cn,DV.cn1,DV.clr]
theorem q29(s:ByteArray):(DV.str s).cn= .str s:=by simp[DV.cn,DV.cn1,DV.clr]
theorem q3a:(DV.sl .nil []).cn= .sl U []:=by simp[DV.cn,DV.cn1]
theorem q3c(cs:aw):(DV.agg cs).cn= .agg (cs.map DV.cn1):=aJ rfl
theorem qVU(k:IntKind)(n:Int):(DV.int k n).cn1= .int k n:=by simp[DV.cn1,DV.clr]
theorem qOO(b:Bool):(DV.bool b).cn1= .bool b:=by simp[DV.cn1,DV.clr]
theorem qVS(s:ByteArray):(DV.str s).cn1= .str s:=by simp[DV.cn1,DV.clr]
theorem qVT:(DV.sl .nil []).cn1= .sl U []:=by simp[DV.cn1]
theorem JE(k:IntKind)(n:Int):(DV.int k n).clr= .int k n:=by simp[DV.clr]
theorem qOS(b:Bool):(DV.bool b).clr= .bool b:=by simp[DV.clr]
theorem Lf(s:ByteArray):(DV.str s).clr= .str s:=by simp[DV.clr]
theorem Ov(g:Tag)(xs:aw):(DV.sl g xs).clr= .sl .sub (xs.map DV.clr):=by simp[DV.clr,DV.qay]
theorem Wg(xs:aw):(DV.agg xs).clr= .agg (xs.map DV.clr):=by simp[DV.clr,DV.qay]
theorem UZ(xs:aw):(DV.tup xs).clr= .tup (xs.map DV.clr):=by simp[DV.clr,DV.qay]
theorem q3g(v:DV):(AV.d v).clr= .d v.clr:=by simp[AV.clr]
theorem PS(i o:Nat):(AV.ptr i o).clr= .ptr i o:=by simp[AV.clr]
theorem Qd(cs:aw):(AV.ep cs).clr= .ep (cs.map DV.clr):=by simp[AV.clr,DV.qay]
theorem Tp(f:Nat)(cs:aG):(AV.fn f cs).clr= .fn f (cs.map AV.clr):=by simp[AV.clr,AV.qay]
theorem qKJ:AV.nilp.clr= .nilp:=by simp[AV.clr]
theorem R_(id:Id)(a:Bool)(i sz n:Nat):(AV.bsl id a i sz n).clr= .bsl id a i sz n:=by simp[AV.clr]
theorem S9:AV.und.clr= .und:=by simp[AV.clr]
theorem Qg(LP:ae)(j:Nat):dq LP j []=[]:=aJ rfl
theorem qBa(LP:ae)(j:Nat)(v:AV)(r:aG):dq LP j (v::r)=(if LP.contains j then v else v.clr)::dq LP (j+1) r:=aJ rfl
theorem ZO(LP:ae)(j:Nat):dp LP j []=[]:=aJ rfl
theorem Oi(j:Nat):∀xs:cg,dp [] j xs=[]
 | []=>rfl
 |x::xs=>by simp[dp,Oi (j+1) xs]
theorem qsr(LP:ae)(j:Nat)(v:VX)(r:cg):dp LP j (v::r)=if LP.contains j then v::dp LP (j+1) r else dp LP (j+1) r:=aJ rfl
theorem Wv(r:aI):j4 r []=some []:=aJ rfl
theorem VQ(r:aI)(x:VX)(xs:cg):j4 r (x::xs)=xV (bm r x) (j4 r xs):=by simp only[j4,xV];cases bm r x<;>cases j4 r xs<;>rfl
theorem SN:bd []=some []:=aJ rfl
theorem qCm(v:DV)(r:aG):bd (.d v::r)=II v (bd r):=aJ rfl
theorem U2(v:DV)(r:aw):II v (some r)=some (v::r):=aJ rfl
theorem qUC(T:ae):c6 T []=true:=aJ rfl
theorem Xn(g:VX->a8)(cs:aw):iR g cs []=some cs:=aJ rfl
theorem S7(g:VX->a8)(cs:aw)(off size:Nat)(x:VX)(r:nq):iR g cs ((off,size,x)::r)=GE g cs off size r (g x):=by simp only[iR,GE]<;>rfl
theorem Q9(g:VX->a8)(cs:aw)(off size:Nat)(r:nq)(v:DV):GE g cs off size r (some (.d v))=if v.cells.length=size/\off+size<=cs.length/\v.cells.all DV.isCell then iR g (splice cs off v.cells) r else none:=aJ rfl
theorem Sy(g:VX->a8)(sz:Nat)(cs:aw):f6 g sz cs []=some cs:=aJ rfl
theorem qr2(g:VX->a8)(sz:Nat)(cs:aw)(i:Nat)(x:VX)(r:mM):f6 g sz cs ((i,x)::r)=HQ g sz cs i r (g x):=by simp only[f6,HQ]<;>rfl
theorem T4(g:VX->a8)(sz:Nat)(cs:aw)(i:Nat)(r:mM)(v:DV):HQ g sz cs i r (some (.d v))=if v.cells.length=sz/\i<cs.length/\v.cells.all DV.isCell then f6 g sz (cs.set i v) r else none:=aJ rfl
theorem Ql(rs:aw):oJ rs []=true:=aJ rfl
theorem qn0(rs:aw)(t:Nat)(v:AV)(r:aI):oJ rs ((t,v)::r)=(v.xrest rs&&oJ rs r):=aJ rfl
theorem Zi(rs:aw):mn rs []=true:=aJ rfl
theorem Rh(rs:aw)(B:az):mn rs (none::B)=mn rs B:=by simp only[mn,fX,eE]
def Bn(rs:aw)(cs:aG):Bool:=cs.all (AV.xrest rs)
theorem Yk(rs:aw):Bn rs []=true:=aJ rfl
theorem qol(rs:aw)(v:AV)(cs:aG):Bn rs (v::cs)=(v.xrest rs&&Bn rs cs):=aJ rfl
theorem qn1(rs:aw)(cs:aG)(B:az):mn rs (some cs::B)=(Bn rs cs&&mn rs B):=aJ rfl
theorem ZB(rs:aw)(v:DV):AV.xrest rs (.d v)=v.xrest rs:=aJ rfl
theorem qCZ(rs:aw)(i o:Nat):AV.xrest rs (.ptr i o)=true:=aJ rfl
theorem qCY(rs:aw)(a:Bool)(i sz n:Nat):AV.xrest rs (.tsl a i sz n)=true:=aJ rfl
theorem qCX(rs:aw):AV.xrest rs .und=true:=aJ rfl
theorem qDf(rs:aw)(k:IntKind)(n:Int):DV.xrest rs (.int k n)=true:=by simp only[DV.xrest]
theorem Qp(rs:aw)(b:Bool):DV.xrest rs (.bool b)=true:=by simp only[DV.xrest]
theorem TO(rs:aw)(s:ByteArray):DV.xrest rs (.str s)=true:=by simp only[DV.xrest]
theorem W5(rs cs:aw):DV.xrest rs (.agg cs)=DV.xrests rs cs:=by simp only[DV.xrest]
theorem qSG(rs xs:aw):DV.xrest rs (.sl U xs)=DV.xrests rs xs:=by simp only[DV.xrest,decide_true,DG,eE]
theorem qDe(rs:aw)(g:Tag):DV.xrest rs (.sl g [])=true:=by simp[DV.xrest,DV.xrests]
theorem qA7(rs:aw):DV.xrests rs []=true:=by simp only[DV.xrests]
theorem Qe(rs:aw)(v:DV)(r:aw):DV.xrests rs (v::r)=(v.xrest rs&&DV.xrests rs r):=by simp only[DV.xrests]
attribute [simp] Yk qol Ql qn0 Zi Rh qn1 ZB qCZ qCY qCX qDf Qp TO W5 qSG qDe qA7 Qe
theorem S1:f7 []=[]:=aJ rfl
theorem SP(cs:aG)(B:az):f7 (some cs::B)=some (AV.clrs cs)::f7 B:=aJ rfl
theorem qCD(B:az):f7 (none::B)=none::f7 B:=aJ rfl
theorem W4:AV.clrs []=[]:=by simp only[AV.clrs]
theorem qCB(v:AV)(r:aG):AV.clrs (v::r)=v.clr::AV.clrs r:=by simp only[AV.clrs]
attribute [simp] S1 SP qCD W4 qCB
def IS(c:cf)(lin:Nat->ae)(T:ae)(d:Bool)(L:Nat)(fs:dZ)(o:bZ):bZ:=o.bind (ew c lin T d L fs)
def Pg(c:cf)(lin:Nat->ae)(T:ae)(d:Bool)(L:Nat)(f:FOper)(fs:dZ)(o:bZ):bZ:=o.bind fun s=>IS c lin T d L fs (je T f s)
def HR(T:ae)(a d3 sz:Nat)(ok:Bool)(s:XS)(v:a8)(lo hi:Option a8):bZ:=
 match v,lo,hi with
 |some (.d (.sl g xs)),some lo,some hi=>
  if ok=true/\xs.all (fun e=>e.cells.length=sz)then
   (hZ xs.length hi).bind fun h=>(gL h lo).map fun l=>a9 T ⟨(a,.d (.sl g (fR xs l h)))::s.r,s.B⟩ (some d3) (.d (.sl .sub ((xs.take h).drop l)))
  else none
 |_,_,_=>none
def wa(T:ae)(d4 sz:Nat)(s:XS)(b off:Nat)(cs:aG)(g:Tag)(xs:aw)(k:Nat)(e:cP):bZ:=
 match e with
 |some (.agg es)=>if es.length=sz then some (a9 T ⟨s.r,s.B.set b (some (cs.set off (.d (.sl g (xs.set k (DV.agg es).clr)))))⟩ (some d4) (.d (.agg es)))else none
 |_=>none
def AZ(T:ae)(d4 sz:Nat)(s:XS)(b off:Nat)(cs:aG)(k:Nat)(v:a8):bZ:=
 match v with
 |some (.d (.sl g xs))=>wa T d4 sz s b off cs g xs k (xs[k]?)
 |_=>none
def EC(T:ae)(d4 sz:Nat)(ok:Bool)(s:XS)(v w:a8):bZ:=
 match v,w with
 |some (.ptr b off),some (.d (.int _ k))=>if ok=true/\0<=k/\sz≠0 then(b5 s.B b).bind fun cs=>AZ T d4 sz s b off cs k.toNat (cs[off]?)else none
 |_,_=>none
theorem Xg(c:cf)(lin:Nat->ae)(T:ae)(d:Bool)(L:Nat)(f:FOper)(fs:dZ)(s:XS):ew c lin T d L (f::fs) s=Pg c lin T d L f fs (a7 c lin T d L f.pre s):=aJ rfl
theorem Vp(c:cf)(lin:Nat->ae)(T:ae)(d:Bool)(L:Nat)(s:XS):ew c lin T d L [] s=some s:=aJ rfl
theorem q8e(c:cf)(lin:Nat->ae)(T:ae)(d:Bool)(L:Nat)(f:FOper)(fs:dZ)(s:XS):Pg c lin T d L f fs (some s)=IS c lin T d L fs (je T f s):=aJ rfl
theorem YO(c:cf)(lin:Nat->ae)(T:ae)(d:Bool)(L:Nat)(fs:dZ)(s:XS):IS c lin T d L fs (some s)=ew c lin T d L fs s:=aJ rfl
theorem q3Q(T:ae)(o:VOper)(s:XS):je T (.one o) s=some s:=aJ rfl
theorem TR(T:ae)(d1 a d2:Nat)(b:VX)(d3 sz:Nat)(lo hi:nW)(f1 f2 f3:ae)(s:XS):je T (.sl d1 a d2 b d3 sz lo hi f1 f2 f3) s=HR T a d3 sz (decide (T.contains a=true/\T.contains d3=true/\d1≠a/\d2≠a/\d1≠d2)) s (lk s.r a) (eJ s.r lo) (eJ s.r hi):=by simp only[je,HR,cB];rfl
theorem q38(T:ae)(a d3 sz:Nat)(ok:Bool)(s:XS)(g:Tag)(xs:aw)(lo hi:a8):HR T a d3 sz ok s (some (.d (.sl g xs))) (some lo) (some hi)=if ok=true/\xs.all (fun e=>e.cells.length=sz)then
 (hZ xs.length hi).bind fun h=>(gL h lo).map fun l=>a9 T ⟨(a,.d (.sl g (fR xs l h)))::s.r,s.B⟩ (some d3) (.d (.sl .sub ((xs.take h).drop l)))
 else none:=aJ rfl
theorem S_(T:ae)(d1 q d2:Nat)(b:VX)(d3 sz d4:Nat)(f1 f2 f3 f4:ae)(s:XS):je T (.el d1 q d2 b d3 sz d4 f1 f2 f3 f4) s=EC T d4 sz (decide (T.contains d4=true/\d1≠q/\d2≠q/\d3≠q/\d1≠d2/\d3≠d2)) s (lk s.r q) (lk s.r d2):=by simp only[je,EC,AZ,wa,cB];rfl
theorem P1(T:ae)(d4 sz:Nat)(ok:Bool)(s:XS)(b off:Nat)(a:IntKind)(k:Int):EC T d4 sz ok s (some (.ptr b off)) (some (.d (.int a k)))=if ok=true/\0<=k/\sz≠0 then(b5 s.B b).bind fun cs=>AZ T d4 sz s b off cs k.toNat (cs[off]?)else none:=aJ rfl
theorem V_(T:ae)(d4 sz:Nat)(s:XS)(b off:Nat)(cs:aG)(k:Nat)(g:Tag)(xs:aw):AZ T d4 sz s b off cs k (some (.d (.sl g xs)))=wa T d4 sz s b off cs g xs k (xs[k]?):=aJ rfl
theorem qXh(T:ae)(d4 sz:Nat)(s:XS)(b off:Nat)(cs:aG)(g:Tag)(xs:aw)(k:Nat)(es:aw):wa T d4 sz s b off cs g xs k (some (.agg es))=if es.length=sz then some (a9 T ⟨s.r,s.B.set b (some (cs.set off (.d (.sl g (xs.set k (DV.agg es).clr)))))⟩ (some d4) (.d (.agg es)))else none:=aJ rfl
theorem qC8(X:XEnv)(T:ae)(na:Nat)(live:ae)(fs:dZ)(r:aI)(B:az):
 aS X T (.regionF false na live fs) ⟨r,B⟩=bu live (ew (aj X) X.lin T false B.length fs ⟨r,B++List.replicate na none⟩):=by
 rw[Ox];simp[ku,bu,mf]
theorem qSB(X:XEnv)(T:ae)(na:Nat)(live:ae)(fs:dZ)(h:vP (iw fs)=true)(r:aI)(B:az):
 aS X T (.regionF true na live fs) ⟨r,B⟩=bu live (ew (aj X) X.lin T true B.length fs ⟨r,B++List.replicate na none⟩):=by
 rw[Ox];simp[ku,bu,mf,h]
def CV(live:ae)(t:Nat)(s1:XS)(a b c:a8):dK:=
 match a,b,c with
 |some (.d (.sl (.own [] 0) xs)),some (.d (.int _ k)),some (.d (.int e v))=>if 0<=k/\k<xs.length/\xs.all (dc e)=true/\live.contains t=false/\oJ xs (keep s1.r live)=true/\mn xs s1.B=true then some (.normal,⟨(t,.d (.sl U (xs.set k.toNat (.int e v))))::keep s1.r live,s1.B⟩)else none
 |_,_,_=>none
def FW(live:ae)(t:Nat)(i x:VX)(o:bZ):dK:=
 match o with
 |some s=>CV live t s (lk s.r t) (bm s.r i) (bm s.r x)
 |none=>none
theorem X9(live:ae)(t:Nat)(i x:VX)(s:XS):FW live t i x (some s)=CV live t s (lk s.r t) (bm s.r i) (bm s.r x):=aJ rfl
theorem SQ(live:ae)(t:Nat)(s1:XS)(xs:aw)(e a:IntKind)(k v:Int):CV live t s1 (some (.d (.sl U xs))) (some (.d (.int e k))) (some (.d (.int a v)))=
 if 0<=k/\k<xs.length/\xs.all (dc a)=true/\live.contains t=false/\oJ xs (keep s1.r live)=true/\mn xs s1.B=true then some (.normal,⟨(t,.d (.sl U (xs.set k.toNat (.int a v))))::keep s1.r live,s1.B⟩)else none:=aJ rfl
theorem Om(X:XEnv)(T:ae)(na:Nat)(live:ae)(pre:ak)(t t1:Nat)(i x:VX)(d:Nat)(f1 f2:ae)(h:rq t t1 pre=true)(r:aI)(B:az):
 aS X T (.regionS na live pre t t1 i x d f1 f2) ⟨r,B⟩=FW live t i x (a7 (aj X) X.lin T false B.length pre ⟨r,B++List.replicate na none⟩):=by
 rw[qrX];unfold rm;rw[aC (by rw[h];simp)];simp only;cases a7 (aj X) X.lin T false B.length pre ⟨r,B++List.replicate na none⟩with
 |none=>rfl
 |some s=>
  simp only[bO,FW,HA,CV];generalize lk s.r t=a;generalize bm s.r i=b;generalize bm s.r x=c;split
  ·split<;>simp_all
  ·next h=>
   split
   ·exact(h _ _ _ _ _ rfl rfl rfl).elim
   ·rfl
attribute [simp] X9 SQ
attribute [simp] Xg Vp q8e YO q3Q TR q38 S_ P1 V_ qXh qC8 FOper.pre
attribute [simp] H5 Wn Xe ZX SL q3U UX TH qSz Q_ Uy Uf FJ qC7 Us qSC P7 q3S YF Rb Xq Y3 VI U6 qA4 q33 Wx q30 Qu qW0 R6 qvt S8 Ue Za Qa YE qSw WI q3Y WB qWS Vl qWQ qvr Va Tv RB ZN qWX TP UD Wk Ud qvs R4 VB qSx PX RJ Rc Zc WZ Tl qBK Uv TA XP RH qXl TI Qr Z7 Vu qS0 qMw qCd YG Z6 HK qXj V3 Zs Rn U5 qXn w_n Sg qXk w_T SB q8n P3 Q1 QZ Ty qOC Se V5 QK Yo q2D Vg Xd To VG q6v PM TM WT Sx XJ qCl qxC qCk Su Xi Ul q2C PO VU T2 q8K qVv q6s VH q2H ZA qVx Q4 Zy Yj Qz q6u q2I YW Yh Yz Wi XB Wa Yb Ts qJN qJM QW PI Vx Yg WU qJH UM Xj Y5 Vr WM UN UV P4 Z9 ZY QS Ui V7 Z8 q29 q3a q3c qVU qOO qVS qVT JE qOS Lf Ov Wg UZ q3g PS Qd Tp qKJ R_ S9 Qg qBa ZO Oi qsr Wv VQ SN qCm U2 qUC Xn S7 Q9 Sy qr2 T4 f8 Cn G0 qS uK pA eK b5 nT qK aW
theorem It(q:Ex×XS)(k:XS->dK)(h:q.1≠.normal):ol (some q) k=some q:=by
 obtain⟨e,s'⟩:=q;cases e with
 |normal=>exact absurd rfl h
 |exit id=>rfl
 |ret=>rfl
variable{β γ:Type}
def Bj(L:Nat)(live:ae)(st:β->Nat->XS)(R:γ->Ex×XS)(i:Nat)(o:dK):β⊕γ->Prop
 | .inl a'=>∃s',o=some (.normal,s')/\aA L live s'=some (st a' (i+1))
 | .inr r=>(R r).1≠.normal/\o=some (R r)
variable{b:VCode}
theorem ey{T:ae}{L:Nat}{st:β->Nat->XS}{step:β->Nat->β⊕γ}{F:β->Ex×XS}{R:γ->Ex×XS}(Inv:β->Nat->Prop)
 (j:∀a,Inv a n->(F a).1≠.normal/\aS X T b (st a n)=some (F a))
 (e:∀a i,i<n->Inv a i->Bj L live st R i (aS X T b (st a i)) (step a i)/\∀a',step a i= .inl a'->Inv a' (i+1)):
 ∀(k:Nat) (a:β) (i:Nat) (s:XS),i+k=n->Inv a i->aA L live s=some (st a i)->bq X T L live b s=some (match runN step k a i with| .inl a'=>F a'| .inr r=>R r)
 |0,a,i,s,w,hi,u=>by
  have:i=n:=by omega
  subst this;obtain⟨o,t⟩:=j a hi;rw[pH,u];simp only[bO,t,runN];exact It _ _ o
 |k+1,a,i,s,w,hi,u=>by
  obtain⟨h,l⟩:=e a i (by omega) hi;rw[pH,u];simp only[bO,runN];generalize step a i=q at h l;cases q with
  |inl a'=>obtain⟨s',o,t⟩:=h;have x:=ey Inv j e k a' (i+1) s' (by omega) (l a' rfl) t;rw[o];exact x
  |inr r=>obtain⟨o,t⟩:=h;rw[t];exact It _ _ o
theorem bG{T:ae}{L:Nat}{st:β->Nat->XS}{step:β->Nat->β⊕γ}{F:β->Ex×XS}{R:γ->Ex×XS}
 (h:∀a,(F a).1≠.normal/\aS X T b (st a n)=some (F a))
 (e:∀a i,i<n->Bj L live st R i (aS X T b (st a i)) (step a i)) (k:Nat) (a:β) (i:Nat) (s:XS) (j:i+k=n) (l:aA L live s=some (st a i)):
 bq X T L live b s=some (match runN step k a i with| .inl a'=>F a'| .inr r=>R r):=
 ey (fun _ _=>True) (fun a _=>h a) (fun a i hi _=>⟨e a i hi,fun _ _=>trivial⟩) k a i s j trivial l
variable{s0:XS}
theorem d_{T:ae}{L:Nat}{s':XS}(h:aA L live s=some s0)(a:aS X T b s0=some (.normal,s')):bq X T L live b s=bq X T L live b s':=by rw[pH,h];simp only[bO,a];rfl
theorem dX{T:ae}{L:Nat}{q:Ex×XS}(h:aA L live s=some s0)(e:aS X T b s0=some q)(a:q.1≠.normal):bq X T L live b s=some q:=by rw[pH,h];simp only[bO,e];exact It _ _ a
end Go.Proofs.YtpcoohnjllclnaaGreat.VS
