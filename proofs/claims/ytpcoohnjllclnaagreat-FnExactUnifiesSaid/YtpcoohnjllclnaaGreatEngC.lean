/- The engine, part 5: a call of the program answers what an evaluator of values without memory answers, for the functions whose code is the one that the evaluator is given. -/
import Derived.Test.YtpcoohnjllclnaaGreatEngE
set_option linter.unusedSimpArgs false
set_option linter.unusedVariables false
namespace Go.Proofs.YtpcoohnjllclnaaGreat.VS
open Classical
variable{v':AV}{B' B:az}{k n:Nat}{rs:jn}{v:DV}{A:Ids}{sf:SFn}{lin:Nat->ae}{V:ci}{ds:aw}{X:XEnv}
section
variable {A0:Ids} {T:ae} {F:Id->Prop} {p:Id} {sx:XS} {sv:St}
structure Back(F:Id->Prop)(p:Id)(A0:Ids)(v':AV)(B':az)(r:Res):Prop where
 fit:v'.fit r.v
 boxes:qbL B' r.B
 held:Held F (fun _=>False) r.A (aU [(0,v')] B' [(0,r.v)] r.B)
 am:∀a,r.A a=true->A0 a=true\/Fut p 0 a
theorem Rel.back(h:Rel A0 T F p k sx sv){l:az}(I:qbL B' l)(q:∀j,(bH B' l j).Sublist (bH sx.B sv.B j)){u:AV}(J:v'.fit u){A':Ids}
 (x:(v'.own u).Nodup) (o:∀a,a∈v'.own u->A' a=true/\¬F a/\∀j,a∉bH B' l j) (C:∀a,sv.A a=true->A' a=true) (y:∀a,A' a=true->A0 a=true\/Fut p 0 a):
 Back F p A0 v' B' ⟨u,A',l⟩:=by
 refine⟨J,I,⟨fun ℓ=> ?_,fun ℓ ℓ' a i e=> ?_,fun ℓ a i=> ?_,fun a i=>⟨C a (h.held.fr a i).1,id⟩⟩,y⟩
 ·cases ℓ with
  |reg t=>simp only[aU,f0];split
          ·exact x
          ·simp
  |box j=>exact(h.held.nodup (.box j)).sublist (q j)
 ·cases ℓ with
  |reg t=>
   simp only[aU,f0]at i;split at i
   ·rename_i w;subst w
    cases ℓ' with
    |reg G=>
     simp only[aU,f0]at e;split at e
     ·rename_i w;subst w;rfl
     ·simp at e
    |box j=>exact absurd e ((o a i).2.2 j)
   ·simp at i
  |box j=>
   cases ℓ' with
   |reg G=>
    simp only[aU,f0]at e;split at e
    ·exact absurd i ((o a e).2.2 j)
    ·simp at e
   |box z=>have:=h.held.apart (.box j) (.box z) a ((q j).subset i) ((q z).subset e);exact this
 ·cases ℓ with
  |reg t=>
   simp only[aU,f0]at i;split at i
   ·exact⟨(o a i).1,(o a i).2.1,id⟩
   ·simp at i
  |box j=>obtain⟨D,H,_⟩:=h.held.opn (.box j) a ((q j).subset i);exact⟨C a D,H,id⟩
theorem k7(B e:az)(n j:Nat):(bH (B.take n) (e.take n) j).Sublist (bH B e j):=by
 simp only[bH,w_]
 by_cases a:j<n
 ·simp[a]
 ·simp[a]
theorem qS0(h:Rel A0 T F p k sx sv){r:VRes}{v:AV}(e:tx sx r=some v):∃u,pC sv r=some u/\v.fit u/\∀a,a∈v.own u->∃t,r= .tmp t/\T.contains t=true/\a∈br sx.r sv.r t:=by
 cases r with
 |tmp t=>
  simp only[tx]at e;obtain⟨u,l,o⟩:=h.regs t v e;refine⟨u,l,o,fun a j=>⟨t,rfl,?_,?_⟩⟩
  ·cases ht:T.contains t with
   |true=>rfl
   |false=>
    have:=h.nl t ht;unfold br at this;rw[e,l]at this;simp only at this
    rw[this]at j;simp at j
  ·unfold br;rw[e,l];exact j
 |cell t agg sz=>
  simp only[tx]at e;split at e
  ·rename_i i off l
   obtain⟨w,o,rfl⟩:=aN.1 e;obtain⟨u,cs,ds,C,z,_⟩:=yB h.boxes o;obtain⟨x,y,q⟩:=h.regs t _ l;simp only[AV.fit]at q;subst q
   exact⟨u,by simp only[pC,y,C],AV.qc8 _ _ z,fun a j=>by rw[AV.qbM]at j;simp at j⟩
  ·simp at e
theorem uX(h:Rel A0 T F p k sx sv):∀(rs:jn) (vs:aH),c9 T (rs.flatMap VRes.vx)=true->qz sx rs=some vs->∃us,rf sv rs=some us/\AV.fits vs us/\(AV.owns vs us).Nodup/\
 (∀a,a∈AV.owns vs us->∃t,VX.t t∈rs.flatMap VRes.vx/\T.contains t=true/\a∈br sx.r sv.r t)/\(∀a,a∈AV.owns vs us->sv.A a=true/\¬F a/\∀j,a∉bH sx.B sv.B j)
 | [],vs,_,hx=>by simp[qz]at hx;subst hx;exact⟨[],rfl,by simp[AV.fits],by simp[AV.owns],by simp[AV.owns],by simp[AV.owns]⟩
 |r::rs,vs,C,hx=>by
  simp only[qz]at hx;obtain⟨v,q,J⟩:=aK.1 hx;obtain⟨D,R,rfl⟩:=aN.1 J;obtain⟨u,z,M,l⟩:=qS0 h q;have x:c9 T (rs.flatMap VRes.vx)=true:=by
   cases r with
   |tmp t=>exact(pY (by simpa[VRes.vx]using C)).2
   |cell t a s=>simpa[VRes.vx]using C
  obtain⟨us,P,K,O,G,Y⟩:=uX h rs D x R;refine⟨u::us,by simp[rf,z,P],by simp only[AV.fits];exact⟨_,_,rfl,M,K⟩,?_,fun a e=> ?_,fun a e=> ?_⟩
  ·simp only[AV.owns]
   rw[cL];refine⟨?_,O,fun a e b N I=> ?_⟩
   ·cases r with
    |tmp t=>
     have:=h.held.nodup (.reg t);simp only[aU,br]at this;simp only[tx]at q;simp only[pC]at z
     rw[q,z]at this;exact this
    |cell t ag s=>
     have:v.own u=[]:=List.eq_nil_iff_forall_not_mem.2 fun a e=>by obtain⟨H,i,_⟩:=l a e;simp at i
     rw[this];simp
   ·subst I
    obtain⟨t,rfl,o,i⟩:=l a e;obtain⟨H,y,x1,w⟩:=G a N;have:=h.held.apart (.reg t) (.reg H) a i w;simp at this;subst this
    exact(pY (by simpa[VRes.vx]using C)).1 t rfl o y
  ·simp only[AV.owns,bu]at e
   rcases e with e|e
   ·obtain⟨t,rfl,o,i⟩:=l a e
    exact⟨t,by simp[VRes.vx],o,i⟩
   ·obtain⟨t,y,w⟩:=G a e
    exact⟨t,by simp only[mt,bu];exact .inr y,w⟩
  ·simp only[AV.owns,bu]at e
   rcases e with e|e
   ·obtain⟨t,rfl,o,i⟩:=l a e
    obtain⟨Q,S,q3⟩:=h.held.opn (.reg t) a i;exact⟨Q,S,fun j Z=>by have:=h.held.apart (.reg t) (.box j) a i Z;simp at this⟩
   ·exact Y a e
theorem R7(h:Rel A0 T F p sv.c sx sv){L:Nat}(S:c9 T (rs.flatMap VRes.vx)=true)(hx:CJ L sx rs=some (v',B')):
 ∃r,finish L p sv rs=some r/\Back F p A0 v' B' r:=by
 have C:∀a,sv.A a=true->A0 a=true\/Fut p 0 a:=fun a e=>(h.am a e).2
 have many:∀vs ds,qz sx rs=some vs->bd vs=some ds->∃us es,rf sv rs=some us/\AV.fits vs us/\bd us=some es/\us=es.map .d/\Back F p A0 (.d (.tup ds)) (sx.B.take L) ⟨.d (.tup es),sv.A,sv.B.take L⟩:=by
  intro vs ds z Q;obtain⟨us,w,o,q,K,D⟩:=uX h rs vs S z;obtain⟨es,J,e2,e3⟩:=qT Q o;have x2:us=es.map .d:=by
   clear w o q K D e2 e3
   induction us generalizing es with
   |nil=>simp[bd]at J;subst J;rfl
   |cons u us ih=>
    cases u with
    |d d=>simp only[bd]at J;obtain⟨Z,G,rfl⟩:=aN.1 J;rw[ih Z G];rfl
    |_=>simp[bd]at J
  refine⟨us,es,w,o,J,x2,h.back (h.boxes.take L) (k7 _ _ L) (by simp only[AV.fit,DV.fit];exact⟨_,rfl,_,rfl,e2⟩) (by simp only[AV.own,DV.own];rw[<-e3];exact q) (fun a e=> ?_) (fun a e=>e) C⟩;simp only[AV.own,DV.own]at e;rw[<-e3]at e;obtain⟨M,R,N⟩:=D a e;exact⟨M,R,fun j t=>N j ((k7 _ _ L j).subset t)⟩
 unfold CJ at hx;split at hx
 ·rename_i v z
  simp at hx;obtain⟨rfl,rfl⟩:=hx
  obtain⟨us,w,o,q,K,D⟩:=uX h rs _ S z;simp only[AV.fits]at o;obtain⟨u,_,rfl,l,rfl⟩:=o;simp only[AV.fit]at l;obtain⟨y,rfl,x1⟩:=l;simp only[AV.owns,cR]at q D;refine⟨_,by unfold finish;rw[w],h.back (h.boxes.take L) (k7 _ _ L) (by simp only[AV.fit];exact⟨_,rfl,x1⟩) q (fun a e=> ?_) (fun a e=>e) C⟩;obtain⟨M,R,N⟩:=D a e;exact⟨M,R,fun j t=>N j ((k7 _ _ L j).subset t)⟩
 ·rename_i i off z
  simp at hx;obtain⟨rfl,rfl⟩:=hx
  obtain⟨us,w,o,q,K,D⟩:=uX h rs _ S z;simp only[AV.fits]at o;obtain⟨u,_,rfl,l,rfl⟩:=o;simp only[AV.fit]at l;subst l;exact⟨_,by unfold finish;rw[w],h.back h.boxes (fun j=>ct _) (by simp[AV.fit]) (by simp[AV.own]) (by simp[AV.own]) (fun a e=>e) C⟩
 ·rename_i id agg i sz n z
  split at hx
  ·rename_i hc
   obtain⟨cs,Q,G⟩:=aK.1 hx;obtain⟨bs,h4,h5⟩:=aK.1 Q;split at G
   ·rename_i O
    obtain⟨xs,h6,h7⟩:=aN.1 G;simp at h7;obtain⟨rfl,rfl⟩:=h7
    obtain⟨us,w,o,q,K,D⟩:=uX h rs _ S z;simp only[AV.fits]at o;obtain⟨u,_,rfl,l,rfl⟩:=o;simp only[AV.fit]at l;obtain⟨b1,rfl⟩:=l;obtain⟨ds,M,R⟩:=h.boxes.get h4;obtain⟨es,N,q4,q5⟩:=qT h5 R;obtain⟨ys,q6,q7,q8,q9,x3⟩:=Ff agg sz n cs es xs q4 h6;have P:bH sx.B sv.B i=DV.owns cs es:=by unfold bH;rw[h4,M];exact q5
    have H:∀a,a∈DV.owns xs ys->a∈aU sx.r sx.B sv.r sv.B (.box i):=fun a e=>by simp only[aU];rw[P];exact q9.subset e
    have I:¬sv.A (sv.c::p)=true:=fun e=>(h.am _ e).1 (Fut.self p _)
    refine⟨⟨.d (.sl (.own (sv.c::p) sz) ys),Ids.add (sv.c::p) sv.A,sv.B.take L⟩,?_,?_⟩
    ·unfold finish
     rw[w];simp only;rw[ay hc,M];simp only[bO,N];rw[ay (by rw[<-DV.qao q4];exact O),q6];rfl
    ·refine h.back (h.boxes.take L) (k7 _ _ L) ?_ ?_ (fun a e=> ?_) (fun a e=>by simp[Ids.add,e]) (fun a e=> ?_)
     ·simp only[AV.fit,DV.fit]
      refine⟨_,rfl,_,_,rfl,q7,.inr ⟨rfl,?_⟩⟩
      by_cases hn:xs.length=0
      ·exact .inl ⟨hn,.inr ⟨_,_,rfl⟩⟩
      ·exact .inr ⟨hn,_,_,rfl,q8⟩
     ·simp only[AV.own,DV.own]
      rw[cL];refine⟨by split<;>simp[Tag.ids],((h.held.nodup (.box i)).sublist (by simp only[aU];rw[P];exact q9)),fun a e b hb he=> ?_⟩;split at e<;>simp[Tag.ids]at e
      subst e;subst he
      exact I (h.held.opn _ _ (H _ hb)).1
     ·simp only[AV.own,DV.own,bu]at e
      rcases e with e|e
      ·split at e<;>simp[Tag.ids]at e
       subst e;refine⟨by simp[Ids.add],fun hF=>I (h.held.fr _ hF).1,fun j t=> ?_⟩;exact I (h.held.opn (.box j) _ ((k7 _ _ L j).subset t)).1
      ·obtain⟨z1,z2,_⟩:=h.held.opn _ a (H a e)
       refine⟨by simp[Ids.add,z1],z2,fun j t=> ?_⟩;have:=h.held.apart (.box i) (.box j) a (H a e) ((k7 _ _ L j).subset t);simp at this;subst this
       simp only[bH,w_]at t;rw[aD (by omega)]at t;simp at t
     ·simp only[Ids.add,iV,cA]at e
      rcases e with rfl|e
      ·exact .inr ((Fut.self p _).le (c7 _))
      ·exact C a e
   ·simp at G
  ·simp at hx
 ·simp at hx
 ·rename_i vs a3 a1 a2 Y z
  obtain⟨ds,Q,G⟩:=aN.1 hx;simp at G;obtain⟨rfl,rfl⟩:=G
  obtain⟨us,es,w,o,q,K,D⟩:=many vs ds z Q;refine⟨_,?_,D⟩;unfold finish;rw[w]
  match us,o with
  | [],_=>simp at K;simp[bd]at q;subst q;rfl
  | [u],o=>
   have hl:=AV.qao o
   match vs,hl with
   | [x],_=>exact absurd rfl (Y x)
  |u::u'::us,_=>simp only[q,b7]
 ·simp at hx
theorem G0(h:Rel A0 T F p sv.c sx sv){L:Nat}(hd:c9 T (rs.flatMap VRes.vx)=true)(hx:fO L sx rs=some (v',B')):
 ∃r,finish L p sv rs=some r/\Back F p A0 v' B' r:=by
 unfold fO at hx;split at hx
 ·rename_i t agg sz
  unfold FV at hx;split at hx
  ·rename_i i off h1
   split at hx
   ·rename_i hL
    split at hx
    ·rename_i v h2
     simp at hx;obtain⟨rfl,rfl⟩:=hx
     obtain⟨u,cs,ds,h3,K,h5,h6,H,P,h9⟩:=yB h.boxes h2;obtain⟨x,g1,N⟩:=h.regs t _ h1;simp only[AV.fit]at N;subst N
     have o:=K;simp only[AV.fit]at o;obtain⟨y,rfl,hy⟩:=o;have C:bH sx.B sv.B i=AV.owns cs ds:=by unfold bH;rw[h5,h6]
     have l:((AV.d v).own (.d y)).Sublist (AV.owns cs ds):=by rw[P,AV.qbY (AV.qao H) off];refine List.Sublist.trans ?_ (jZ _ _);rw[AV.qbY (a:=cs.drop off) (c:=ds.drop off) (by simp[AV.qao H]) (if agg=true then sz else 1)];exact Fp _ _
     refine⟨_,by unfold finish;simp only[rf,pC,g1,h3,bO,b7],h.back (h.boxes.take L) (k7 _ _ L) K ((h.held.nodup (.box i)).sublist (by simp only[aU];rw[C];exact l)) (fun a e=> ?_) (fun a e=>e) (fun a e=>(h.am a e).2)⟩;have w:a∈aU sx.r sx.B sv.r sv.B (.box i):=by simp only[aU];rw[C];exact l.subset e
     obtain⟨I,J,_⟩:=h.held.opn _ a w;refine⟨I,J,fun j D=> ?_⟩;have:=h.held.apart (.box i) (.box j) a w ((k7 _ _ L j).subset D);simp at this;subst this
     simp only[bH,w_]at D;rw[aD (by omega)]at D;simp at D
    ·simp at hx
   ·simp at hx
  ·simp at hx
 ·rename_i t1 g1 z1 t2 N z2 t3
  unfold G1 at hx;split at hx
  ·rename_i O o1 M o2 b e1 e2 e3
   split at hx
   ·rename_i hL
    obtain⟨x1,S,x3⟩:=hL;split at hx
    ·rename_i v1 v2 l1 l2
     simp at hx;obtain⟨rfl,rfl⟩:=hx
     have one:∀(t i off:Nat) (g:Bool) (z:Nat) (v:DV),lk sx.r t=some (.ptr i off)->aW sx.B g z i off=some (.d v)->∃y,pC sv (.cell t g z)=some (.d y)/\v.fit y/\(v.own y).Sublist (bH sx.B sv.B i):=by
      intro t i off g z v I J;obtain⟨u,cs,ds,h3,K,h5,h6,H,P,h9⟩:=yB h.boxes J;obtain⟨x,r1,r2⟩:=h.regs t _ I;simp only[AV.fit]at r2;subst r2
      have o:=K;simp only[AV.fit]at o;obtain⟨y,rfl,hy⟩:=o;have C:bH sx.B sv.B i=AV.owns cs ds:=by unfold bH;rw[h5,h6]
      have l:((AV.d v).own (.d y)).Sublist (AV.owns cs ds):=by rw[P,AV.qbY (AV.qao H) off];refine List.Sublist.trans ?_ (jZ _ _);rw[AV.qbY (a:=cs.drop off) (c:=ds.drop off) (by simp[AV.qao H]) (if g=true then z else 1)];exact Fp _ _
      exact⟨y,by simp only[pC,r1,h3],hy,by rw[C];exact l⟩
     obtain⟨y1,a1,a2,Y⟩:=one t1 O o1 g1 z1 v1 e1 l1;obtain⟨y2,b1,b2,R⟩:=one t2 M o2 N z2 v2 e2 l2;obtain⟨x,c1,c2⟩:=h.regs t3 _ e3;simp only[AV.fit]at c2;obtain⟨y3,rfl,c3⟩:=c2;have Q:y3= .bool b:=by simpa only[DV.fit]using c3
     subst Q;have G:DV.owns [v1,v2,.bool b] [y1,y2,.bool b]=v1.own y1++(v2.own y2++[]):=by simp only[DV.owns,DV.own,cR]
     have good:∀i a,L<=i->a∈bH sx.B sv.B i->sv.A a=true/\¬F a/\∀j,a∉bH (sx.B.take L) (sv.B.take L) j:=fun i a hi e=>by
      have w:a∈aU sx.r sx.B sv.r sv.B (.box i):=e;obtain⟨I,J,_⟩:=h.held.opn _ a w;refine⟨I,J,fun j D=> ?_⟩;have:=h.held.apart (.box i) (.box j) a w ((k7 _ _ L j).subset D);simp at this;subst this
      simp only[bH,w_]at D;rw[aD (by omega)]at D;simp at D
     have Z:pC sv (.tmp t3)=some (au b):=c1;refine⟨⟨.d (.tup [y1,y2,.bool b]),sv.A,sv.B.take L⟩,by unfold finish;simp only[rf,a1,b1,Z,bO,b7,bd],h.back (h.boxes.take L) (k7 _ _ L) ?_ ?_ (fun a e=> ?_) (fun a e=>e) (fun a e=>(h.am a e).2)⟩
     ·simp only[AV.fit,DV.fit,DV.fits]
      exact⟨_,rfl,_,rfl,_,_,rfl,a2,_,_,rfl,b2,_,_,rfl,rfl,rfl⟩
     ·simp only[AV.own,DV.own,G,cR]
      rw[cL];refine⟨(h.held.nodup (.box O)).sublist Y,(h.held.nodup (.box M)).sublist R,fun q hq q' x2 he=> ?_⟩;subst he;have:=h.held.apart (.box O) (.box M) q (Y.subset hq) (R.subset x2);simp at this;exact x3 this
     ·simp only[AV.own,DV.own,G,cR,bu]at e
      rcases e with e|e
      ·exact good O a x1 (Y.subset e)
      ·exact good M a S (R.subset e)
    ·simp at hx
   ·simp at hx
  ·simp at hx
 ·exact R7 h hd hx
theorem vm{x:DV}(h:x.fit v):v.flat=x.flat:=by
 cases x<;>simp only[DV.fit]at h
 case agg cs=>obtain⟨ds,rfl,a⟩:=h;rfl
 case sl g xs=>
  obtain⟨g',i,rfl,a,j⟩:=h;cases xs with
  |nil=>simp only[DV.fits]at a;subst a;rfl
  |cons x r=>simp only[DV.fits]at a;obtain⟨y,e,rfl,_,_⟩:=a;rfl
 case tup cs=>obtain⟨ds,rfl,a⟩:=h;rfl
 all_goals subst h;rfl
theorem qBc{sx:XS}{sv:St}(h:Rel A0 T F p k sx sv){y:DV×DV}(hy:ta sx=some y):
 ∃a,Eh sv=some a/\y.1.fit a.1/\y.2.fit a.2/\y.1.own a.1=[]/\y.2.own a.2=[]:=by
 unfold ta at hy;split at hy
 ·rename_i x0 R S Y z1 z2 O D e3
  split at hy
  ·rename_i hc
   simp only[ca]at hy;subst hy
   obtain⟨v3,M,o⟩:=h.regs 3 _ O;obtain⟨v4,G,w⟩:=h.regs 4 _ D;simp only[AV.fit]at o w;subst o;subst w
   have e:=h.boxes;rw[e3]at e;obtain⟨c0,l,t⟩:=(e.2 0).2 _ rfl;obtain⟨Z,j,q⟩:=(e.2 1).2 _ rfl;simp only[AV.fits,AV.fit]at t q;obtain⟨_,_,rfl,⟨u,rfl,i⟩,_,_,rfl,⟨x,rfl,f1⟩,K,_,rfl,_,rfl⟩:=t;obtain⟨_,_,rfl,⟨J,rfl,Q⟩,_,_,rfl,⟨C,rfl,N⟩,_,_,rfl,⟨z,rfl,P⟩,rfl⟩:=q;have H:sv.B=[some [.d u,.d x,K],some [.d J,.d C,.d z]]:=by
    have I:=e.1
    match hs:sv.B,I with
    | [m,n],_=>rw[hs]at l j;simp at l j;subst l;subst j;rfl
   refine⟨(u,x),?_,DV.qc8 _ _ i,DV.qc8 _ _ f1,DV.qbM _ _,DV.qbM _ _⟩;unfold Eh;rw[M,G,H];simp only;rw[vm i,vm f1,vm Q,vm N,vm P,DV.qeJ i,DV.qeJ f1,ay hc]
  ·simp at hy
 ·simp at hy
theorem KG:∀{xs vs:aw},DV.fits xs vs->DV.fits (xs.flatMap DV.cells) (vs.flatMap DV.cells)/\DV.owns (xs.flatMap DV.cells) (vs.flatMap DV.cells)=DV.owns xs vs
 | [],vs,h=>by simp only[DV.fits]at h;subst h;simp[DV.fits,DV.owns]
 |x::xs,vs,h=>by simp only[DV.fits]at h;obtain⟨v,vs,rfl,a,i⟩:=h;obtain⟨e,j⟩:=KG i;simp only[mt];exact⟨DV.qa5 (DV.qbd a) e,by rw[DV.qaY (DV.qao (DV.qbd a)),DV.qdD a,j];simp only[DV.owns]⟩
theorem Un{X:b_}(R:jk X V lin){a:Id}{sz:Nat}{x y:DV}{xr w:aw}{q:Id}
 (Z:x.fit y) (h2:DV.fits xr w) (Q:∀b,b∈a::DV.owns (x::xr) (y::w)->A b=true/\¬Fut q 0 b) (G:(a::DV.owns (x::xr) (y::w)).Nodup)
 (x1:∀e:DV,e∈y::w->e.cells.length=sz) {r:aw} (hx:jh X sf x xr=some r):
 ∃D J,tO V q sf A a y w=some (D,Ids.add a J)/\DV.fits r D/\r.length=xr.length+1/\(∀e:DV,e∈D->e.cells.length=sz)/\(a::DV.owns r D).Nodup/\(∀b,b∈DV.owns r D->J b=true)/\(∀b,J b=true->b∈DV.owns (x::xr) (y::w)\/Fut q 0 b):=by
 unfold jh at hx;split at hx
 ·rename_i hu
  have hf:DV.fits (x::xr) (y::w):=by simp only[DV.fits];exact⟨_,_,rfl,Z,h2⟩
  obtain⟨l,a1,z⟩:=Cl _ _ hf hu;obtain⟨c1,c2⟩:=KG hf;rw[Ai]at G;split at hx
  ·rename_i v cs K
   obtain⟨es,d1,hx⟩:=aK.1 hx;split at hx
   ·rename_i O
    have x2:AV.fits [AV.tsl true 0 x.cells.length (xr.length+1),.fn sf.cmp []] [AV.tsl true 0 y.cells.length (w.length+1),.fn sf.cmp []]:=by simp only[AV.fits,AV.fit];rw[DV.qbE Z,<-DV.qao h2];exact⟨_,_,rfl,rfl,_,_,rfl,⟨_,rfl,rfl,by simp[AV.owns]⟩,rfl⟩
    have I:∀j,br (bA 0 [AV.tsl true 0 x.cells.length (xr.length+1),.fn sf.cmp []]) (bA 0 [AV.tsl true 0 y.cells.length (w.length+1),.fn sf.cmp []]) j=[]:=by
     intro j;rw[sV]
     match j with
     |0=>simp[AV.own]
     |1=>simp[AV.own]
     |j+2=>simp
    have S:∀j,bH [some (((x::xr).flatMap DV.cells).map AV.d)] [some (((y::w).flatMap DV.cells).map AV.d)] j=if j=0 then DV.owns (x::xr) (y::w)else []:=by
     intro j;unfold bH cd
     match j with
     |0=>simp only[nY,if_true];show AV.owns _ _=_;rw[AV.qqu,c2]
     |j+1=>simp
    have C:∀ℓ b,b∈aU (bA 0 [AV.tsl true 0 x.cells.length (xr.length+1),.fn sf.cmp []]) [some (((x::xr).flatMap DV.cells).map AV.d)] (bA 0 [AV.tsl true 0 y.cells.length (w.length+1),.fn sf.cmp []]) [some (((y::w).flatMap DV.cells).map AV.d)] ℓ->ℓ= .box 0/\b∈DV.owns (x::xr) (y::w):=by
     intro ℓ b o;cases ℓ with
     |reg t=>simp only[aU,I]at o;simp at o
     |box j=>
      simp only[aU,S]at o;split at o
      ·rename_i hj;subst hj;exact⟨rfl,o⟩
      ·simp at o
    obtain⟨u,P,J,hV,_,M,hh,h5⟩:=R _ _ _ _ _ K q _ [some (((y::w).flatMap DV.cells).map AV.d)] (fun b=>l.contains b) (fun _=>False) x2
     ⟨rfl,fun i=>by
      match i with
      |0=>exact⟨by simp,fun cs hc=>by simp at hc;subst hc;exact⟨_,rfl,by have:=AV.qqv c1;simpa using this⟩⟩
      |i+1=>exact⟨by simp,fun cs hc=>by simp at hc⟩⟩
     ⟨fun ℓ=>by
      cases ℓ with
      |reg t=>simp only[aU,I];simp
      |box j=>simp only[aU,S];split
              ·exact G.2
              ·simp,
      fun ℓ ℓ' b o x3=>by rw[(C ℓ b o).1,(C ℓ' b x3).1],
      fun ℓ b o=>⟨by simpa using z.mem_iff.2 (C ℓ b o).2,id,(Q b (jg _ (C ℓ b o).2)).2⟩,fun b o=>by simp at o⟩
     (fun j _=>I j) (fun b o=>by
      have:b∈l:=by simpa using o
      exact(Q b (jg _ (z.mem_iff.1 this))).2)
    obtain⟨ds,e1,e2⟩:=(M.2 0).2 cs rfl;have h4:P=[some ds]:=by
     have hl:=M.1
     match P,hl with
     | [m],_=>simp at e1;subst e1;rfl
    subst h4;obtain⟨a2,d2,d3,d4⟩:=qT d1 e2;obtain⟨D,k1,k2,k3,k4,k5⟩:=Ff _ _ _ _ _ _ d3 hx;have H:∀b,b∈DV.owns r D->J b=true:=fun b o=>(hh.opn (.box 0) b (by simp only[aU,bH,cd];simp only[nY];show b∈AV.owns _ _;rw[d4];exact k4.subset o)).1
    have Y:(DV.owns r D).Nodup:=by have:=hh.nodup (.box 0);simp only[aU,bH,cd,nY]at this;have h':(AV.owns cs ds).Nodup:=this;rw[d4]at h';exact h'.sublist k4
    have N:∀b,J b=true->b∈DV.owns (x::xr) (y::w)\/Fut q 0 b:=fun b o=>(h5 b o).imp_left fun h=>z.mem_iff.1 (by simpa using h)
    refine⟨D,J,?_,k2,k5,fun e he=>by rw[k3 e he,<-DV.qbE Z];exact x1 y (by simp),?_,H,N⟩
    ·unfold tO
     rw[a1,bO,ay ⟨(Q a (by simp)).1,cm.2 fun b o=>(Q b (jg _ (z.mem_iff.1 o))).1,by
      have:¬a∈l:=fun hm=>G.1 (z.mem_iff.1 hm)
      simpa using this⟩,hV]
     simp only[d2,bO];rw[DV.qbE Z,<-DV.qao h2,ay (by rw[<-DV.qao d3];exact O),k1];rfl
    ·rw[Ai]
     refine⟨fun hm=> ?_,Y⟩;rcases N a (H a hm)with h3|h3
     ·exact G.1 h3
     ·exact(Q a (by simp)).2 h3
   ·simp at hx
  ·simp at hx
 ·simp at hx
theorem Q6{X:b_}(H:jk X V lin){T:ae}{p:Id}{es:aw}(hf:DV.fits ds es)
 (Q:sf.pre.linOK T=true) (R:sf.rest.linOK T=true) (O:c9 T (sf.results.flatMap VRes.vx)=true)
 (hz:∀j,br (bA 0 (ds.map .d)) (bA 0 (es.map .d)) j=[])(hx:jY X lin T n sf ds=some v):
 ∃u i,pX V n p sf es=some (u,i)/\v.fit u/\(v.own u).Nodup/\(∀a,a∈v.own u->i a=true)/\∀a,i a=true->Fut p 0 a:=by
 unfold jY at hx;split at hx
 ·simp at hx
 rename_i h5;have x1:=AV.qqv hf;have G:∀ℓ,aU (bA 0 (ds.map AV.d)) [] (bA 0 (es.map AV.d)) [] ℓ=[]:=by
  intro ℓ;cases ℓ with
  |reg t=>exact hz t
  |box j=>simp[aU,bH,cd]
 have h0:Rel Ids.none T (fun _=>False) p (⟨bA 0 (es.map .d),[],Ids.none,0⟩:St).c ⟨bA 0 (ds.map .d),[]⟩ ⟨bA 0 (es.map .d),[],Ids.none,0⟩:=by
  refine⟨fun t x P=> ?_,⟨rfl,by simp⟩,⟨fun ℓ=>by rw[G];simp,fun ℓ ℓ' a o=>by rw[G]at o;simp at o,fun ℓ a o=>by rw[G]at o;simp at o,fun a o=>by simp at o⟩,fun j _=>hz j,fun t P=> ?_,fun a o=>by simp[Ids.none]at o⟩
  ·simp only[mB]at P⊢
   simp only[c7,if_true,pZ]at P⊢
   exact AV.qbZ x1 P
  ·simp only[mB]at P⊢
   simp only[c7,if_true,pZ]at P⊢
   rw[Dw]at P⊢
   have:=AV.qao x1;omega
 obtain⟨⟨e,s1⟩,h1,Y⟩:=aK.1 hx;obtain⟨v1,h3,D⟩:=A_ H n sf.pre Q _ _ _ _ h0 h1;have S:¬es.length≠sf.np:=by rw[<-DV.qao hf];exact h5
 have C:∀{e:Ex},(e= .normal)->((bR X lin T n sf.rest s1).bind fun I=>match I.1 with
  | .exit _=>none
  |_=>(fO 0 I.2 sf.results).bind fun q=>match q.1 with
   | .d v=>some v
   |_=>none)=some v->∃u i,((cU V p n sf.rest v1).bind fun I=>match I.1 with
  | .exit _=>none
  |_=>(finish 0 p I.2 sf.results).bind fun q=>match q.v with
   | .d v=>some (v,q.A)
   |_=>none)=some (u,i)/\v.fit u/\(v.own u).Nodup/\(∀a,a∈v.own u->i a=true)/\∀a,i a=true->Fut p 0 a:=by
  intro _ _ hr;obtain⟨⟨N,s2⟩,r1,I⟩:=aK.1 hr;obtain⟨v2,r3,r4⟩:=A_ H n sf.rest R _ _ _ _ D r1;have key:((fO 0 s2 sf.results).bind fun q=>match q.1 with
   | .d v=>some v
   |_=>none)=some v->∃u i,((finish 0 p v2 sf.results).bind fun q=>match q.v with
   | .d v=>some (v,q.A)
   |_=>none)=some (u,i)/\v.fit u/\(v.own u).Nodup/\(∀a,a∈v.own u->i a=true)/\∀a,i a=true->Fut p 0 a:=by
   intro hk;obtain⟨⟨w,B'⟩,k1,K⟩:=aK.1 hk;obtain⟨⟨w',Aw,Bw⟩,k3,k4⟩:=G0 r4 O k1;split at K
   ·rename_i d hd
    simp only at hd;subst hd
    simp only[ca]at K;subst K
    have k5:=k4.fit;simp only[AV.fit]at k5;obtain⟨u,rfl,k6⟩:=k5;refine⟨u,Aw,by rw[k3];rfl,k6,?_,fun a o=> ?_,fun a o=> ?_⟩
    ·have:=k4.held.nodup (.reg 0)
     simp only[aU,f0]at this;simpa[AV.own]using this
    ·exact(k4.held.opn (.reg 0) a (by simp only[aU,f0];simpa[AV.own]using o)).1
    ·rcases k4.am a o with h|h
     ·simp[Ids.none]at h
     ·exact h
   ·simp at K
  rw[r3,bO];cases N with
  |exit id=>simp at I
  |normal=>exact key I
  |ret=>exact key I
 unfold pX;rw[aD S,h3,bO];simp only at Y⊢
 split at Y
 ·rename_i x xr e1 N
  obtain⟨vb,g1,M⟩:=D.regs _ _ e1;simp only[AV.fit,DV.fit]at M;obtain⟨_,rfl,rfl⟩:=M;obtain⟨vr,g3,Z⟩:=D.regs _ _ N;have a1:=Z;simp only[AV.fit,DV.fit]at Z;obtain⟨_,rfl,g',ys,rfl,g5,J⟩:=Z;rcases J with J|⟨_,J⟩
  ·exact absurd J (by decide)
  rcases J with⟨J,_⟩|⟨_,a,sz,rfl,g7⟩
  ·simp at J
  have x3:=g5;simp only[DV.fits]at g5;obtain⟨y,yr,rfl,f1,f2⟩:=g5;obtain⟨w,m1,m2⟩:=aK.1 Y;obtain⟨q,m3,m4⟩:=aN.1 m2;subst m4;obtain⟨w',n1,n2,n3,n4,n5⟩:=qBc D m1;have z:∀b,b∈a::DV.owns (x::xr) (y::yr)->b∈aU s1.r s1.B v1.r v1.B (.reg sf.row):=by intro b l;simp only[aU,br,N,g3,AV.own,DV.own];rw[ay ⟨rfl,by simp⟩];simpa[Tag.ids]using l
  have x2:(a::DV.owns (x::xr) (y::yr)).Nodup:=by have:=D.held.nodup (.reg sf.row);simp only[aU,br,N,g3,AV.own,DV.own]at this;rw[ay ⟨rfl,by simp⟩]at this;simpa[Tag.ids]using this
  obtain⟨r',i,s3,s4,s5,s6,s7,s8,s9⟩:=Un H (A:=v1.A) (a:=a) (sz:=sz) (q:=(v1.c+1)::p) f1 f2 (fun b l=>by obtain⟨t1,_,t3⟩:=D.held.opn _ b (z b l);exact⟨t1,fun hF=>t3 (hF.sub.le (cf _))⟩) x2 g7 m3
  simp only[g1,g3];refine⟨.agg [w'.1,w'.2,.sl (.own a sz) r'],Ids.add a i,by rw[n1,bO,s3];rfl,?_,?_,fun b l=> ?_,fun b l=> ?_⟩
  ·simp only[DV.fit,DV.fits]
   exact⟨_,rfl,_,_,rfl,n2,_,_,rfl,n3,_,_,rfl,⟨_,_,rfl,s4,.inr ⟨rfl,.inr ⟨by omega,_,_,rfl,s6⟩⟩⟩,rfl⟩
  ·simp only[DV.own,DV.owns,n4,n5]
   rw[ay ⟨trivial,by omega⟩];simpa[Tag.ids]using s7
  ·simp only[DV.own,DV.owns,n4,n5]at l
   rw[ay ⟨trivial,by omega⟩]at l;simp only[Ids.add,iV,cA];simp[Tag.ids]at l;rcases l with rfl|l
   ·exact .inl rfl
   ·exact .inr (s8 b l)
  ·have old:∀b,b∈a::DV.owns (x::xr) (y::yr)->Fut p 0 b:=fun b l=>by
    rcases(D.am b (D.held.opn _ b (z b l)).1).2 with h|h
    ·simp[Ids.none]at h
    ·exact h
   simp only[Ids.add,iV,cA]at l;rcases l with rfl|l
   ·exact old b (by simp)
   ·rcases s9 b l with h|h
    ·exact old b (jg _ h)
    ·exact h.sub.le (c7 _)
 ·rename_i e1
  obtain⟨vb,g1,M⟩:=D.regs _ _ e1;simp only[AV.fit,DV.fit]at M;obtain⟨_,rfl,rfl⟩:=M;obtain⟨u,i,k1,K⟩:=C (e:= .normal) rfl Y;exact⟨u,i,by simp only[g1];exact k1,K⟩
 ·rename_i g e1 N
  obtain⟨vb,g1,M⟩:=D.regs _ _ e1;simp only[AV.fit,DV.fit]at M;obtain⟨_,rfl,rfl⟩:=M;obtain⟨vr,g3,Z⟩:=D.regs _ _ N;simp only[AV.fit,DV.fit,DV.fits]at Z;obtain⟨_,rfl,g',ys,rfl,rfl,J⟩:=Z;obtain⟨u,i,k1,K⟩:=C (e:= .normal) rfl Y;exact⟨u,i,by simp only[g1,g3];exact k1,K⟩
 ·simp at Y
def ra(g:aw->cN)(gv:Id->aH->uh):Prop:=∀ds v,g ds=some v->∀es p,DV.fits ds es->∃u e,gv p (es.map .d)=some (u,e)/\v.fit u/\(v.own u).Nodup/\(∀a,a∈v.own u->e a=true)/\∀a,e a=true->Fut p 0 a
structure XOK(X:XEnv):Prop where
 code:∀f vf,X.env.code f=some vf->vf.linOK (X.lin f)=true
 nat:∀f g,X.nat f=some g->∃gv,X.env.nat f=some gv/\ra g gv/\X.lin f=[]
 no:∀f,X.nat f=none->X.env.nat f=none
 spec:∀f sf,X.env.spec f=some sf->sf.pre.linOK (X.lin f)=true/\sf.rest.linOK (X.lin f)=true/\c9 (X.lin f) (sf.results.flatMap VRes.vx)=true/\(X.lin f).all (fun j=>decide (sf.np<=j))=true
theorem Et:∀{cs:aH} {ds:aw},bd cs=some ds->cs=ds.map .d
 | [],ds,h=>by simp[bd]at h;subst h;rfl
 |v::cs,ds,h=>by
  cases v with
  |d d=>simp only[bd]at h;obtain⟨es,a,rfl⟩:=aN.1 h;rw[Et a];rfl
  |_=>simp[bd]at h
theorem Ol{xs vs:aH}{o:az}{q:Ids}{F:Id->Prop}{p:Id}{u:DV}{R:Option Res}(l:Held F (Fut p 0) A (aU (bA 0 xs) B (bA 0 vs) o))(I:qbL B o)
 (H:v.fit u) (J:(v.own u).Nodup) (C:∀a,a∈v.own u->q a=true) (z:∀a,q a=true->Fut p 0 a) (D:R=some ⟨.d u,Ids.or q A,o⟩):
 ∃w i A',R=some ⟨w,A',i⟩/\(AV.d v).fit w/\qbL B i/\Held F (fun _=>False) A' (aU [(0,.d v)] B [(0,w)] i)/\∀a,A' a=true->A a=true\/Fut p 0 a:=by
 refine⟨.d u,o,Ids.or q A,D,by simp only[AV.fit];exact⟨_,rfl,H⟩,I,⟨fun ℓ=> ?_,fun ℓ ℓ' a e h=> ?_,fun ℓ a e=> ?_,fun a e=>⟨by simp[Ids.or,(l.fr a e).1],id⟩⟩,fun a e=> ?_⟩
 ·cases ℓ with
  |reg t=>simp only[aU,f0];split
          ·exact J
          ·simp
  |box j=>exact l.nodup (.box j)
 ·have key:∀a j,a∈v.own u->a∉bH B o j:=fun a j x G=>(l.opn (.box j) a G).2.2 (z a (C a x))
  cases ℓ with
  |reg t=>
   simp only[aU,f0]at e;split at e
   ·rename_i y;subst y
    cases ℓ' with
    |reg N=>
     simp only[aU,f0]at h;split at h
     ·rename_i y;subst y;rfl
     ·simp at h
    |box j=>exact absurd h (key a j e)
   ·simp at e
  |box j=>
   cases ℓ' with
   |reg N=>
    simp only[aU,f0]at h;split at h
    ·exact absurd e (key a j h)
    ·simp at h
   |box M=>exact l.apart (.box j) (.box M) a e h
 ·cases ℓ with
  |reg t=>
   simp only[aU,f0]at e;split at e
   ·have x:=C a e
    exact⟨by simp[Ids.or,x],fun P=>(l.fr a P).2 (z a x),id⟩
   ·simp at e
  |box j=>obtain⟨K,O,_⟩:=l.opn (.box j) a e;exact⟨by simp[Ids.or,K],O,id⟩
 ·simp only[Ids.or,iV]at e
  rcases e with e|e
  ·exact .inr (z a e)
  ·exact .inl e
theorem Ym(Y:XOK X):∀n,jk (cj X n) (dZ X.env n) X.lin:=by
 intro n
 induction n with
 |zero=>intro f xs B v' B' h;simp[cj]at h
 |succ n ih=>
  intro f xs B v' B' hx p vs G A F hf N hh hl c2;simp only[cj]at hx;split at hx
  ·rename_i g hg
   obtain⟨gv,h1,P,O⟩:=Y.nat f g hg;obtain⟨ds,C,R⟩:=aK.1 hx;obtain⟨v,I,y⟩:=aN.1 R;simp at y;obtain⟨rfl,rfl⟩:=y
   obtain⟨es,Q,e2,e3⟩:=qT C hf;have x1:vs=es.map .d:=by
    clear hx hf hh hl e2 e3 C
    induction vs generalizing es with
    |nil=>simp[bd]at Q;subst Q;rfl
    |cons u us ih=>
     cases u with
     |d d=>simp only[bd]at Q;obtain⟨a2,O,rfl⟩:=aN.1 Q;rw[ih a2 O];rfl
     |_=>simp[bd]at Q
   obtain⟨u,A1,g1,g2,g3,g4,g5⟩:=P ds v I es p e2;refine Ol hh N g2 g3 g4 g5 ?_;simp only[dZ,h1,Q,bO];rw[x1,g1];rfl
  ·rename_i hg
   split at hx
   ·rename_i H
    split at hx
    ·simp at hx
    rename_i sf hs;obtain⟨ds,C,R⟩:=aK.1 hx;obtain⟨v,I,y⟩:=aN.1 R;simp at y;obtain⟨rfl,rfl⟩:=y
    obtain⟨es,Q,e2,e3⟩:=qT C hf;have a1:=Et C;have x1:=Et Q;obtain⟨l1,l2,l3,l4⟩:=Y.spec f sf hs;have Z:ds.length=sf.np:=by
     unfold jY at I;split at I
     ·simp at I
     ·rename_i hn;simpa using hn
    obtain⟨u,A1,g1,g2,g3,g4,g5⟩:=Q6 ih (p:=p) e2 l1 l2 l3 (fun j=>by
     rw[<-a1,<-x1]
     by_cases hj:(X.lin f).contains j=true
     ·have h8:=cm.1 l4 j (by simpa using hj)
      simp only[cA]at h8;rw[sV];rw[a1,jf (by simp;omega)]
     ·exact hl j (by simpa using hj)) I
    refine Ol hh N g2 g3 g4 g5 ?_;simp only[dZ,Y.no f hg,H,hs,Q,bO,g1];rfl
   ·rename_i vf H
    split at hx
    ·simp at hx
    ·rename_i Z
     split at hx
     case h_2 m hbm=>
      split at hx
      ·simp at hx
      rename_i c1;obtain⟨⟨e,s1⟩,h1,P⟩:=aK.1 hx;have w:=Y.code f vf H;simp only[VFn.linOK,cb]at w;have J:=AV.qao hf;obtain⟨b2,hco⟩:=AV.qbD _ _ hf;have b1:qbL (fP B) G:=by
       refine⟨by simp[fP,N.1],fun i=>⟨fun h=> ?_,fun cs h=> ?_⟩⟩
       ·simp only[fP,fK]at h
        obtain⟨o,O,C⟩:=aN.1 h;cases o with
        |none=>exact(N.2 i).1 O
        |some c=>simp at C
       ·simp only[fP,fK]at h
        obtain⟨o,O,C⟩:=aN.1 h;cases o with
        |none=>simp at C
        |some c=>simp only[b7,ca]at C;subst C;obtain⟨ds,R,I⟩:=(N.2 i).2 c O;exact⟨ds,R,(AV.qbD _ _ I).1⟩
      have x3:∀j,br (bA 0 (AV.clrs xs)) (bA 0 vs) j=[]:=by
       intro j;rw[sV,AV.qay,fK];cases xs[j]? with
       |none=>rfl
       |some a=>cases vs[j]? with
        |none=>rfl
        |some b=>simp[AV.qbM]
      have a3:∀j,bH (fP B) G j=[]:=by
       intro j;unfold bH;split
       ·rename_i cs ds q1 q2
        have q3:=lI.1 q1;simp only[fP,fK]at q3;obtain⟨o,q4,q5⟩:=aN.1 q3;cases o with
        |none=>simp at q5
        |some c=>
         simp only[b7,ca]at q5;subst q5;obtain⟨ds',q6,q7⟩:=(N.2 j).2 c q4;have:=lI.1 q2;rw[q6]at this;simp only[ca]at this;subst this
         exact(AV.qbD _ _ q7).2
       ·rfl
      have K:∀ℓ,aU (bA 0 (AV.clrs xs)) (fP B) (bA 0 vs) G ℓ=[]:=by
       intro ℓ;cases ℓ with
       |reg t=>exact x3 t
       |box j=>exact a3 j
      have h0:Rel Ids.none (X.lin f) (fun _=>False) p 0 ⟨bA 0 (AV.clrs xs),fP B⟩ ⟨bA 0 vs,G,Ids.none,0⟩:=by
       refine⟨fun t x z=> ?_,b1,⟨fun ℓ=>by rw[K];simp,fun ℓ ℓ' a l=>by rw[K]at l;simp at l,fun ℓ a l=>by rw[K]at l;simp at l,fun a l=>by simp at l⟩,fun t _=>x3 t,fun t z=> ?_,fun a l=>by simp[Ids.none]at l⟩
       ·simp only[mB]at z⊢
        simp only[c7,if_true,pZ]at z⊢
        exact AV.qbZ b2 z
       ·simp only[mB]at z⊢
        simp only[c7,if_true,pZ]at z⊢
        rw[Dw]at z⊢
        rw[AV.qcx]at z;omega
      obtain⟨v1,O,C⟩:=A_ (sv:=⟨bA 0 vs,G,Ids.none,0⟩) ih n vf.code w.1 _ _ _ h0 h1;have hc:(∀id,e≠.exit id)->dZ X.env (n+1) p f vs G A=(finish G.length p v1 vf.results).map fun q=>⟨q.v,Ids.or q.A A,q.B⟩:=by
       intro x2;rw[dZ];simp only[Y.no f hg,H,hbm];rw[aD (by rw[<-J];exact Z),aD (by rw[<-N.1];exact c1),O];cases e with
       |exit id=>exact absurd rfl (x2 id)
       |normal=>rfl
       |ret=>rfl
      have M:∀{v' B'},fO B.length s1 vf.results=some (v',B')->(∀id,e≠.exit id)->∃v D A',dZ X.env (n+1) p f vs G A=some ⟨v,A',D⟩/\v'.fit v/\qbL B' D/\Held F (fun _=>False) A' (aU [(0,v')] B' [(0,v)] D)/\∀a,A' a=true->A a=true\/Fut p 0 a:=by
       intro v' B' R he;obtain⟨r,I,y⟩:=G0 C w.2 R;have S:∀a,r.A a=true->Fut p 0 a:=fun a l=>by
        rcases y.am a l with h8|h8
        ·simp[Ids.none]at h8
        ·exact h8
       refine⟨r.v,r.B,Ids.or r.A A,?_,y.fit,y.boxes,⟨y.held.nodup,y.held.apart,fun ℓ a l=> ?_,fun a l=>⟨by simp[Ids.or,(hh.fr a l).1],id⟩⟩,fun a l=> ?_⟩
       ·rw[hc he]
        rw[N.1]at I;rw[I];rfl
       ·obtain⟨q1,_,_⟩:=y.held.opn ℓ a l
        exact⟨by simp[Ids.or,q1],fun hF=>(hh.fr a hF).2 (S a q1),id⟩
       ·simp only[Ids.or,iV]at l
        rcases l with l|l
        ·exact .inr (S a l)
        ·exact .inl l
      cases e with
      |exit id=>simp at P
      |normal=>exact M P (fun id h=>by simp at h)
      |ret=>exact M P (fun id h=>by simp at h)
     rename_i hbn;obtain⟨⟨e,s1⟩,h1,P⟩:=aK.1 hx;have w:=Y.code f vf H;simp only[VFn.linOK,cb]at w;have J:=AV.qao hf;have h0:Rel A (X.lin f) F p 0 ⟨bA 0 xs,B⟩ ⟨bA 0 vs,G,A,0⟩:=by
      refine⟨fun t x z=> ?_,N,hh,hl,fun t z=> ?_,fun a l=>⟨c2 a l,.inl l⟩⟩
      ·simp only[mB]at z⊢
       simp only[c7,if_true,pZ]at z⊢
       exact AV.qbZ hf z
      ·simp only[mB]at z⊢
       simp only[c7,if_true,pZ]at z⊢
       rw[Dw]at z⊢
       omega
     obtain⟨v1,O,C⟩:=A_ (sv:=⟨bA 0 vs,G,A,0⟩) ih n vf.code w.1 _ _ _ h0 h1;have hc:(∀id,e≠.exit id)->dZ X.env (n+1) p f vs G A=finish G.length p v1 vf.results:=by
      intro x2;rw[dZ];simp only[Y.no f hg,H,hbn];rw[aD (by rw[<-J];exact Z),O];cases e with
      |exit id=>exact absurd rfl (x2 id)
      |normal=>rfl
      |ret=>rfl
     have M:∀{v' B'},fO B.length s1 vf.results=some (v',B')->(∀id,e≠.exit id)->∃v D A',dZ X.env (n+1) p f vs G A=some ⟨v,A',D⟩/\v'.fit v/\qbL B' D/\Held F (fun _=>False) A' (aU [(0,v')] B' [(0,v)] D)/\∀a,A' a=true->A a=true\/Fut p 0 a:=by intro v' B' R he;obtain⟨r,I,y⟩:=G0 C w.2 R;refine⟨r.v,r.B,r.A,?_,y.fit,y.boxes,y.held,y.am⟩;rw[hc he,<-N.1,I]
     cases e with
     |exit id=>simp at P
     |normal=>exact M P (fun id h=>by simp at h)
     |ret=>exact M P (fun id h=>by simp at h)
end
def kZ(c c':b_):Prop:=∀f as B r,c f as B=some r->c' f as B=some r
variable{c c':b_}
theorem Oy(h:kZ c c')(lin:Nat->ae)(T:ae)(draw:Bool)(i:Nat)(o:VOper):iI (bf c lin T draw i o) (bf c' lin T draw i o):=by
 intro s r a;obtain⟨dst,op,g,af⟩:=o;cases op
 case call iso f args=>
  simp only[bf]at a⊢
  split at a
  ·rename_i k caps vs l q
   split at a
   ·rename_i e
    simp only[e,if_true];split at a
    ·rename_i t
     split at a
     ·rename_i hc
      rw[h _ _ _ _ hc];exact a
     ·simp at a
    ·simp at a
   ·rename_i e
    simp only[e];split at a
    ·rename_i j
     rw[ay j];split at a
     ·rename_i hc
      rw[h _ _ _ _ hc];exact a
     ·simp at a
    ·simp at a
  ·simp at a
 all_goals exact a
theorem um(h:kZ c c')(lin:Nat->ae)(T:ae)(draw:Bool)(e:Nat)(os:aj):iI (a7 c lin T draw e os) (a7 c' lin T draw e os):=by
 induction os with
 |nil=>intro s r a;exact a
 |cons o os i=>
  intro s r a;simp only[a7]at a⊢
  split at a
  ·obtain⟨s1,j,l⟩:=aK.1 a
   exact aK.2 ⟨s1,Oy h lin T draw e o s s1 j,i _ _ l⟩
  ·exact i _ _ a
  ·simp at a
theorem O0(h:kZ c c')(lin:Nat->ae)(T:ae)(draw:Bool)(na:Nat)(live:ae)(ops:aj):iI (kV c lin T draw na live ops) (kV c' lin T draw na live ops):=by
 intro s r a;unfold kV at a⊢
 split
 ·simp_all
 ·rename_i j
  simp only[j]at a;obtain⟨s1,e,i⟩:=aN.1 a;exact aN.2 ⟨s1,um h lin T draw _ ops _ _ e,i⟩
theorem Ow(h:kZ c c')(lin:Nat->ae)(T:ae)(draw:Bool)(e:Nat)(fs:d5):iI (ey c lin T draw e fs) (ey c' lin T draw e fs):=by
 induction fs with
 |nil=>intro s r a;exact a
 |cons f fs t=>
  intro s r a;simp only[ey]at a⊢
  obtain⟨s1,i,o⟩:=aK.1 a;obtain⟨l,q,j⟩:=aK.1 o;exact aK.2 ⟨s1,um h lin T draw e f.pre _ _ i,aK.2 ⟨l,q,t _ _ j⟩⟩
theorem LW(h:kZ c c')(lin:Nat->ae)(T:ae)(draw:Bool)(na:Nat)(live:ae)(fs:d5):iI (lp c lin T draw na live fs) (lp c' lin T draw na live fs):=by
 intro s r a;unfold lp at a⊢
 split
 ·simp_all
 ·rename_i j
  simp only[j]at a;obtain⟨s1,e,i⟩:=aN.1 a;exact aN.2 ⟨s1,Ow h lin T draw _ fs _ _ e,i⟩
theorem A9{f g:XS->dD}(h:iI f g)(i:Nat)(live:ae):∀n m,n<=m->iI (fu f i live n) (fu g i live m):=by
 intro n
 induction n with
 |zero=>intro m _ s r a;simp[fu]at a
 |succ n l=>
  intro m q s r a;obtain⟨m,rfl⟩:∃k,m=k+1:=⟨m-1,by omega⟩;simp only[fu]at a⊢
  obtain⟨s0,o,a⟩:=aK.1 a;obtain⟨⟨e,s1⟩,j,a⟩:=aK.1 a;refine aK.2 ⟨s0,o,aK.2 ⟨(e,s1),h _ _ j,?_⟩⟩;cases e with
  |normal=>exact l m (by omega) _ _ a
  |exit id=>exact a
  |ret=>exact a
variable{m:Nat}
theorem i_(h:kZ c c')(lin:Nat->ae)(T:ae)(y:n<=m)(vc:VCode):iI (bR c lin T n vc) (bR c' lin T m vc):=by
 induction vc with
 |skip=>intro s r j;exact j
 |ret=>intro s r j;exact j
 |exit id=>intro s r j;exact j
 |seq a b q u=>
  intro s r j;simp only[bR]at j⊢
  obtain⟨⟨e,s1⟩,l,j⟩:=aK.1 j;refine aK.2 ⟨(e,s1),q _ _ l,?_⟩;cases e with
  |normal=>exact u _ _ j
  |exit id=>exact j
  |ret=>exact j
 |region draw na live ops=>
  intro s r j;simp only[bR]at j⊢
  obtain⟨s1,l,o⟩:=aN.1 j;exact aN.2 ⟨s1,O0 h lin T draw na live ops _ _ l,o⟩
 |regionF draw na live fs=>
  intro s r j;simp only[bR]at j⊢
  obtain⟨s1,l,o⟩:=aN.1 j;exact aN.2 ⟨s1,LW h lin T draw na live fs _ _ l,o⟩
 |regionS na live pre t t1 i x d f1 f2=>
  intro s r j;simp only[bR,qL]at j⊢
  obtain⟨s1,l,o⟩:=aN.1 j;split at l
  ·simp at l
  ·rename_i G
   obtain⟨D,H,z⟩:=aK.1 l;rw[aD G];exact aN.2 ⟨s1,aK.2 ⟨D,um h lin T false _ pre _ _ H,z⟩,o⟩
 |cond x a b q u=>
  intro s r j;simp only[bR]at j⊢
  split at j
  ·exact q _ _ j
  ·exact u _ _ j
  ·simp at j
 |block id C w=>
  intro s r j;simp only[bR]at j⊢
  obtain⟨s1,l,o⟩:=aN.1 j;exact aN.2 ⟨s1,w _ _ l,o⟩
 |loop live C w=>
  intro s r j;simp only[bR]at j⊢
  exact A9 w _ _ n m y _ _ j
theorem GB(h:kZ c c')(sf:SFn)(x:DV)(xr:aw):∀r,jh c sf x xr=some r->jh c' sf x xr=some r:=by
 intro r a;unfold jh at a⊢
 split at a
 ·rename_i hc
  rw[ay hc];split at a
  ·rename_i v cs e
   rw[h _ _ _ _ e];exact a
  ·simp at a
 ·simp at a
theorem qAR(h:kZ c c')(t:n<=m)(lin:Nat->ae)(T:ae)(sf:SFn)(ds:aw):∀r,jY c lin T n sf ds=some r->jY c' lin T m sf ds=some r:=by
 intro r o;unfold jY at o⊢
 split at o
 ·simp at o
 rename_i j;rw[aD j];obtain⟨⟨e,s⟩,w,a⟩:=aK.1 o;refine aK.2 ⟨(e,s),i_ h lin T t sf.pre _ _ w,?_⟩;simp only at a⊢
 split at a
 ·rename_i x xr u D
  obtain⟨y,C,z⟩:=aK.1 a;obtain⟨q,i,l⟩:=aN.1 z;exact aK.2 ⟨y,C,aN.2 ⟨q,GB h _ _ _ _ i,l⟩⟩
 ·rename_i u
  obtain⟨q,i,l⟩:=aK.1 a;exact aK.2 ⟨q,i_ h lin T t sf.rest _ _ i,l⟩
 ·rename_i g u D
  obtain⟨q,i,l⟩:=aK.1 a;exact aK.2 ⟨q,i_ h lin T t sf.rest _ _ i,l⟩
 ·simp at a
theorem qvn(X:XEnv):∀n,kZ (cj X n) (cj X (n+1)):=by
 intro n
 induction n with
 |zero=>intro f as B r a;simp[cj]at a
 |succ n j=>
  intro f as B r a;rw[cj]at a⊢
  split
  ·rename_i g i
   rw[i]at a;exact a
  ·rename_i i
   simp only[i]at a;split
   ·rename_i t
    simp only[t]at a;split
    ·rename_i o;simp[o]at a
    ·rename_i sf o
     simp only[o]at a;obtain⟨ds,e,h⟩:=aK.1 a;obtain⟨q,y,x⟩:=aN.1 h;exact aK.2 ⟨ds,e,aN.2 ⟨q,qAR j (cf n) _ _ sf ds _ y,x⟩⟩
   ·rename_i vf t
    simp only[t]at a;split at a
    ·simp at a
    ·rename_i l
     rw[aD l];split at a
     ·rename_i u
      obtain⟨s1,e,h⟩:=aK.1 a;exact aK.2 ⟨s1,i_ j _ _ (cf n) vf.code _ _ e,h⟩
     ·rename_i m u
      split at a
      ·simp at a
      rename_i w;rw[aD w];obtain⟨s1,e,h⟩:=aK.1 a;exact aK.2 ⟨s1,i_ j _ _ (cf n) vf.code _ _ e,h⟩
theorem h_(X:XEnv)(h:n<=m):kZ (cj X n) (cj X m):=by
 induction h with
 |refl=>intro f as B r a;exact a
 |step _ e=>intro f as B r a;exact qvn X _ _ _ _ _ (e _ _ _ _ a)
noncomputable def ak(X:XEnv):b_:=fun f as B=>lim fun n=>cj X n f as B
noncomputable def aS(X:XEnv)(T:ae)(c:VCode)(s:XS):dD:=lim fun n=>bR (cj X n) X.lin T n c s
variable{f:Nat}
theorem mX{as:aH}{r:AV×az}:ak X f as B=some r↔∃n,cj X n f as B=some r:=C9 (fun n m r h a=>h_ X h _ _ _ _ a) r
variable{r:Ex×XS}{s:XS}
theorem dl{T:ae}{c:VCode}:aS X T c s=some r↔∃n,bR (cj X n) X.lin T n c s=some r:=C9 (fun n m r h a=>i_ (h_ X h) _ _ h c _ _ a) r
theorem A5(X:XEnv)(n:Nat):kZ (cj X n) (ak X):=fun _ _ _ _ h=>mX.2 ⟨n,h⟩
theorem qSz(X:XEnv)(T:ae)(draw:Bool)(i:Nat)(o:VOper)(s r:XS)(a:bf (ak X) X.lin T draw i o s=some r):∃n,bf (cj X n) X.lin T draw i o s=some r:=by
 obtain⟨dst,op,g,af⟩:=o;cases op
 case call iso f args=>
  simp only[bf]at a⊢
  split at a
  ·rename_i k caps vs l q
   split at a
   ·rename_i e
    simp only[e,if_true];split at a
    ·rename_i t
     split at a
     ·rename_i hc
      obtain⟨n,h⟩:=mX.1 hc;exact⟨n,by rw[h];exact a⟩
     ·simp at a
    ·simp at a
   ·rename_i e
    simp only[e];split at a
    ·rename_i j
     split at a
     ·rename_i hc
      obtain⟨n,h⟩:=mX.1 hc;exact⟨n,by rw[ay j,h];exact a⟩
     ·simp at a
    ·simp at a
  ·simp at a
 all_goals exact⟨0,a⟩
theorem Fe(X:XEnv)(T:ae)(draw:Bool)(e:Nat)(os:aj):∀s r,a7 (ak X) X.lin T draw e os s=some r->∃n,a7 (cj X n) X.lin T draw e os s=some r:=by
 induction os with
 |nil=>intro s r a;exact⟨0,a⟩
 |cons o os h=>
  intro s r a;simp only[a7]at a⊢
  split at a
  ·obtain⟨s1,i,j⟩:=aK.1 a
   obtain⟨n,l⟩:=qSz X T draw e o s s1 i;obtain⟨m,q⟩:=h _ _ j;exact⟨Nat.max n m,aK.2 ⟨s1,Oy (h_ X (qo n m)) _ _ _ _ _ _ _ l,um (h_ X (pD n m)) _ _ _ _ _ _ _ q⟩⟩
  ·exact h _ _ a
  ·simp at a
theorem Oo(X:XEnv)(T:ae)(draw:Bool)(na:Nat)(live:ae)(ops:aj)(s:XS):
 aS X T (.region draw na live ops) s=(kV (ak X) X.lin T draw na live ops s).map fun s'=>(.normal,s'):=by
 refine lL fun r=> ?_
 rw[dl];constructor
 ·rintro⟨n,e⟩
  simp only[bR]at e;obtain⟨s1,a,i⟩:=aN.1 e;exact aN.2 ⟨s1,O0 (A5 X n) _ _ _ _ _ _ _ _ a,i⟩
 ·intro h
  obtain⟨s1,a,i⟩:=aN.1 h;unfold kV at a;split at a
  ·simp at a
  ·rename_i o
   obtain⟨l,q,j⟩:=aN.1 a;obtain⟨n,e⟩:=Fe _ _ _ _ _ _ _ q;refine⟨n,?_⟩;simp only[bR];refine aN.2 ⟨s1,?_,i⟩;unfold kV;rw[aD o];exact aN.2 ⟨l,e,j⟩
theorem QJ(X:XEnv)(T:ae)(s:XS):aS X T .skip s=some (.normal,s):=dl.2 ⟨0,rfl⟩
theorem XB(X:XEnv)(T:ae)(s:XS):aS X T .ret s=some (.ret,s):=dl.2 ⟨0,rfl⟩
theorem RZ(X:XEnv)(T:ae)(id:Nat)(s:XS):aS X T (.exit id) s=some (.exit id,s):=dl.2 ⟨0,rfl⟩
def oB(r:dD)(k:XS->dD):dD:=
 r.bind fun r=>match r.1 with
  | .normal=>k r.2
  |_=>some r
theorem FU(X:XEnv)(T:ae)(a b:VCode)(s:XS):aS X T (.seq a b) s=oB (aS X T a s) (aS X T b):=by
 refine lL fun r=> ?_
 unfold oB;rw[dl];constructor
 ·rintro⟨n,j⟩
  simp only[bR]at j;obtain⟨⟨e,s1⟩,l,i⟩:=aK.1 j;refine aK.2 ⟨(e,s1),dl.2 ⟨n,l⟩,?_⟩;cases e with
  |normal=>exact dl.2 ⟨n,i⟩
  |exit id=>exact i
  |ret=>exact i
 ·intro h
  obtain⟨⟨e,s1⟩,l,i⟩:=aK.1 h;obtain⟨n,j⟩:=dl.1 l;cases e with
  |normal=>obtain⟨m,o⟩:=dl.1 i;refine⟨Nat.max n m,?_⟩;simp only[bR];exact aK.2 ⟨_,i_ (h_ X (qo n m)) _ _ (qo n m) _ _ _ j,i_ (h_ X (pD n m)) _ _ (pD n m) _ _ _ o⟩
  |exit id=>exact⟨n,by simp only[bR];exact aK.2 ⟨_,j,i⟩⟩
  |ret=>exact⟨n,by simp only[bR];exact aK.2 ⟨_,j,i⟩⟩
theorem qCj(X:XEnv)(T:ae)(x:VX)(a b:VCode)(s:XS):
 aS X T (.cond x a b) s=match bj s.r x with
  |some (.d (.bool true))=>aS X T a s
  |some (.d (.bool false))=>aS X T b s
  |_=>none:=by
 unfold aS;split<;>simp only[bR, *]
 unfold lim;split
 ·rename_i h;obtain⟨n,e⟩:=h;simp at e
 ·rfl
theorem qxw(X:XEnv)(T:ae)(id:Nat)(c:VCode)(s:XS):
 aS X T (.block id c) s=(aS X T c s).map fun r=>if r.1= .exit id then(.normal,r.2)else r:=by
 refine lL fun r=> ?_
 rw[dl];constructor
 ·rintro⟨n,a⟩
  simp only[bR]at a;obtain⟨s1,e,i⟩:=aN.1 a;exact aN.2 ⟨s1,dl.2 ⟨n,e⟩,i⟩
 ·intro h
  obtain⟨s1,e,i⟩:=aN.1 h;obtain⟨n,a⟩:=dl.1 e;exact⟨n,by simp only[bR];exact aN.2 ⟨s1,a,i⟩⟩
noncomputable def bo(X:XEnv)(T:ae)(a:Nat)(live:ae)(c:VCode)(s:XS):dD:=lim fun n=>fu (bR (cj X n) X.lin T n c) a live n s
variable{live:ae}
theorem E9{T:ae}{a:Nat}{c:VCode}:bo X T a live c s=some r↔∃n,fu (bR (cj X n) X.lin T n c) a live n s=some r:=C9 (fun n m r h e=>A9 (i_ (h_ X h) _ _ h c) _ _ n m h _ _ e) r
theorem Re(X:XEnv)(T:ae)(live:ae)(c:VCode)(s:XS):aS X T (.loop live c) s=bo X T s.B.length live c s:=rfl
theorem pE(X:XEnv)(T:ae)(q:Nat)(live:ae)(c:VCode)(s:XS):
 bo X T q live c s=(aA q live s).bind fun s0=>oB (aS X T c s0) (bo X T q live c):=by
 refine lL fun r=> ?_
 unfold oB;rw[E9];constructor
 ·rintro⟨n,a⟩
  cases n with
  |zero=>simp[fu]at a
  |succ n=>
   simp only[fu]at a;obtain⟨s0,j,a⟩:=aK.1 a;obtain⟨⟨e,s1⟩,o,i⟩:=aK.1 a;refine aK.2 ⟨s0,j,aK.2 ⟨(e,s1),dl.2 ⟨n+1,o⟩,?_⟩⟩;cases e with
   |normal=>exact E9.2 ⟨n+1,A9 (fun _ _ h=>h) _ _ n (n+1) (cf n) _ _ i⟩
   |exit id=>exact i
   |ret=>exact i
 ·intro h
  obtain⟨s0,j,h⟩:=aK.1 h;obtain⟨⟨e,s1⟩,o,i⟩:=aK.1 h;obtain⟨n,a⟩:=dl.1 o;have one:∀m,n<=m->bR (cj X m) X.lin T m c s0=some (e,s1):=fun m l=>i_ (h_ X l) _ _ l c _ _ a
  cases e with
  |normal=>obtain⟨m,l⟩:=E9.1 i;refine⟨n+m+1,?_⟩;simp only[fu];refine aK.2 ⟨s0,j,aK.2 ⟨(.normal,s1),one _ (by omega),?_⟩⟩;exact A9 (i_ (h_ X (by omega)) _ _ (by omega) c) _ _ m _ (by omega) _ _ l
  |exit id=>refine⟨n+1,?_⟩;simp only[fu];exact aK.2 ⟨s0,j,aK.2 ⟨(.exit id,s1),one _ (by omega),i⟩⟩
  |ret=>refine⟨n+1,?_⟩;simp only[fu];exact aK.2 ⟨s0,j,aK.2 ⟨(.ret,s1),one _ (by omega),i⟩⟩
theorem qCw(X:XEnv)(f:Nat)(as:aH)(B:az)(vf:VFn)(j:X.nat f=none)(o:X.env.code f=some vf)(l:X.env.base f=none)(a:as.length=vf.np):
 ak X f as B=(aS X (X.lin f) vf.code ⟨bA 0 as,B⟩).bind fun r=>
  match r.1 with
  | .exit _=>none
  |_=>fO B.length r.2 vf.results:=by
 refine lL fun r=> ?_
 rw[mX];constructor
 ·rintro⟨n,h⟩
  cases n with
  |zero=>simp[cj]at h
  |succ n=>rw[cj]at h;simp only[j,o,l]at h;rw[aD (by simp[a])]at h;obtain⟨s1,e,i⟩:=aK.1 h;exact aK.2 ⟨s1,dl.2 ⟨n,e⟩,i⟩
 ·intro h
  obtain⟨s1,e,i⟩:=aK.1 h;obtain⟨n,q⟩:=dl.1 e;refine⟨n+1,?_⟩;rw[cj];simp only[j,o,l];rw[aD (by simp[a])];exact aK.2 ⟨s1,q,i⟩
theorem QP(X:XEnv)(f:Nat)(as:aH)(B:az)(vf:VFn)(j:X.nat f=none)(q:X.env.code f=some vf)(l:X.env.base f=some m)(o:B.length=m)(a:as.length=vf.np):
 ak X f as B=(aS X (X.lin f) vf.code ⟨bA 0 (AV.clrs as),fP B⟩).bind fun r=>
  match r.1 with
  | .exit _=>none
  |_=>fO B.length r.2 vf.results:=by
 refine lL fun r=> ?_
 rw[mX];constructor
 ·rintro⟨n,h⟩
  cases n with
  |zero=>simp[cj]at h
  |succ n=>rw[cj]at h;simp only[j,q,l]at h;rw[aD (by simp[a]),aD (by simp[o])]at h;obtain⟨s1,e,i⟩:=aK.1 h;exact aK.2 ⟨s1,dl.2 ⟨n,e⟩,i⟩
 ·intro h
  obtain⟨s1,e,i⟩:=aK.1 h;obtain⟨n,t⟩:=dl.1 e;refine⟨n+1,?_⟩;rw[cj];simp only[j,q,l];rw[aD (by simp[a]),aD (by simp[o])];exact aK.2 ⟨s1,t,i⟩
theorem YB(X:XEnv)(T:ae)(draw:Bool)(e:Nat):∀(fs:d5) (s r:XS),ey (ak X) X.lin T draw e fs s=some r->∃n,ey (cj X n) X.lin T draw e fs s=some r:=by
 intro fs
 induction fs with
 |nil=>intro s r a;exact⟨0,a⟩
 |cons f fs l=>
  intro s r a;simp only[ey]at a⊢
  obtain⟨s1,h,i⟩:=aK.1 a;obtain⟨t,u,q⟩:=aK.1 i;obtain⟨n,j⟩:=Fe _ _ _ _ _ _ _ h;obtain⟨m,o⟩:=l _ _ q;exact⟨Nat.max n m,aK.2 ⟨s1,um (h_ X (qo n m)) _ _ _ _ _ _ _ j,aK.2 ⟨t,u,Ow (h_ X (pD n m)) _ _ _ _ _ _ _ o⟩⟩⟩
theorem qrM(X:XEnv)(T:ae)(na:Nat)(live:ae)(pre:aj)(t t1:Nat)(i x:VX)(d:Nat)(f1 f2:ae)(s:XS):aS X T (.regionS na live pre t t1 i x d f1 f2) s=(qL (ak X) X.lin T na live pre t t1 i x s).map fun s'=>(.normal,s'):=by
 refine lL fun r=> ?_
 rw[dl];simp only[bR,qL]
 by_cases e:p9 t t1 pre=false
 ·simp[e]
 ·rw[aD e]
  constructor
  ·rintro⟨n,a⟩
   rw[aD e]at a;obtain⟨s1,j,l⟩:=aN.1 a;obtain⟨q,u,o⟩:=aK.1 j;exact aN.2 ⟨s1,aK.2 ⟨q,um (A5 X n) _ _ _ _ _ _ _ u,o⟩,l⟩
  ·intro h
   obtain⟨s1,j,l⟩:=aN.1 h;obtain⟨q,u,o⟩:=aK.1 j;obtain⟨n,a⟩:=Fe _ _ _ _ _ _ _ u;refine⟨n,?_⟩;rw[aD e];exact aN.2 ⟨s1,aK.2 ⟨q,a,o⟩,l⟩
theorem I0(X:XEnv)(T:ae)(draw:Bool)(na:Nat)(live:ae)(fs:d5)(s:XS):aS X T (.regionF draw na live fs) s=(lp (ak X) X.lin T draw na live fs s).map fun s'=>(.normal,s'):=by
 refine lL fun r=> ?_
 rw[dl];constructor
 ·rintro⟨n,e⟩
  simp only[bR]at e;obtain⟨s1,a,i⟩:=aN.1 e;exact aN.2 ⟨s1,LW (A5 X n) _ _ _ _ _ _ _ _ a,i⟩
 ·intro h
  obtain⟨s1,a,i⟩:=aN.1 h;unfold lp at a;split at a
  ·simp at a
  ·rename_i o
   obtain⟨l,q,j⟩:=aN.1 a;obtain⟨n,e⟩:=YB _ _ _ _ _ _ _ q;refine⟨n,?_⟩;simp only[bR];refine aN.2 ⟨s1,?_,i⟩;unfold lp;rw[aD o];exact aN.2 ⟨l,e,j⟩
theorem xq(X:XEnv)(f:Nat)(as:aH)(B:az)(g:aw->cN)(a:X.nat f=some g):
 ak X f as B=(bd as).bind fun ds=>(g ds).map fun v=>(.d v,B):=by
 refine lL fun r=> ?_
 rw[mX];constructor
 ·rintro⟨n,h⟩
  cases n with
  |zero=>simp[cj]at h
  |succ n=>rw[cj]at h;simpa only[a]using h
 ·intro h
  exact⟨1,by rw[cj];simpa only[a]using h⟩
noncomputable def nV(X:XEnv)(T:ae)(sf:SFn)(ds:aw):cN:=
 if ds.length≠sf.np then none else
  (aS X T sf.pre ⟨bA 0 (ds.map .d),[]⟩).bind fun r=>
   match r.1,lk r.2.r sf.cond,lk r.2.r sf.row with
   | .normal,some (.d (.bool true)),some (.d (.sl (.own [] 0) (x::xr)))=>(ta r.2).bind fun y=>(jh (ak X) sf x xr).map fun q=> .agg [y.1,y.2,.sl U q]
   | .normal,some (.d (.bool false)),_| .normal,some (.d (.bool true)),some (.d (.sl _ []))=>
    (aS X T sf.rest r.2).bind fun a=>
     match a.1 with
     | .exit _=>none
     |_=>(fO 0 a.2 sf.results).bind fun q=>match q.1 with
      | .d v=>some v
      |_=>none
   |_,_,_=>none
theorem Zn(X:XEnv)(sf:SFn)(x:DV)(xr:aw):∀r,jh (ak X) sf x xr=some r->∃n,jh (cj X n) sf x xr=some r:=by
 intro r a;unfold jh at a⊢
 split at a
 ·rename_i hc
  split at a
  ·rename_i v cs h
   obtain⟨n,e⟩:=mX.1 h;exact⟨n,by rw[ay hc,e];exact a⟩
  ·simp at a
 ·simp at a
theorem Nx{T:ae}{r:DV}:nV X T sf ds=some r↔∃n,jY (cj X n) X.lin T n sf ds=some r:=by
 constructor
 ·intro o
  unfold nV at o;split at o
  ·simp at o
  rename_i a;obtain⟨⟨e,s⟩,w,h⟩:=aK.1 o;obtain⟨n,D⟩:=dl.1 w;have two:∀m,∀{q:Ex×XS},bR (cj X m) X.lin T m sf.rest s=some q->bR (cj X (Nat.max n m)) X.lin T (Nat.max n m) sf.rest s=some q:=fun m q G=>i_ (h_ X (pD n m)) _ _ (pD n m) _ _ _ G
  have one:∀m,bR (cj X (Nat.max n m)) X.lin T (Nat.max n m) sf.pre ⟨bA 0 (ds.map .d),[]⟩=some (e,s):=fun m=>i_ (h_ X (qo n m)) _ _ (qo n m) _ _ _ D
  simp only at h;split at h
  ·rename_i x xr l t
   obtain⟨y,C,z⟩:=aK.1 h;obtain⟨q,i,j⟩:=aN.1 z;obtain⟨m,u⟩:=Zn X _ _ _ _ i;refine⟨Nat.max n m,?_⟩;unfold jY;rw[aD a,one m];simp only[bO,l,t];exact aK.2 ⟨y,C,aN.2 ⟨q,GB (h_ X (pD n m)) _ _ _ _ u,j⟩⟩
  ·rename_i l
   obtain⟨q,i,j⟩:=aK.1 h;obtain⟨m,u⟩:=dl.1 i;refine⟨Nat.max n m,?_⟩;unfold jY;rw[aD a,one m];simp only[bO,l];exact aK.2 ⟨q,two m u,j⟩
  ·rename_i g l t
   obtain⟨q,i,j⟩:=aK.1 h;obtain⟨m,u⟩:=dl.1 i;refine⟨Nat.max n m,?_⟩;unfold jY;rw[aD a,one m];simp only[bO,l,t];exact aK.2 ⟨q,two m u,j⟩
  ·simp at h
 ·rintro⟨n,o⟩
  unfold jY at o;unfold nV;split at o
  ·simp at o
  rename_i a;rw[aD a];obtain⟨⟨e,s⟩,w,h⟩:=aK.1 o;refine aK.2 ⟨(e,s),dl.2 ⟨n,w⟩,?_⟩;simp only at h⊢
  split at h
  ·rename_i x xr l t
   obtain⟨y,C,z⟩:=aK.1 h;obtain⟨q,i,j⟩:=aN.1 z
   try simp only[l,t]
   exact aK.2 ⟨y,C,aN.2 ⟨q,GB (A5 X n) _ _ _ _ i,j⟩⟩
  ·rename_i l
   obtain⟨q,i,j⟩:=aK.1 h
   try simp only[l]
   exact aK.2 ⟨q,dl.2 ⟨n,i⟩,j⟩
  ·rename_i g l t
   obtain⟨q,i,j⟩:=aK.1 h
   try simp only[l,t]
   exact aK.2 ⟨q,dl.2 ⟨n,i⟩,j⟩
  ·simp at h
theorem Ub(X:XEnv)(f:Nat)(as:aH)(B:az)(sf:SFn)(o:X.nat f=none)(t:X.env.code f=none)(l:X.env.spec f=some sf):
 ak X f as B=(bd as).bind fun ds=>(nV X (X.lin f) sf ds).map fun v=>(.d v,B):=by
 refine lL fun r=> ?_
 rw[mX];constructor
 ·rintro⟨n,h⟩
  cases n with
  |zero=>simp[cj]at h
  |succ n=>rw[cj]at h;simp only[o,t,l]at h;obtain⟨ds,a,i⟩:=aK.1 h;obtain⟨q,j,e⟩:=aN.1 i;exact aK.2 ⟨ds,a,aN.2 ⟨q,Nx.2 ⟨n,j⟩,e⟩⟩
 ·intro h
  obtain⟨ds,a,i⟩:=aK.1 h;obtain⟨q,j,e⟩:=aN.1 i;obtain⟨n,u⟩:=Nx.1 j;refine⟨n+1,?_⟩;rw[cj];simp only[o,t,l];exact aK.2 ⟨ds,a,aN.2 ⟨q,u,e⟩⟩
theorem Wn(w:XOK X){xs vs:aw}(hc:DV.clrs xs=xs)(G:DV.fits xs vs){d:DV}(I:d.clr=d)(h:ak X f (xs.map .d) []=some (.d d,B')):
 ∃u A o,AG X.env [] f (vs.map .d) [] Ids.none=some ⟨.d u,A,o⟩/\d.fit u:=by
 obtain⟨n,z⟩:=mX.1 h;have H:AV.fits (xs.map .d) (vs.map .d):=AV.qqv G;have l:∀j,br (bA 0 (xs.map AV.d)) (bA 0 (vs.map AV.d)) j=[]:=by
  intro j;rw[sV];split
  ·rename_i a b e D
   have:=AV.qb4 e D;rw[AV.qqu,<-hc,DV.qfy]at this;exact sb.1 this
  ·rfl
 have i:∀ℓ,aU (bA 0 (xs.map AV.d)) [] (bA 0 (vs.map AV.d)) [] ℓ=[]:=by
  intro ℓ;cases ℓ with
  |reg t=>exact l t
  |box j=>simp[aU,bH,cd]
 obtain⟨v,o,A',x,q,_⟩:=Ym w n f _ _ _ _ z [] (vs.map .d) [] Ids.none (fun _=>False) H ⟨rfl,by simp⟩
  ⟨fun ℓ=>by rw[i];simp,fun ℓ ℓ' a e=>by rw[i]at e;simp at e,fun ℓ a e=>by rw[i]at e;simp at e,fun a e=>by simp at e⟩ (fun j _=>l j) (fun a e=>by simp[Ids.none]at e)
 simp only[AV.fit]at q;obtain⟨y,rfl,C⟩:=q;exact⟨y,A',o,WB.2 ⟨n,x⟩,C⟩
def Eq(b:uy)(c:b_)(lin:Nat->ae)(T:ae)(d:Bool)(L:Nat)(o:VOper)(os:aj)(s:XS):bZ:=
 match b with
 |some true=>(bf c lin T d L o s).bind (a7 c lin T d L os)
 |some false=>a7 c lin T d L os (a9 T s o.dst .und)
 |none=>none
def Ka(r:bZ)(c:b_)(lin:Nat->ae)(T:ae)(d:Bool)(L:Nat)(os:aj):bZ:=r.bind (a7 c lin T d L os)
def bp(live:ae)(r:bZ):dD:=r.map fun s'=>(.normal,⟨keep s'.r live,s'.B⟩)
def Mk(id:Nat)(r:dD):dD:=r.map fun r=>if r.1= .exit id then(.normal,r.2)else r
noncomputable def GQ(v:a8)(X:XEnv)(T:ae)(a b:VCode)(s:XS):dD:=
 match v with
 |some (.d (.bool true))=>aS X T a s
 |some (.d (.bool false))=>aS X T b s
 |_=>none
def sE(L:Nat)(rs:jn)(r:dD):mr:=
 r.bind fun r=>match r.1 with
  | .exit _=>none
  |_=>fO L r.2 rs
def mw(T:ae)(s:XS)(dst:bq)(v:a8):bZ:=v.map fun v=>a9 T s dst v
def d_(T:ae)(s:XS)(dst:bq)(v:a8):bZ:=v.map fun v=>a9 T s dst v.clr
def CS(T:ae)(s:XS)(dst:bq)(v:cN):bZ:=v.map fun v=>a9 T s dst (.d v)
def EX(T:ae)(s:XS)(dst:bq)(B:Option az):bZ:=B.map fun B=>a9 T ⟨s.r,B⟩ dst .und
def NW(T:ae)(dst:bq)(s:XS)(v:Option aw):bZ:=v.map fun xs=>a9 T s dst (.d (.sl U xs))
def Oj(T:ae)(dst:bq)(s:XS)(a b:VX)(v:a8):bZ:=
 match v with
 |some (.d (.bool true))=>(bj s.r a).map fun v=>a9 T (dH T dst s [a]) dst v
 |some (.d (.bool false))=>(bj s.r b).map fun v=>a9 T (dH T dst s [b]) dst v
 |_=>none
def KJ(T:ae)(dst:bq)(sz bytes:Nat)(x y:VX)(s:XS)(v w:a8):bZ:=
 match v,w with
 |some (.d v),some (.d w)=>(bU sz bytes v w).map fun u=>a9 T ⟨du T s.r (if cQ T dst then [x,y]else [x]),s.B⟩ dst (.d u)
 |_,_=>none
def MK(T:ae)(L:Nat)(dst:bq)(k:Nat)(x:VX)(s:XS)(v:a8):bZ:=v.bind fun v=>if eO s.B (L+k)/\v.cells.all AV.isCell/\v.safe (L+k)then some (a9 T ⟨ek T s.r x,s.B.set (L+k) (some v.cells)⟩ dst (.ptr (L+k) 0))else none
def Hx(T:ae)(dst:bq)(sz n:Nat)(g:Tag)(xs:aw)(k:Nat)(s:XS)(e:cN):bZ:=e.bind fun e=>if e.cells.length=sz/\sz≠0 then some (a9 T (if T.contains n then⟨(n,.d (.sl g (xs.set k e.clr)))::s.r,s.B⟩else s) dst (.ep e.cells))else none
def Jw(T:ae)(dst:bq)(sz n:Nat)(s:XS)(v w:a8):bZ:=
 match v,w with
 |some (.d (.sl g xs)),some (.d (.int _ k))=>if 0<=k then Hx T dst sz n g xs k.toNat s (xs[k.toNat]?)else none
 |_,_=>none
def Bg(T:ae)(d:Bool)(L:Nat)(dst:bq)(agg:Bool)(sz:Nat)(x:VX)(s:XS)(a:a8):bZ:=
 match a with
 |some (.ep cs)=>(cut agg sz cs).map fun v=>a9 T (dH T dst s [x]) dst (.d v)
 |some (.ptr b off)=>if d/\L<=b then none else(aW s.B agg sz b off).map fun v=>a9 T (if cQ T dst then⟨s.r,pU s.B b off (if agg then sz else 1)⟩else s) dst v
 |_=>none
def OP(T:ae)(d:Bool)(L:Nat)(dst:bq)(init:Bool)(sz:Nat)(x:VX)(s:XS)(a v:a8):bZ:=
 match a,v with
 |some (.ptr b off),some v=>if nD d init L b then none else(oW s.B sz b off v).map fun B=>a9 T ⟨ek T s.r x,B⟩ dst .und
 |_,_=>none
def JP(T:ae)(d:Bool)(L:Nat)(dst:bq)(sz:Nat)(x:VX)(av:ae)(s:XS)(a v:a8):bZ:=
 match a,v with
 |some (.ptr b off),some v=>if nD d false L b|| !lD s.r b av then none else(oW s.B sz b off v).map fun B=>a9 T ⟨ek T s.r x,B⟩ dst .und
 |_,_=>none
def OF(b:Nat):a8->Bool
 |some (.ptr b' _)=>b' !=b
 |_=>false
theorem WC(r:aI)(b:Nat):lD r b []=true:=aJ rfl
theorem Uy(r:aI)(b t:Nat)(av:ae):lD r b (t::av)=(OF b (lk r t)&&lD r b av):=by unfold lD;simp only[fW];congr 1
theorem QK(b b' off:Nat):OF b (some (.ptr b' off))=(b' !=b):=aJ rfl
def yb(T:ae)(dst:bq)(n i:Nat)(s:XS)(v:a8):bZ:=
 match v with
 |some (.ag true vs)=>(vs[i]?).map fun v=>a9 T s dst v.clr
 |some (.d (.tup vs))=>(vs[i]?).map fun v=>a9 T (if cQ T dst&&T.contains n then⟨(n,.d (.tup (vs.set i v.clr)))::s.r,s.B⟩else s) dst (.d v)
 |_=>none
def Nr(T:ae)(d:Bool)(L:Nat)(dst:bq)(k sz bytes:Nat)(z:DV)(s:XS)(v:a8):bZ:=
 match v with
 |some (.d (.int _ n))=>
  if d=false/\eO s.B (L+k)/\0<=n/\n.toNat*bytes<=140737488355328/\n<9223372036854775808/\z.cells.length=sz/\z.cells.all DV.isCell then
   some (a9 T ⟨s.r,s.B.set (L+k) (some (((List.replicate n.toNat z.cn).flatMap DV.cells).map .d))⟩ dst (.bsl [] (isAgg z) (L+k) sz n.toNat))else none
 |_=>none
def DN(c:b_)(T:ae)(dst:bq)(s:XS)(f:a8)(vs:Option aH):bZ:=
 match f,vs with
 |some (.fn k caps),some vs=>
  match bd vs,caps with
  |some _,[]=>
   match c k (dp [] 0 vs) []with
   |some (.d v,_)=>some (a9 T s dst (.d v))
   |_=>none
  |_,_=>none
 |_,_=>none
def Ei(T:ae)(dst:bq)(s:XS)(ds:Option aw)(r:mr):bZ:=
 match ds with
 |some _=>
  match r with
  |some (.d v,_)=>some (a9 T s dst (.d v))
  |_=>none
 |none=>none
def Ad(T:ae)(dst:bq)(s:XS)(xs:cg)(b:Bool)(r:mr):bZ:=
 if b then
  match r with
  |some (v,B)=>some (a9 T ⟨du T s.r xs,B⟩ dst v)
  |none=>none
 else none
def xN(c:b_)(lin:Nat->ae)(T:ae)(dst:bq)(s:XS)(args:cg)(f:a8)(vs:Option aH):bZ:=
 match f,vs with
 |some (.fn k caps),some vs=>Ad T dst s (dm (lin k) 0 args) (c9 T (dm (lin k) 0 args)) (c k (dp (lin k) 0 vs++caps) s.B)
 |_,_=>none
def GO(T:ae)(dst:bq)(thaw:Bool)(s:XS)(r:mr):bZ:=
 match r with
 |some (.d v,_)=>tR T thaw s dst v
 |_=>none
def Be(c:b_)(T:ae)(dst:bq)(thaw:Bool)(s:XS)(k:Nat)(ds:Option aw):bZ:=ds.bind fun ds=>GO T dst thaw s (c k (dp [] 0 (ds.map .d)) [])
def xT(c:b_)(T:ae)(d:Bool)(dst:bq)(thaw:Bool)(s:XS)(f:a8)(vs:Option aH):bZ:=
 match f,vs with
 |some (.fn k []),some vs=>if d=false\/thaw=false then Be c T dst thaw s k (nP (AV.frz s.B) vs)else none
 |_,_=>none
def Pe(d:cN)(ds:Option aw):Option aw:=d.bind fun d=>ds.map (d::·)
def wq(v:a8)(vs:Option aH):Option aH:=match v,vs with|some v,some vs=>some (v::vs)|_,_=>none
def EF(v:DV)(vs:Option aw):Option aw:=vs.map (v::·)
def dO(a:cN):a8:=a.map .d
def CL(v:a8):a8:=match v with|some (.ptr i o)=>some (.ptr i o)|some (.ep cs)=>some (.ep cs)|some (.fn f c)=>some (.fn f c)|_=>none
def Jj(op:BinOp)(x y:a8):a8:=match x,y with|some (.d a),some (.d b)=>(nC op a b).map .d|_,_=>none
def Fg(neg:Bool)(ks:ae)(x y:a8):a8:=match x,y with|some (.d (.agg a)),some (.d (.agg b))=>(eU ks a b).map fun e=> au (if neg then !e else e)|_,_=>none
def Le(neg:Bool)(x y:a8):a8:=match x,y with|some (.d (.bool a)),some (.d (.bool b))=>some (au (if neg then !(a==b)else(a==b)))|_,_=>none
def LY(x:a8):a8:=match x with|some (.d (.bool b))=>some (.d (.bool !b))|_=>none
def N2(k:IntKind)(x:a8):a8:=match x with|some (.d (.int _ n))=>some (.d (.int k (k.wrap n)))|_=>none
def LM(x:a8):a8:=match x with|some (.d (.int _ n))=>some (.d (.str (Utf8.encode n)))|_=>none
def Lw(x:a8):a8:=match x with|some (.d (.sl _ xs))=>(bytesOf xs).map fun bs=> .d (.str ⟨bs.toArray⟩)|_=>none
def Jv(x i:a8):a8:=match x,i with|some (.d (.str s)),some (.d (.int _ n))=>if 0<=n then(ul s n.toNat).map fun b=> .d (.int .u8 b)else none|_,_=>none
def u7(sz:Nat)(x i:a8):a8:=
 match x,i with
 |some (.d (.sl _ xs)),some (.d (.int _ n))=>if 0<=n then(xs[n.toNat]?).bind fun e=>if e.cells.length=sz/\sz≠0 then some (.ep e.cells)else none else none
 |some (.bsl _ _ b a m),some (.d (.int _ n))=>if a=sz/\0<=n/\n<m then some (.ptr b (n.toNat*sz))else none
 |some (.tsl _ b a m),some (.d (.int _ n))=>if a=sz/\0<=n/\n<m then some (.ptr b (n.toNat*sz))else none
 |_,_=>none
def GG(sz:Nat)(e:cN):a8:=e.bind fun e=>if e.cells.length=sz/\sz≠0 then some (.ep e.cells)else none
def H3(sz m:Nat)(x i:a8):a8:=
 match x,i with
 |some (.ptr b o),some (.d (.int _ n))=>if 0<=n/\n<m then some (.ptr b (o+n.toNat*sz))else none
 |some (.ep cs),some (.d (.int _ n))=>if 0<=n/\n<m/\n.toNat*sz<=cs.length then some (.ep (cs.drop (n.toNat*sz)))else none
 |_,_=>none
def Gm(off:Nat)(x:a8):a8:=match x with|some (.ptr b o)=>some (.ptr b (o+off))|some (.ep cs)=>if off<=cs.length then some (.ep (cs.drop off))else none|_=>none
def rY(str:Bool)(x:a8):a8:=
 match str,x with
 |true,some (.d (.str s))=>some (aa s.size)
 |false,some (.d (.sl _ xs))=>some (aa xs.length)
 |false,some (.bsl _ _ _ _ n)=>some (aa n)
 |false,some (.tsl _ _ _ n)=>some (aa n)
 |_,_=>none
def Eb(x y:a8):a8:=match x,y with|some (.d (.int k a)),some (.d (.int k' b))=>if k=k' then some (.d (.int k (if b>a then b else a)))else none|_,_=>none
def Db(str:Bool)(sz:Nat)(x:a8)(lo hi:Option a8):a8:=
 match str,x,lo,hi with
 |true,some (.d (.str s)),some lo,some hi=>(gL s.size hi).bind fun h=>(gB h lo).map fun l=> .d (.str (s.extract l h))
 |false,some (.d (.sl g xs)),some lo,some hi=>if xs.all (fun e=>e.cells.length=sz)then(gL xs.length hi).bind fun h=>(gB h lo).map fun l=> .d (.sl (if g= .nil then .nil else .sub) ((xs.take h).drop l))else none
 |_,_,_,_=>none
def Iu(g:VX->a8)(cs:aw)(off size:Nat)(r:mP)(v:a8):Option aw:=
 match v with
 |some (.d v)=>if v.cells.length=size/\off+size<=cs.length/\v.cells.all DV.isCell then io g (splice cs off v.cells) r else none
 |_=>none
def GJ(g:VX->a8)(sz:Nat)(cs:aw)(i:Nat)(r:nT)(v:a8):Option aw:=
 match v with
 |some (.d v)=>if v.cells.length=sz/\i<cs.length/\v.cells.all DV.isCell then fj g sz (cs.set i v) r else none
 |_=>none
theorem UZ(c:b_)(lin:Nat->ae)(T:ae)(d:Bool)(L:Nat)(o:VOper)(os:aj)(s:XS):a7 c lin T d L (o::os) s=Eq (g9 s.r o.guard) c lin T d L o os s:=aJ rfl
theorem q3B(c:b_)(lin:Nat->ae)(T:ae)(d:Bool)(L:Nat)(s:XS):a7 c lin T d L [] s=some s:=aJ rfl
theorem qWu(c:b_)(lin:Nat->ae)(T:ae)(d:Bool)(L:Nat)(o:VOper)(os:aj)(s:XS):Eq (some true) c lin T d L o os s=Ka (bf c lin T d L o s) c lin T d L os:=aJ rfl
theorem Zu(c:b_)(lin:Nat->ae)(T:ae)(d:Bool)(L:Nat)(o:VOper)(os:aj)(s:XS):Eq (some false) c lin T d L o os s=a7 c lin T d L os (a9 T s o.dst .und):=aJ rfl
theorem qWy(s:XS)(c:b_)(lin:Nat->ae)(T:ae)(d:Bool)(L:Nat)(os:aj):Ka (some s) c lin T d L os=a7 c lin T d L os s:=aJ rfl
theorem VL(X:XEnv)(T:ae)(na:Nat)(live:ae)(ops:aj)(r:aI)(B:az):
 aS X T (.region false na live ops) ⟨r,B⟩=bp live (a7 (ak X) X.lin T false B.length ops ⟨r,B++List.replicate na none⟩):=by
 rw[Oo];simp[kV,bp,lN]
theorem bI(X:XEnv)(T:ae)(na:Nat)(live:ae)(ops:aj)(h:w5 ops=true)(r:aI)(B:az):
 aS X T (.region true na live ops) ⟨r,B⟩=bp live (a7 (ak X) X.lin T true B.length ops ⟨r,B++List.replicate na none⟩):=by
 rw[Oo];simp[kV,bp,lN,h]
theorem VH(live:ae)(r:aI)(B:az):bp live (some ⟨r,B⟩)=some (.normal,⟨keep r live,B⟩):=aJ rfl
theorem GA(X:XEnv)(T:ae)(id:Nat)(c:VCode)(s:XS):aS X T (.block id c) s=Mk id (aS X T c s):=qxw X T id c s
theorem Yo(id:Nat)(e:Ex)(s:XS):Mk id (some (e,s))=some (if e= .exit id then(.normal,s)else(e,s)):=aJ rfl
theorem W8(X:XEnv)(T:ae)(x:VX)(a b:VCode)(s:XS):aS X T (.cond x a b) s=GQ (bj s.r x) X T a b s:=by rw[qCj];rfl
theorem XU(X:XEnv)(T:ae)(a b:VCode)(s:XS):GQ (some (au true)) X T a b s=aS X T a s:=aJ rfl
theorem XY(X:XEnv)(T:ae)(a b:VCode)(s:XS):GQ (some (au false)) X T a b s=aS X T b s:=aJ rfl
theorem uE(X:XEnv)(f:Nat)(as:aH)(B:az)(vf:VFn)(e:X.nat f=none)(i:X.env.code f=some vf)(a:as.length=vf.np)(h:X.env.base f=none:=by first|rfl|assumption):
 ak X f as B=sE B.length vf.results (aS X (X.lin f) vf.code ⟨bA 0 as,B⟩):=qCw X f as B vf e i h a
theorem Lc(X:XEnv)(f:Nat)(as:aH)(B:az)(vf:VFn)(e:X.nat f=none)(i:X.env.code f=some vf)(a:as.length=vf.np)(h:X.env.base f=some m)(j:B.length=m):
 ak X f as B=sE B.length vf.results (aS X (X.lin f) vf.code ⟨bA 0 (AV.clrs as),fP B⟩):=QP X f as B vf e i h j a
theorem Vp(L:Nat)(rs:jn)(s:XS):sE L rs (some (.ret,s))=fO L s rs:=aJ rfl
theorem qWx(L:Nat)(rs:jn)(s:XS):sE L rs (some (.normal,s))=fO L s rs:=aJ rfl
theorem qsn(s:XS)(k:XS->dD):oB (some (.normal,s)) k=k s:=aJ rfl
theorem RH(s:XS)(k:XS->dD):oB (some (.ret,s)) k=some (.ret,s):=aJ rfl
theorem Zs(id:Nat)(s:XS)(k:XS->dD):oB (some (.exit id,s)) k=some (.exit id,s):=aJ rfl
section
variable (c:b_) (lin:Nat->ae) (T:ae) (d:Bool) (L:Nat) (dst:bq) (g:qG) (af:ae) (s:XS)
theorem XA(x:VX):bf c lin T d L ⟨dst,.move x,g,af⟩ s=mw T (dH T dst s [x]) dst (bj s.r x):=aJ rfl
theorem PN(z:aw)(ps:mP):bf c lin T d L ⟨dst,.build z ps,g,af⟩ s=mw T (dH T dst s (ps.map fun q=>q.2.2)) dst ((io (bj s.r) (z.map DV.cn1) ps).map fun cs=> .d (.agg cs)):=by simp only[bf,mw,Hl];rfl
theorem RX(x:VX):bf c lin T d L ⟨dst,.nilCheck x,g,af⟩ s=d_ T s dst (bm s.r (.nilCheck x)):=aJ rfl
theorem X6(op:BinOp)(x y:VX):bf c lin T d L ⟨dst,.bin op x y,g,af⟩ s=d_ T s dst (bm s.r (.bin op x y)):=aJ rfl
theorem qSf(neg:Bool)(ks:ae)(x y:VX):bf c lin T d L ⟨dst,.eqAgg neg ks x y,g,af⟩ s=d_ T s dst (bm s.r (.eqAgg neg ks x y)):=aJ rfl
theorem Y_(neg:Bool)(x y:VX):bf c lin T d L ⟨dst,.eqB neg x y,g,af⟩ s=d_ T s dst (bm s.r (.eqB neg x y)):=aJ rfl
theorem PL(x:VX):bf c lin T d L ⟨dst,.not x,g,af⟩ s=d_ T s dst (bm s.r (.not x)):=aJ rfl
theorem WM(k:Conv)(x:VX):bf c lin T d L ⟨dst,.conv k x,g,af⟩ s=d_ T s dst (bm s.r (.conv k x)):=aJ rfl
theorem UT(x y:VX):bf c lin T d L ⟨dst,.index x y,g,af⟩ s=d_ T s dst (bm s.r (.index x y)):=aJ rfl
theorem Yx(sz:Nat)(n:Nat)(y:VX):bf c lin T d L ⟨dst,.indexAddr sz none (.t n) y,g,af⟩ s=if cQ T dst then Jw T dst sz n s (lk s.r n) (bj s.r y)else d_ T s dst (bm s.r (.indexAddr sz none (.t n) y)):=by
 simp only[bf,xg];cases hl:cQ T dst with
 |true=>rfl
 |false=>rfl
theorem qsb(sz m:Nat)(x y:VX):bf c lin T d L ⟨dst,.indexAddr sz (some m) x y,g,af⟩ s=d_ T s dst (bm s.r (.indexAddr sz (some m) x y)):=by simp only[bf,xg];cases hl:cQ T dst<;>cases x<;>rfl
theorem ZO(sz:Nat)(v:AV)(y:VX):bf c lin T d L ⟨dst,.indexAddr sz none (.c v) y,g,af⟩ s=d_ T s dst (bm s.r (.indexAddr sz none (.c v) y)):=by simp only[bf,xg];cases hl:cQ T dst<;>rfl
theorem P6(off:Nat)(x:VX):bf c lin T d L ⟨dst,.fieldAddr off x,g,af⟩ s=d_ T s dst (bm s.r (.fieldAddr off x)):=aJ rfl
theorem qSb(str:Bool)(sz:Nat)(x:VX)(lo hi:nL):bf c lin T d L ⟨dst,.slice str sz x lo hi,g,af⟩ s=d_ T s dst (bm s.r (.slice str sz x lo hi)):=aJ rfl
theorem Qk(f:Nat)(cs:cg):bf c lin T d L ⟨dst,.makeFunc f cs,g,af⟩ s=d_ T s dst (bm s.r (.makeFunc f cs)):=aJ rfl
theorem Qi(str:Bool)(x:VX):bf c lin T d L ⟨dst,.len str x,g,af⟩ s=d_ T s dst (bm s.r (.len str x)):=aJ rfl
theorem V_(x y:VX):bf c lin T d L ⟨dst,.max x y,g,af⟩ s=d_ T s dst (bm s.r (.max x y)):=aJ rfl
theorem Sj(v:AV):d_ T s dst (some v)=some (a9 T s dst v.clr):=aJ rfl
theorem Ts(v:AV):mw T s dst (some v)=some (a9 T s dst v):=aJ rfl
theorem P8(r:aI)(B:az)(n:Nat)(v:AV):a9 T ⟨r,B⟩ (some n) v=⟨(n,if T.contains n then v else v.clr)::r,B⟩:=aJ rfl
theorem Zp(v:AV):a9 T s none v=s:=aJ rfl
theorem qWB(r:aI)(B:az)(xs:cg):dH T dst ⟨r,B⟩ xs=if cQ T dst then⟨du T r xs,B⟩else⟨r,B⟩:=aJ rfl
theorem V1(k:Nat)(z:aw):bf c lin T d L ⟨dst,.alloc k z,g,af⟩ s=if eO s.B (L+k)/\z.all DV.isCell then some (a9 T ⟨s.r,s.B.set (L+k) (some (z.map fun z=> .d z.cn1))⟩ dst (.ptr (L+k) 0))else none:=aJ rfl
theorem To(x a b:VX):bf c lin T d L ⟨dst,.pick x a b,g,af⟩ s=Oj T dst s a b (bj s.r x):=aJ rfl
theorem SS(sz bytes:Nat)(x y:VX):bf c lin T d L ⟨dst,.append sz bytes x y,g,af⟩ s=KJ T dst sz bytes x y s (bj s.r x) (bj s.r y):=aJ rfl
theorem q3H(k:Nat)(x:VX):bf c lin T d L ⟨dst,.box k x,g,af⟩ s=MK T L dst k x s (bj s.r x):=aJ rfl
theorem qWA(agg:Bool)(sz:Nat)(a:VX):bf c lin T d L ⟨dst,.load agg sz a,g,af⟩ s=Bg T d L dst agg sz a s (bj s.r a):=aJ rfl
theorem qLi(sz:Nat)(a x:VX)(av:ae):bf c lin T d L ⟨dst,.storeN sz a x av,g,af⟩ s=JP T d L dst sz x av s (bj s.r a) (bj s.r x):=aJ rfl
theorem qSa(init:Bool)(sz:Nat)(a x:VX):bf c lin T d L ⟨dst,.store init sz a x,g,af⟩ s=OP T d L dst init sz x s (bj s.r a) (bj s.r x):=aJ rfl
theorem qCT(n i:Nat):bf c lin T d L ⟨dst,.extract (.t n) i,g,af⟩ s=yb T dst n i s (lk s.r n):=aJ rfl
theorem Rn(k sz bytes:Nat)(z:DV)(x:VX):bf c lin T d L ⟨dst,.makeSlice k sz bytes z x,g,af⟩ s=Nr T d L dst k sz bytes z s (bj s.r x):=aJ rfl
theorem qsc(sz:Nat)(z:DV)(len:Nat)(ps:nT):bf c lin T d L ⟨dst,.buildSlice sz z len ps,g,af⟩ s=if z.cells.length=sz/\z.cells.all DV.isCell/\len*sz<=16777216/\len<=16777216 then NW T dst (dH T dst s (ps.map fun q=>q.2)) (fj (bj s.r) sz (List.replicate len z.cn) ps)else none:=aJ rfl
theorem q3E(f:VX)(args:cg):bf c lin T d L ⟨dst,.call true f args,g,af⟩ s=DN c T dst s (bj s.r f) (ju s.r args):=by simp only[bf,DN,if_true]<;>rfl
theorem Wm(f:VX)(args:cg):bf c lin T d L ⟨dst,.call false f args,g,af⟩ s=xN c lin T dst s args (bj s.r f) (ju s.r args):=by simp only[bf,xN,Ad,bh,if_false]<;>rfl
theorem Zw(k:Nat)(th:Bool)(vs:aH):xT c T false dst th s (some (.fn k [])) (some vs)=Be c T dst th s k (nP (AV.frz s.B) vs):=by simp only[xT,true_or,if_true]
theorem YY(k:Nat)(vs:aH):xT c T true dst false s (some (.fn k [])) (some vs)=Be c T dst false s k (nP (AV.frz s.B) vs):=by simp only[xT,or_true,if_true]
theorem q72(k:Nat)(th:Bool)(ds:aw):Be c T dst th s k (some ds)=GO T dst th s (c k (dp [] 0 (ds.map .d)) []):=aJ rfl
theorem q71(th:Bool)(v:DV)(B:az):GO T dst th s (some (.d v,B))=tR T th s dst v:=aJ rfl
theorem Vk(v:DV):tR T false s dst v=if v.allUT then some (a9 T s dst (.d v))else none:=by simp[tR]
theorem Ve(r:aI)(B:az)(v:DV):tR T true ⟨r,B⟩ dst v=if v.allUT then some (a9 T ⟨r,B++(v.clr.thaw B.length).2⟩ dst (v.clr.thaw B.length).1)else none:=by simp[tR]
theorem TW(a b:VX)(v:Bool):Oj T dst s a b (some (au v))=if v then mw T (dH T dst s [a]) dst (bj s.r a)else mw T (dH T dst s [b]) dst (bj s.r b):=by cases v<;>rfl
theorem Wq(sz bytes:Nat)(x y:VX)(v w:DV):KJ T dst sz bytes x y s (some (.d v)) (some (.d w))=CS T ⟨du T s.r (if cQ T dst then [x,y]else [x]),s.B⟩ dst (bU sz bytes v w):=aJ rfl
theorem q3T(k:Nat)(x:VX)(v:AV):MK T L dst k x s (some v)=if eO s.B (L+k)/\v.cells.all AV.isCell/\v.safe (L+k)then some (a9 T ⟨ek T s.r x,s.B.set (L+k) (some v.cells)⟩ dst (.ptr (L+k) 0))else none:=aJ rfl
theorem X0(agg:Bool)(sz:Nat)(x:VX)(cs:aw):Bg T d L dst agg sz x s (some (.ep cs))=if cQ T dst then mw T (dH T dst s [x]) dst ((cut agg sz cs).map .d)else d_ T s dst ((cut agg sz cs).map .d):=by
 simp only[Bg,d_,mw,Hl];cases hl:cQ T dst with
 |true=>rfl
 |false=>
  simp only[bh,if_false];cases cut agg sz cs with
  |none=>rfl
  |some v=>
   simp only[b7,Function.comp,dH,hl,bh,if_false];cases dst with
   |none=>rfl
   |some n=>simp only[cQ]at hl;simp only[a9,hl,bh,if_false,AV.clr,DV.qiT]
theorem QD(sz n:Nat)(g:Tag)(xs:aw)(a:IntKind)(k:Int):Jw T dst sz n s (some (.d (.sl g xs))) (some (.d (.int a k)))=if 0<=k then Hx T dst sz n g xs k.toNat s (xs[k.toNat]?)else none:=aJ rfl
theorem q3P(sz n:Nat)(g:Tag)(xs:aw)(k:Nat)(e:DV):Hx T dst sz n g xs k s (some e)=if e.cells.length=sz/\sz≠0 then some (a9 T (if T.contains n then⟨(n,.d (.sl g (xs.set k e.clr)))::s.r,s.B⟩else s) dst (.ep e.cells))else none:=aJ rfl
theorem Xy(agg:Bool)(sz b off:Nat)(x:VX):Bg T d L dst agg sz x s (some (.ptr b off))=if d/\L<=b then none else mw T (if cQ T dst then⟨s.r,pU s.B b off (if agg then sz else 1)⟩else s) dst (aW s.B agg sz b off):=aJ rfl
theorem qMe(sz:Nat)(x:VX)(av:ae)(b off:Nat)(v:AV):JP T d L dst sz x av s (some (.ptr b off)) (some v)=if nD d false L b|| !lD s.r b av then none else EX T ⟨ek T s.r x,s.B⟩ dst (oW s.B sz b off v):=aJ rfl
theorem VV(init:Bool)(sz:Nat)(x:VX)(b off:Nat)(v:AV):OP T d L dst init sz x s (some (.ptr b off)) (some v)=if nD d init L b then none else EX T ⟨ek T s.r x,s.B⟩ dst (oW s.B sz b off v):=aJ rfl
theorem SR(r:aI)(B B':az):EX T ⟨r,B⟩ dst (some B')=some (a9 T ⟨r,B'⟩ dst .und):=aJ rfl
theorem XF(n i:Nat)(vs:aw):yb T dst n i s (some (.d (.tup vs)))=CS T (if cQ T dst&&T.contains n then⟨(n,.d (.tup (vs.set i ((vs[i]?).getD (.bool false)).clr)))::s.r,s.B⟩else s) dst (vs[i]?):=by
 simp only[yb,CS];cases hv:vs[i]? with
 |none=>rfl
 |some v=>simp
theorem VQ(n i:Nat)(vs:aH):yb T dst n i s (some (.ag true vs))=d_ T s dst (vs[i]?):=by simp only[yb,d_]
theorem q7Z(k sz bytes:Nat)(z:DV)(a:IntKind)(n:Int):Nr T d L dst k sz bytes z s (some (.d (.int a n)))=if d=false/\eO s.B (L+k)/\0<=n/\n.toNat*bytes<=140737488355328/\n<9223372036854775808/\z.cells.length=sz/\z.cells.all DV.isCell then
 some (a9 T ⟨s.r,s.B.set (L+k) (some (((List.replicate n.toNat z.cn).flatMap DV.cells).map .d))⟩ dst (.bsl [] (isAgg z) (L+k) sz n.toNat))else none:=aJ rfl
theorem Pi(xs:aw):NW T dst s (some xs)=some (a9 T s dst (.d (.sl U xs))):=aJ rfl
theorem Pj(k:Nat)(vs:aH):DN c T dst s (some (.fn k [])) (some vs)=Ei T dst s (bd vs) (c k (dp [] 0 vs) []):=by simp only[DN,Ei];cases bd vs<;>rfl
theorem W_(ds:aw)(v:DV)(B:az):Ei T dst s (some ds) (some (.d v,B))=some (a9 T s dst (.d v)):=aJ rfl
theorem Z6(args:cg)(k:Nat)(caps vs:aH):xN c lin T dst s args (some (.fn k caps)) (some vs)=Ad T dst s (dm (lin k) 0 args) (c9 T (dm (lin k) 0 args)) (c k (dp (lin k) 0 vs++caps) s.B):=aJ rfl
theorem Y8(xs:cg)(r:aI)(a:az)(v:AV)(B:az):Ad T dst ⟨r,a⟩ xs true (some (v,B))=some (a9 T ⟨du T r xs,B⟩ dst v):=aJ rfl
theorem X5(v:DV):CS T s dst (some v)=some (a9 T s dst (.d v)):=aJ rfl
end
theorem Y6(r:aI)(x:VX):bm r (.nilCheck x)=CL (x.get r):=aJ rfl
theorem T8(r:aI)(op:BinOp)(x y:VX):bm r (.bin op x y)=Jj op (x.get r) (y.get r):=aJ rfl
theorem Tj(r:aI)(neg:Bool)(ks:ae)(x y:VX):bm r (.eqAgg neg ks x y)=Fg neg ks (x.get r) (y.get r):=aJ rfl
theorem q6d(r:aI)(neg:Bool)(x y:VX):bm r (.eqB neg x y)=Le neg (x.get r) (y.get r):=aJ rfl
theorem q6a(r:aI)(x:VX):bm r (.not x)=LY (x.get r):=aJ rfl
theorem q2t(r:aI)(k:IntKind)(x:VX):bm r (.conv (.kind k) x)=N2 k (x.get r):=aJ rfl
theorem UN(r:aI)(x:VX):bm r (.conv .rune x)=LM (x.get r):=aJ rfl
theorem qVl(r:aI)(x:VX):bm r (.conv .bytes x)=Lw (x.get r):=aJ rfl
theorem Y9(r:aI)(x y:VX):bm r (.index x y)=Jv (x.get r) (y.get r):=aJ rfl
theorem Rp(r:aI)(sz:Nat)(x y:VX):bm r (.indexAddr sz none x y)=u7 sz (x.get r) (y.get r):=aJ rfl
theorem S9(r:aI)(sz m:Nat)(x y:VX):bm r (.indexAddr sz (some m) x y)=H3 sz m (x.get r) (y.get r):=aJ rfl
theorem VG(r:aI)(off:Nat)(x:VX):bm r (.fieldAddr off x)=Gm off (x.get r):=aJ rfl
theorem Zr(r:aI)(f:Nat)(cs:cg):bm r (.makeFunc f cs)=(fM r cs).map fun vs=> .fn f vs:=aJ rfl
theorem Qc(r:aI)(str:Bool)(x:VX):bm r (.len str x)=rY str (x.get r):=by
 cases str<;>simp only[bm,rY]<;>(cases h:x.get r with
  |none=>rfl
  |some v=>cases v with
   |d w=>cases w<;>rfl
   |_=>rfl)
theorem Uj(r:aI)(x y:VX):bm r (.max x y)=Eb (x.get r) (y.get r):=aJ rfl
theorem qVi(r:aI)(str:Bool)(sz:Nat)(x:VX)(lo hi:nL):bm r (.slice str sz x lo hi)=Db str sz (x.get r) (eD r lo) (eD r hi):=by
 cases str<;>simp only[bm,Db]<;>(cases h:x.get r with
  |none=>rfl
  |some v=>cases v with
   |d w=>cases w<;>cases eD r lo<;>cases eD r hi<;>rfl
   |_=>rfl)
theorem q2f(i o:Nat):CL (some (.ptr i o))=some (.ptr i o):=aJ rfl
theorem q2e(cs:aw):CL (some (.ep cs))=some (.ep cs):=aJ rfl
theorem Rq(f:Nat)(c:aH):CL (some (.fn f c))=some (.fn f c):=aJ rfl
theorem q58(op:BinOp)(a b:DV):Jj op (some (.d a)) (some (.d b))=dO (nC op a b):=aJ rfl
theorem Vr(a:DV):dO (some a)=some (.d a):=aJ rfl
theorem Xd(neg:Bool)(ks:ae)(a b:aw):Fg neg ks (some (.d (.agg a))) (some (.d (.agg b)))=(eU ks a b).map fun e=> au (if neg then !e else e):=aJ rfl
theorem Wp(neg:Bool)(a b:Bool):Le neg (some (au a)) (some (au b))=some (au (if neg then !(a==b)else(a==b))):=aJ rfl
theorem UE(b:Bool):LY (some (au b))=some (.d (.bool !b)):=aJ rfl
theorem q2k(k k':IntKind)(n:Int):N2 k (some (.d (.int k' n)))=some (.d (.int k (k.wrap n))):=aJ rfl
theorem Tg(k':IntKind)(n:Int):LM (some (.d (.int k' n)))=some (.d (.str (Utf8.encode n))):=aJ rfl
theorem Tp(g:Tag)(xs:aw):Lw (some (.d (.sl g xs)))=(bytesOf xs).map fun bs=> .d (.str ⟨bs.toArray⟩):=aJ rfl
theorem VF(s:ByteArray)(k:IntKind)(n:Int):Jv (some (.d (.str s))) (some (.d (.int k n)))=if 0<=n then(ul s n.toNat).map fun b=> .d (.int .u8 b)else none:=aJ rfl
theorem VB(sz:Nat)(g:Tag)(xs:aw)(k:IntKind)(n:Int):u7 sz (some (.d (.sl g xs))) (some (.d (.int k n)))=if 0<=n then GG sz (xs[n.toNat]?)else none:=by simp only[u7,GG]
theorem Ud(sz:Nat)(e:DV):GG sz (some e)=if e.cells.length=sz/\sz≠0 then some (.ep e.cells)else none:=aJ rfl
theorem QN(sz:Nat)(id:Id)(a:Bool)(b s' m:Nat)(k:IntKind)(n:Int):u7 sz (some (.bsl id a b s' m)) (some (.d (.int k n)))=if s'=sz/\0<=n/\n<m then some (.ptr b (n.toNat*sz))else none:=aJ rfl
theorem PZ(sz:Nat)(a:Bool)(b s' m:Nat)(k:IntKind)(n:Int):u7 sz (some (.tsl a b s' m)) (some (.d (.int k n)))=if s'=sz/\0<=n/\n<m then some (.ptr b (n.toNat*sz))else none:=aJ rfl
theorem q59(sz m b o:Nat)(k:IntKind)(n:Int):H3 sz m (some (.ptr b o)) (some (.d (.int k n)))=if 0<=n/\n<m then some (.ptr b (o+n.toNat*sz))else none:=aJ rfl
theorem Vv(sz m:Nat)(cs:aw)(k:IntKind)(n:Int):H3 sz m (some (.ep cs)) (some (.d (.int k n)))=if 0<=n/\n<m/\n.toNat*sz<=cs.length then some (.ep (cs.drop (n.toNat*sz)))else none:=aJ rfl
theorem YI(off b o:Nat):Gm off (some (.ptr b o))=some (.ptr b (o+off)):=aJ rfl
theorem qOq(off:Nat)(cs:aw):Gm off (some (.ep cs))=if off<=cs.length then some (.ep (cs.drop off))else none:=aJ rfl
theorem Uo(s:ByteArray):rY true (some (.d (.str s)))=some (aa s.size):=aJ rfl
theorem QW(g:Tag)(xs:aw):rY false (some (.d (.sl g xs)))=some (aa xs.length):=aJ rfl
theorem q2g(a:Bool)(i s n:Nat):rY false (some (.tsl a i s n))=some (aa n):=aJ rfl
theorem U7(a:Bool)(i s n:Nat)(r:aH):bd (.tsl a i s n::r)=none:=aJ rfl
theorem qCa(v:DV):EF v none=none:=aJ rfl
theorem qCC(cs:aH):qn cs none=if cs.all AV.plainT then some (.ag false cs)else none:=aJ rfl
theorem Sl(k:IntKind)(n:Int):(AV.d (.int k n)).plainT=true:=aJ rfl
theorem qwJ(b:Bool):(AV.d (.bool b)).plainT=true:=aJ rfl
theorem YC(b:ByteArray):(AV.d (.str b)).plainT=true:=aJ rfl
theorem qBw(g:Tag):(AV.d (.sl g [])).plainT=true:=aJ rfl
theorem UU(a:Bool)(i s n:Nat):(AV.tsl a i s n).plainT=true:=aJ rfl
theorem qOC(a:Bool)(i s n:Nat):(AV.tsl a i s n).clr= .tsl a i s n:=by simp only[AV.clr]
theorem YN(t:Bool)(cs:aH):(AV.ag t cs).clr= .ag t (AV.clrs cs):=by simp only[AV.clr]
theorem qCB(cs:aH)(ds:aw):qn cs (some ds)=some (.d (.agg ds)):=aJ rfl
theorem Zg(f:AV->cN):nP f []=some []:=aJ rfl
theorem ZA(f:AV->cN)(v:AV)(r:aH):nP f (v::r)=Pe (f v) (nP f r):=aJ rfl
theorem qJx(d:DV)(ds:aw):Pe (some d) (some ds)=some (d::ds):=aJ rfl
theorem TR(B:az)(v:DV):AV.frz B (.d v)=some v:=by unfold AV.frz;cases B.length<;>simp only[AV.frzC]
theorem q2i(id:Id)(a:Bool)(i s n:Nat):rY false (some (.bsl id a i s n))=some (aa n):=aJ rfl
theorem T2(k:IntKind)(a b:Int):Eb (some (.d (.int k a))) (some (.d (.int k b)))=some (.d (.int k (if b>a then b else a))):=by simp[Eb]
theorem WF(sz:Nat)(s:ByteArray)(lo hi:a8):Db true sz (some (.d (.str s))) (some lo) (some hi)=(gL s.size hi).bind fun h=>(gB h lo).map fun l=> .d (.str (s.extract l h)):=aJ rfl
theorem Qf(sz:Nat)(g:Tag)(xs:aw)(lo hi:a8):Db false sz (some (.d (.sl g xs))) (some lo) (some hi)=if xs.all (fun e=>e.cells.length=sz)then(gL xs.length hi).bind fun h=>(gB h lo).map fun l=> .d (.sl (if g= .nil then .nil else .sub) ((xs.take h).drop l))else none:=aJ rfl
theorem qJw(r:aI):eD r none=some none:=aJ rfl
theorem qJv(r:aI)(x:VX):eD r (some x)=(x.get r).map some:=aJ rfl
theorem Qa(n:Nat):gL n none=some n:=aJ rfl
theorem qUe(n:Nat):gB n none=some 0:=aJ rfl
theorem SB(n:Nat)(k:IntKind)(h:Int):gL n (some (.d (.int k h)))=if 0<=h/\h.toNat<=n then some h.toNat else none:=aJ rfl
theorem Xk(n:Nat)(k:IntKind)(h:Int):gB n (some (.d (.int k h)))=if 0<=h/\h.toNat<=n then some h.toNat else none:=aJ rfl
theorem qOi(r:aI):fM r []=some []:=aJ rfl
theorem qJq(r:aI)(x:VX)(xs:cg):fM r (x::xs)=wq (x.get r) (fM r xs):=by simp only[fM,wq];cases x.get r<;>cases fM r xs<;>rfl
theorem TV(v:AV)(vs:aH):wq (some v) (some vs)=some (v::vs):=aJ rfl
theorem VM(r:aI)(n:Nat):bj r (.t n)=lk r n:=aJ rfl
theorem qWG(r:aI)(v:DV):bj r (.c (.d v))=some (.d v.cn):=aJ rfl
theorem VI(r:aI)(f:Nat):bj r (.c (.fn f []))=some (.fn f []):=by simp[bj,AV.clr,AV.clrs]
theorem qC6(r:aI):bj r (.c .nilp)=some .nilp:=by simp[bj,AV.clr]
theorem qAY(T:ae)(r:aI):du T r []=r:=aJ rfl
theorem qvm(T:ae)(r:aI)(x:VX)(xs:cg):du T r (x::xs)=du T (ek T r x) xs:=aJ rfl
theorem WJ(T:ae)(r:aI)(v:AV):ek T r (.c v)=r:=aJ rfl
theorem qC7(T:ae)(r:aI)(n:Nat)(h:T.contains n=false):ek T r (.t n)=r:=by simp only[ek,h];simp
theorem WW(T:ae)(r:aI)(n:Nat)(h:T.contains n=true)(v:AV)(a:lk r n=some v):ek T r (.t n)=(n,v.clr)::r:=by simp only[ek,h,a];simp
theorem qBM(T:ae):cQ T none=false:=aJ rfl
theorem qBL(T:ae)(d:Nat):cQ T (some d)=T.contains d:=aJ rfl
theorem q2N(k:IntKind)(n:Int):(DV.int k n).cn= .int k n:=by simp[DV.cn,DV.cn1,DV.clr]
theorem Zd(b:Bool):(DV.bool b).cn= .bool b:=by simp[DV.cn,DV.cn1,DV.clr]
theorem Vf(s:ByteArray):(DV.str s).cn= .str s:=by simp[DV.cn,DV.cn1,DV.clr]
theorem X8:(DV.sl .nil []).cn= .sl U []:=by simp[DV.cn,DV.cn1]
theorem Xo(cs:aw):(DV.agg cs).cn= .agg (cs.map DV.cn1):=aJ rfl
theorem qVz(k:IntKind)(n:Int):(DV.int k n).cn1= .int k n:=by simp[DV.cn1,DV.clr]
theorem QU(b:Bool):(DV.bool b).cn1= .bool b:=by simp[DV.cn1,DV.clr]
theorem RY(s:ByteArray):(DV.str s).cn1= .str s:=by simp[DV.cn1,DV.clr]
theorem qVy:(DV.sl .nil []).cn1= .sl U []:=by simp[DV.cn1]
theorem Lq(k:IntKind)(n:Int):(DV.int k n).clr= .int k n:=by simp[DV.clr]
theorem qOA(b:Bool):(DV.bool b).clr= .bool b:=by simp[DV.clr]
theorem O6(s:ByteArray):(DV.str s).clr= .str s:=by simp[DV.clr]
theorem LR(g:Tag)(xs:aw):(DV.sl g xs).clr= .sl .sub (xs.map DV.clr):=by simp[DV.clr,DV.qay]
theorem qVC(xs:aw):(DV.agg xs).clr= .agg (xs.map DV.clr):=by simp[DV.clr,DV.qay]
theorem Yt(xs:aw):(DV.tup xs).clr= .tup (xs.map DV.clr):=by simp[DV.clr,DV.qay]
theorem Yd(v:DV):(AV.d v).clr= .d v.clr:=by simp[AV.clr]
theorem Sa(i o:Nat):(AV.ptr i o).clr= .ptr i o:=by simp[AV.clr]
theorem Tz(cs:aw):(AV.ep cs).clr= .ep (cs.map DV.clr):=by simp[AV.clr,DV.qay]
theorem Vm(f:Nat)(cs:aH):(AV.fn f cs).clr= .fn f (cs.map AV.clr):=by simp[AV.clr,AV.qay]
theorem V7:AV.nilp.clr= .nilp:=by simp[AV.clr]
theorem Z3(id:Id)(a:Bool)(i sz n:Nat):(AV.bsl id a i sz n).clr= .bsl id a i sz n:=by simp[AV.clr]
theorem qOB:AV.und.clr= .und:=by simp[AV.clr]
theorem qC1(LP:ae)(j:Nat):dp LP j []=[]:=aJ rfl
theorem P1(LP:ae)(j:Nat)(v:AV)(r:aH):dp LP j (v::r)=(if LP.contains j then v else v.clr)::dp LP (j+1) r:=aJ rfl
theorem qvl(LP:ae)(j:Nat):dm LP j []=[]:=aJ rfl
theorem MI(j:Nat):∀xs:cg,dm [] j xs=[]
 | []=>rfl
 |x::xs=>by simp[dm,MI (j+1) xs]
theorem qsg(LP:ae)(j:Nat)(v:VX)(r:cg):dm LP j (v::r)=if LP.contains j then v::dm LP (j+1) r else dm LP (j+1) r:=aJ rfl
theorem Sz(r:aI):ju r []=some []:=aJ rfl
theorem VZ(r:aI)(x:VX)(xs:cg):ju r (x::xs)=wq (bj r x) (ju r xs):=by simp only[ju,wq];cases bj r x<;>cases ju r xs<;>rfl
theorem P5:bd []=some []:=aJ rfl
theorem QQ(v:DV)(r:aH):bd (.d v::r)=EF v (bd r):=aJ rfl
theorem ZQ(v:DV)(r:aw):EF v (some r)=some (v::r):=aJ rfl
theorem Xu(T:ae):c9 T []=true:=aJ rfl
theorem Vh(g:VX->a8)(cs:aw):io g cs []=some cs:=aJ rfl
theorem U9(g:VX->a8)(cs:aw)(off size:Nat)(x:VX)(r:mP):io g cs ((off,size,x)::r)=Iu g cs off size r (g x):=by simp only[io,Iu]<;>rfl
theorem SV(g:VX->a8)(cs:aw)(off size:Nat)(r:mP)(v:DV):Iu g cs off size r (some (.d v))=if v.cells.length=size/\off+size<=cs.length/\v.cells.all DV.isCell then io g (splice cs off v.cells) r else none:=aJ rfl
theorem VU(g:VX->a8)(sz:Nat)(cs:aw):fj g sz cs []=some cs:=aJ rfl
theorem V5(g:VX->a8)(sz:Nat)(cs:aw)(i:Nat)(x:VX)(r:nT):fj g sz cs ((i,x)::r)=GJ g sz cs i r (g x):=by simp only[fj,GJ]<;>rfl
theorem q53(g:VX->a8)(sz:Nat)(cs:aw)(i:Nat)(r:nT)(v:DV):GJ g sz cs i r (some (.d v))=if v.cells.length=sz/\i<cs.length/\v.cells.all DV.isCell then fj g sz (cs.set i v) r else none:=aJ rfl
theorem Td(rs:aw):oC rs []=true:=aJ rfl
theorem Vn(rs:aw)(t:Nat)(v:AV)(r:aI):oC rs ((t,v)::r)=(v.xrest rs&&oC rs r):=aJ rfl
theorem qqx(rs:aw):lR rs []=true:=aJ rfl
theorem qnU(rs:aw)(B:az):lR rs (none::B)=lR rs B:=by simp only[lR,fW,eF]
def B8(rs:aw)(cs:aH):Bool:=cs.all (AV.xrest rs)
theorem qrO(rs:aw):B8 rs []=true:=aJ rfl
theorem qod(rs:aw)(v:AV)(cs:aH):B8 rs (v::cs)=(v.xrest rs&&B8 rs cs):=aJ rfl
theorem WL(rs:aw)(cs:aH)(B:az):lR rs (some cs::B)=(B8 rs cs&&lR rs B):=aJ rfl
theorem Tk(rs:aw)(v:DV):AV.xrest rs (.d v)=v.xrest rs:=aJ rfl
theorem qCJ(rs:aw)(i o:Nat):AV.xrest rs (.ptr i o)=true:=aJ rfl
theorem P_(rs:aw)(a:Bool)(i sz n:Nat):AV.xrest rs (.tsl a i sz n)=true:=aJ rfl
theorem UP(rs:aw):AV.xrest rs .und=true:=aJ rfl
theorem qCZ(rs:aw)(k:IntKind)(n:Int):DV.xrest rs (.int k n)=true:=by simp only[DV.xrest]
theorem Sq(rs:aw)(b:Bool):DV.xrest rs (.bool b)=true:=by simp only[DV.xrest]
theorem YD(rs:aw)(s:ByteArray):DV.xrest rs (.str s)=true:=by simp only[DV.xrest]
theorem RJ(rs cs:aw):DV.xrest rs (.agg cs)=DV.xrests rs cs:=by simp only[DV.xrest]
theorem Wt(rs xs:aw):DV.xrest rs (.sl U xs)=DV.xrests rs xs:=by simp only[DV.xrest,decide_true,Dy,eF]
theorem SU(rs:aw)(g:Tag):DV.xrest rs (.sl g [])=true:=by simp[DV.xrest,DV.xrests]
theorem Z0(rs:aw):DV.xrests rs []=true:=by simp only[DV.xrests]
theorem Sp(rs:aw)(v:DV)(r:aw):DV.xrests rs (v::r)=(v.xrest rs&&DV.xrests rs r):=by simp only[DV.xrests]
attribute [simp] qrO qod Td Vn qqx qnU WL Tk qCJ P_ UP qCZ Sq YD RJ Wt SU Z0 Sp
theorem T5:fP []=[]:=aJ rfl
theorem Wd(cs:aH)(B:az):fP (some cs::B)=some (AV.clrs cs)::fP B:=aJ rfl
theorem Xf(B:az):fP (none::B)=none::fP B:=aJ rfl
theorem qKn:AV.clrs []=[]:=by simp only[AV.clrs]
theorem Ru(v:AV)(r:aH):AV.clrs (v::r)=v.clr::AV.clrs r:=by simp only[AV.clrs]
attribute [simp] T5 Wd Xf qKn Ru
def EB(c:b_)(lin:Nat->ae)(T:ae)(d:Bool)(L:Nat)(fs:d5)(o:bZ):bZ:=o.bind (ey c lin T d L fs)
def Jm(c:b_)(lin:Nat->ae)(T:ae)(d:Bool)(L:Nat)(f:FOper)(fs:d5)(o:bZ):bZ:=o.bind fun s=>EB c lin T d L fs (i9 T f s)
def E5(T:ae)(a d3 sz:Nat)(ok:Bool)(s:XS)(v:a8)(lo hi:Option a8):bZ:=
 match v,lo,hi with
 |some (.d (.sl g xs)),some lo,some hi=>
  if ok=true/\xs.all (fun e=>e.cells.length=sz)then
   (gL xs.length hi).bind fun h=>(gB h lo).map fun l=>a9 T ⟨(a,.d (.sl g (fX xs l h)))::s.r,s.B⟩ (some d3) (.d (.sl .sub ((xs.take h).drop l)))
  else none
 |_,_,_=>none
def xd(T:ae)(d4 sz:Nat)(s:XS)(b off:Nat)(cs:aH)(g:Tag)(xs:aw)(k:Nat)(e:cN):bZ:=
 match e with
 |some (.agg es)=>if es.length=sz then some (a9 T ⟨s.r,s.B.set b (some (cs.set off (.d (.sl g (xs.set k (DV.agg es).clr)))))⟩ (some d4) (.d (.agg es)))else none
 |_=>none
def Dx(T:ae)(d4 sz:Nat)(s:XS)(b off:Nat)(cs:aH)(k:Nat)(v:a8):bZ:=
 match v with
 |some (.d (.sl g xs))=>xd T d4 sz s b off cs g xs k (xs[k]?)
 |_=>none
def Io(T:ae)(d4 sz:Nat)(ok:Bool)(s:XS)(v w:a8):bZ:=
 match v,w with
 |some (.ptr b off),some (.d (.int _ k))=>if ok=true/\0<=k/\sz≠0 then(cd s.B b).bind fun cs=>Dx T d4 sz s b off cs k.toNat (cs[off]?)else none
 |_,_=>none
theorem ZR(c:b_)(lin:Nat->ae)(T:ae)(d:Bool)(L:Nat)(f:FOper)(fs:d5)(s:XS):ey c lin T d L (f::fs) s=Jm c lin T d L f fs (a7 c lin T d L f.pre s):=aJ rfl
theorem Yq(c:b_)(lin:Nat->ae)(T:ae)(d:Bool)(L:Nat)(s:XS):ey c lin T d L [] s=some s:=aJ rfl
theorem Zv(c:b_)(lin:Nat->ae)(T:ae)(d:Bool)(L:Nat)(f:FOper)(fs:d5)(s:XS):Jm c lin T d L f fs (some s)=EB c lin T d L fs (i9 T f s):=aJ rfl
theorem Uv(c:b_)(lin:Nat->ae)(T:ae)(d:Bool)(L:Nat)(fs:d5)(s:XS):EB c lin T d L fs (some s)=ey c lin T d L fs s:=aJ rfl
theorem QA(T:ae)(o:VOper)(s:XS):i9 T (.one o) s=some s:=aJ rfl
theorem q3u(T:ae)(d1 a d2:Nat)(b:VX)(d3 sz:Nat)(lo hi:nL)(f1 f2 f3:ae)(s:XS):i9 T (.sl d1 a d2 b d3 sz lo hi f1 f2 f3) s=E5 T a d3 sz (decide (T.contains a=true/\T.contains d3=true/\d1≠a/\d2≠a/\d1≠d2)) s (lk s.r a) (eD s.r lo) (eD s.r hi):=by simp only[i9,E5,cA];rfl
theorem q3N(T:ae)(a d3 sz:Nat)(ok:Bool)(s:XS)(g:Tag)(xs:aw)(lo hi:a8):E5 T a d3 sz ok s (some (.d (.sl g xs))) (some lo) (some hi)=if ok=true/\xs.all (fun e=>e.cells.length=sz)then
 (gL xs.length hi).bind fun h=>(gB h lo).map fun l=>a9 T ⟨(a,.d (.sl g (fX xs l h)))::s.r,s.B⟩ (some d3) (.d (.sl .sub ((xs.take h).drop l)))
 else none:=aJ rfl
theorem q3w(T:ae)(d1 q d2:Nat)(b:VX)(d3 sz d4:Nat)(f1 f2 f3 f4:ae)(s:XS):i9 T (.el d1 q d2 b d3 sz d4 f1 f2 f3 f4) s=Io T d4 sz (decide (T.contains d4=true/\d1≠q/\d2≠q/\d3≠q/\d1≠d2/\d3≠d2)) s (lk s.r q) (lk s.r d2):=by simp only[i9,Io,Dx,xd,cA];rfl
theorem q3O(T:ae)(d4 sz:Nat)(ok:Bool)(s:XS)(b off:Nat)(a:IntKind)(k:Int):Io T d4 sz ok s (some (.ptr b off)) (some (.d (.int a k)))=if ok=true/\0<=k/\sz≠0 then(cd s.B b).bind fun cs=>Dx T d4 sz s b off cs k.toNat (cs[off]?)else none:=aJ rfl
theorem RD(T:ae)(d4 sz:Nat)(s:XS)(b off:Nat)(cs:aH)(k:Nat)(g:Tag)(xs:aw):Dx T d4 sz s b off cs k (some (.d (.sl g xs)))=xd T d4 sz s b off cs g xs k (xs[k]?):=aJ rfl
theorem S0(T:ae)(d4 sz:Nat)(s:XS)(b off:Nat)(cs:aH)(g:Tag)(xs:aw)(k:Nat)(es:aw):xd T d4 sz s b off cs g xs k (some (.agg es))=if es.length=sz then some (a9 T ⟨s.r,s.B.set b (some (cs.set off (.d (.sl g (xs.set k (DV.agg es).clr)))))⟩ (some d4) (.d (.agg es)))else none:=aJ rfl
theorem Py(X:XEnv)(T:ae)(na:Nat)(live:ae)(fs:d5)(r:aI)(B:az):
 aS X T (.regionF false na live fs) ⟨r,B⟩=bp live (ey (ak X) X.lin T false B.length fs ⟨r,B++List.replicate na none⟩):=by
 rw[I0];simp[lp,bp,lN]
theorem U3(X:XEnv)(T:ae)(na:Nat)(live:ae)(fs:d5)(h:w5 (iJ fs)=true)(r:aI)(B:az):
 aS X T (.regionF true na live fs) ⟨r,B⟩=bp live (ey (ak X) X.lin T true B.length fs ⟨r,B++List.replicate na none⟩):=by
 rw[I0];simp[lp,bp,lN,h]
def yw(live:ae)(t:Nat)(s1:XS)(a b c:a8):dD:=
 match a,b,c with
 |some (.d (.sl (.own [] 0) xs)),some (.d (.int _ k)),some (.d (.int e v))=>if 0<=k/\k<xs.length/\xs.all (da e)=true/\live.contains t=false/\oC xs (keep s1.r live)=true/\lR xs s1.B=true then some (.normal,⟨(t,.d (.sl U (xs.set k.toNat (.int e v))))::keep s1.r live,s1.B⟩)else none
 |_,_,_=>none
def G4(live:ae)(t:Nat)(i x:VX)(o:bZ):dD:=
 match o with
 |some s=>yw live t s (lk s.r t) (bj s.r i) (bj s.r x)
 |none=>none
theorem SF(live:ae)(t:Nat)(i x:VX)(s:XS):G4 live t i x (some s)=yw live t s (lk s.r t) (bj s.r i) (bj s.r x):=aJ rfl
theorem Yb(live:ae)(t:Nat)(s1:XS)(xs:aw)(e a:IntKind)(k v:Int):yw live t s1 (some (.d (.sl U xs))) (some (.d (.int e k))) (some (.d (.int a v)))=
 if 0<=k/\k<xs.length/\xs.all (da a)=true/\live.contains t=false/\oC xs (keep s1.r live)=true/\lR xs s1.B=true then some (.normal,⟨(t,.d (.sl U (xs.set k.toNat (.int a v))))::keep s1.r live,s1.B⟩)else none:=aJ rfl
theorem Om(X:XEnv)(T:ae)(na:Nat)(live:ae)(pre:aj)(t t1:Nat)(i x:VX)(d:Nat)(f1 f2:ae)(h:p9 t t1 pre=true)(r:aI)(B:az):
 aS X T (.regionS na live pre t t1 i x d f1 f2) ⟨r,B⟩=G4 live t i x (a7 (ak X) X.lin T false B.length pre ⟨r,B++List.replicate na none⟩):=by
 rw[qrM];unfold qL;rw[aD (by rw[h];simp)];simp only;cases a7 (ak X) X.lin T false B.length pre ⟨r,B++List.replicate na none⟩with
 |none=>rfl
 |some s=>
  simp only[bO,G4,Iv,yw];generalize lk s.r t=a;generalize bj s.r i=b;generalize bj s.r x=c;split
  ·split<;>simp_all
  ·next h=>
   split
   ·exact(h _ _ _ _ _ rfl rfl rfl).elim
   ·rfl
attribute [simp] SF Yb
attribute [simp] ZR Yq Zv Uv QA q3u q3N q3w q3O RD S0 Py FOper.pre
attribute [simp] FU XB RZ QJ Re UZ q3B qWu Zu qWy VL VH GA Yo W8 XU XY Vp qWx qsn RH Zs XA PN RX X6 qSf Y_ PL WM UT Yx qsb ZO QD q3P P6 qSb Qk Qi V_ Sj Ts P8 Zp qWB V1 SS q3H qWA qLi qSa qCT To Rn qsc q3E Wm qCB U7 qCa qCC Sl qwJ YC qBw UU qOC YN TW Wq q3T X0 Xy VV qMe WC Uy QK G1 SR XF q7Z Pi Pj W_ Z6 Y8 X5 Zw YY q72 q71 Vk Ve VQ Zg ZA qJx TR PZ q2g Y6 T8 Tj q6d q6a q2t UN qVl Y9 Rp S9 VG Zr Qc Uj qVi q2f q2e Rq q58 Vr Xd Wp UE q2k Tg Tp VF VB Ud QN q59 Vv YI qOq Uo QW q2i T2 WF Qf qJw qJv Qa qUe SB Xk qOi qJq TV VM qWG VI qC6 qAY qvm WJ qC7 WW qBM qBL q2N Zd Vf X8 Xo qVz QU RY qVy Lq qOA O6 LR qVC Yt Yd Sa Tz Vm V7 Z3 qOB qC1 P1 qvl MI qsg Sz VZ P5 QQ ZQ Xu Vh U9 SV VU V5 q53 fO CJ FV qz tx oW eO cd nD pU aW
theorem Hd(q:Ex×XS)(k:XS->dD)(h:q.1≠.normal):oB (some q) k=some q:=by
 obtain⟨e,s'⟩:=q;cases e with
 |normal=>exact absurd rfl h
 |exit id=>rfl
 |ret=>rfl
variable{β γ:Type}
def yx(L:Nat)(live:ae)(st:β->Nat->XS)(R:γ->Ex×XS)(i:Nat)(o:dD):β⊕γ->Prop
 | .inl a'=>∃s',o=some (.normal,s')/\aA L live s'=some (st a' (i+1))
 | .inr r=>(R r).1≠.normal/\o=some (R r)
variable{b:VCode}
theorem eu{T:ae}{L:Nat}{st:β->Nat->XS}{step:β->Nat->β⊕γ}{F:β->Ex×XS}{R:γ->Ex×XS}(Inv:β->Nat->Prop)
 (l:∀a,Inv a n->(F a).1≠.normal/\aS X T b (st a n)=some (F a))
 (e:∀a i,i<n->Inv a i->yx L live st R i (aS X T b (st a i)) (step a i)/\∀a',step a i= .inl a'->Inv a' (i+1)):
 ∀(k:Nat) (a:β) (i:Nat) (s:XS),i+k=n->Inv a i->aA L live s=some (st a i)->bo X T L live b s=some (match runN step k a i with| .inl a'=>F a'| .inr r=>R r)
 |0,a,i,s,w,hi,u=>by
  have:i=n:=by omega
  subst this;obtain⟨o,t⟩:=l a hi;rw[pE,u];simp only[bO,t,runN];exact Hd _ _ o
 |k+1,a,i,s,w,hi,u=>by
  obtain⟨h,j⟩:=e a i (by omega) hi;rw[pE,u];simp only[bO,runN];generalize step a i=q at h j;cases q with
  |inl a'=>obtain⟨s',o,t⟩:=h;have x:=eu Inv l e k a' (i+1) s' (by omega) (j a' rfl) t;rw[o];exact x
  |inr r=>obtain⟨o,t⟩:=h;rw[t];exact Hd _ _ o
theorem bE{T:ae}{L:Nat}{st:β->Nat->XS}{step:β->Nat->β⊕γ}{F:β->Ex×XS}{R:γ->Ex×XS}
 (h:∀a,(F a).1≠.normal/\aS X T b (st a n)=some (F a))
 (e:∀a i,i<n->yx L live st R i (aS X T b (st a i)) (step a i)) (k:Nat) (a:β) (i:Nat) (s:XS) (l:i+k=n) (j:aA L live s=some (st a i)):
 bo X T L live b s=some (match runN step k a i with| .inl a'=>F a'| .inr r=>R r):=
 eu (fun _ _=>True) (fun a _=>h a) (fun a i hi _=>⟨e a i hi,fun _ _=>trivial⟩) k a i s l trivial j
variable{s0:XS}
theorem eb{T:ae}{L:Nat}{s':XS}(h:aA L live s=some s0)(a:aS X T b s0=some (.normal,s')):bo X T L live b s=bo X T L live b s':=by rw[pE,h];simp only[bO,a];rfl
theorem dN{T:ae}{L:Nat}{q:Ex×XS}(h:aA L live s=some s0)(e:aS X T b s0=some q)(a:q.1≠.normal):bo X T L live b s=some q:=by rw[pE,h];simp only[bO,e];exact Hd _ _ a
end Go.Proofs.YtpcoohnjllclnaaGreat.VS
