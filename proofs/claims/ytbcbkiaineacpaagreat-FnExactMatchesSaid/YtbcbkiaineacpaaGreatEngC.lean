/- The engine, part 5: a call of the program answers what an evaluator of values without memory answers, for the functions whose code is the one that the evaluator is given. -/
import Derived.Test.YtbcbkiaineacpaaGreatEngE
set_option linter.unusedSimpArgs false
set_option linter.unusedVariables false
namespace Go.Proofs.YtbcbkiaineacpaaGreat.VS
open Classical
section
variable {A0:Ids} {T:List Nat} {F:Id->Prop} {p:Id} {sx:XS} {sv:St}
structure Back(F:Id->Prop)(p:Id)(A0:Ids)(v':AV)(B':qal)(r:Res):Prop where
 fit:v'.fit r.v
 boxes:qbS B' r.B
 held:Held F (fun _=>False) r.A (qaj [(0,v')] B' [(0,r.v)] r.B)
 am:∀a,r.A a=true->A0 a=true\/Fut p 0 a
theorem Rel.back{k:Nat}(h:Rel A0 T F p k sx sv){B' Bv':qal}(hb:qbS B' Bv')(hbo:∀j,(qcX B' Bv' j).Sublist (qcX sx.B sv.B j)){v' u:AV}(hf:v'.fit u){A':Ids}
 (hnd:(v'.own u).Nodup) (hin:∀a,a∈v'.own u->A' a=true/\¬F a/\∀j,a∉qcX B' Bv' j) (hA:∀a,sv.A a=true->A' a=true) (ham:∀a,A' a=true->A0 a=true\/Fut p 0 a):
 Back F p A0 v' B' ⟨u,A',Bv'⟩:=by
 refine⟨hf,hb,⟨fun ℓ=> ?_,fun ℓ ℓ' a ha ha'=> ?_,fun ℓ a ha=> ?_,fun a ha=>⟨hA a (h.held.fr a ha).1,id⟩⟩,ham⟩
 ·cases ℓ with
  |reg t=>simp only[qaj,qbu];split
          ·exact hnd
          ·simp
  |box j=>exact(h.held.nodup (.box j)).sublist (hbo j)
 ·cases ℓ with
  |reg t=>
   simp only[qaj,qbu]at ha;split at ha
   ·rename_i ht;subst ht
    cases ℓ' with
    |reg t'=>
     simp only[qaj,qbu]at ha';split at ha'
     ·rename_i ht;subst ht;rfl
     ·simp at ha'
    |box j=>exact absurd ha' ((hin a ha).2.2 j)
   ·simp at ha
  |box j=>
   cases ℓ' with
   |reg t'=>
    simp only[qaj,qbu]at ha';split at ha'
    ·exact absurd ha ((hin a ha').2.2 j)
    ·simp at ha'
   |box j'=>
    have:=h.held.apart (.box j) (.box j') a ((hbo j).subset ha) ((hbo j').subset ha');exact this
 ·cases ℓ with
  |reg t=>
   simp only[qaj,qbu]at ha;split at ha
   ·exact⟨(hin a ha).1,(hin a ha).2.1,id⟩
   ·simp at ha
  |box j=>
   obtain⟨q1,q2,_⟩:=h.held.opn (.box j) a ((hbo j).subset ha);exact⟨hA a q1,q2,id⟩
theorem qa6(B Bv:qal)(n j:Nat):(qcX (B.take n) (Bv.take n) j).Sublist (qcX B Bv j):=by
 simp only[qcX,qgg]
 by_cases hj:j<n
 ·simp[hj]
 ·simp[hj]
theorem qNa{k:Nat}(h:Rel A0 T F p k sx sv){r:VRes}{v:AV}(hr:qmp sx r=some v):∃u,qki sv r=some u/\v.fit u/\∀a,a∈v.own u->∃t,r= .tmp t/\T.contains t=true/\a∈qcK sx.r sv.r t:=by
 cases r with
 |tmp t=>
  simp only[qmp]at hr;obtain⟨u,h1,h2⟩:=h.regs t v hr;refine⟨u,h1,h2,fun a ha=>⟨t,rfl,?_,?_⟩⟩
  ·cases ht:T.contains t with
   |true=>rfl
   |false=>
    have:=h.nl t ht;unfold qcK at this;rw[hr,h1]at this;simp only at this
    rw[this]at ha;simp at ha
  ·unfold qcK;rw[hr,h1];exact ha
 |cell t agg sz=>
  simp only[qmp]at hr;split at hr
  ·rename_i i off h1
   obtain⟨w,h2,rfl⟩:=ya_.1 hr;obtain⟨u,cs,ds,h3,h4,_⟩:=qfq h.boxes h2;obtain⟨x,h5,h6⟩:=h.regs t _ h1;simp only[AV.fit]at h6;subst h6
   exact⟨u,by simp only[qki,h5,h3],AV.qcg _ _ h4,fun a ha=>by rw[AV.qbH]at ha;simp at ha⟩
  ·simp at hr
theorem qhg{k:Nat}(h:Rel A0 T F p k sx sv):∀(rs:List VRes) (vs:List AV),qat T (rs.flatMap VRes.vx)=true->qgJ sx rs=some vs->∃us,qfX sv rs=some us/\AV.fits vs us/\(AV.owns vs us).Nodup/\
 (∀a,a∈AV.owns vs us->∃t,VX.t t∈rs.flatMap VRes.vx/\T.contains t=true/\a∈qcK sx.r sv.r t)/\(∀a,a∈AV.owns vs us->sv.A a=true/\¬F a/\∀j,a∉qcX sx.B sv.B j)
 | [],vs,_,hx=>by simp[qgJ]at hx;subst hx;exact⟨[],rfl,by simp[AV.fits],by simp[AV.owns],by simp[AV.owns],by simp[AV.owns]⟩
 |r::rs,vs,hd,hx=>by
  simp only[qgJ]at hx;obtain⟨v,h1,h2⟩:=yb_.1 hx;obtain⟨vs',h3,rfl⟩:=ya_.1 h2;obtain⟨u,h4,h5,h6⟩:=qNa h h1;have hd2:qat T (rs.flatMap VRes.vx)=true:=by
   cases r with
   |tmp t=>exact(qbZ (by simpa[VRes.vx]using hd)).2
   |cell t a s=>simpa[VRes.vx]using hd
  obtain⟨us,g1,g2,g3,g4,g5⟩:=qhg h rs vs' hd2 h3;refine⟨u::us,by simp[qfX,h4,g1],by simp only[AV.fits];exact⟨_,_,rfl,h5,g2⟩,?_,fun a ha=> ?_,fun a ha=> ?_⟩
  ·simp only[AV.owns]
   rw[List.nodup_append];refine⟨?_,g3,fun a ha b hb he=> ?_⟩
   ·cases r with
    |tmp t=>
     have:=h.held.nodup (.reg t);simp only[qaj,qcK]at this;simp only[qmp]at h1;simp only[qki]at h4
     rw[h1,h4]at this;exact this
    |cell t ag s=>
     have:v.own u=[]:=List.eq_nil_iff_forall_not_mem.2 fun a ha=>by obtain⟨t',h7,_⟩:=h6 a ha;simp at h7
     rw[this];simp
   ·subst he
    obtain⟨t,rfl,ht,h7⟩:=h6 a ha;obtain⟨t',h8,ht',h9⟩:=g4 a hb;have:=h.held.apart (.reg t) (.reg t') a h7 h9;simp at this;subst this
    exact(qbZ (by simpa[VRes.vx]using hd)).1 t rfl ht h8
  ·simp only[AV.owns,List.mem_append]at ha
   rcases ha with ha|ha
   ·obtain⟨t,rfl,ht,h7⟩:=h6 a ha
    exact⟨t,by simp[VRes.vx],ht,h7⟩
   ·obtain⟨t,h8,h9⟩:=g4 a ha
    exact⟨t,by simp only[List.flatMap_cons,List.mem_append];exact .inr h8,h9⟩
  ·simp only[AV.owns,List.mem_append]at ha
   rcases ha with ha|ha
   ·obtain⟨t,rfl,ht,h7⟩:=h6 a ha
    obtain⟨q1,q2,q3⟩:=h.held.opn (.reg t) a h7;exact⟨q1,q2,fun j hj=>by have:=h.held.apart (.reg t) (.box j) a h7 hj;simp at this⟩
   ·exact g5 a ha
theorem qmf(h:Rel A0 T F p sv.c sx sv){L:Nat}{rs:List VRes}(hd:qat T (rs.flatMap VRes.vx)=true){v':AV}{B':qal}(hx:qeU L sx rs=some (v',B')):
 ∃r,finish L p sv rs=some r/\Back F p A0 v' B' r:=by
 have ham:∀a,sv.A a=true->A0 a=true\/Fut p 0 a:=fun a ha=>(h.am a ha).2
 have many:∀vs ds,qgJ sx rs=some vs->qaG vs=some ds->∃us es,qfX sv rs=some us/\AV.fits vs us/\qaG us=some es/\us=es.map .d/\Back F p A0 (.d (.tup ds)) (sx.B.take L) ⟨.d (.tup es),sv.A,sv.B.take L⟩:=by
  intro vs ds h1 h2;obtain⟨us,g1,g2,g3,g4,g5⟩:=qhg h rs vs hd h1;obtain⟨es,e1,e2,e3⟩:=qdb h2 g2;have hus:us=es.map .d:=by
   clear g1 g2 g3 g4 g5 e2 e3
   induction us generalizing es with
   |nil=>simp[qaG]at e1;subst e1;rfl
   |cons u us ih=>
    cases u with
    |d d=>
     simp only[qaG]at e1;obtain⟨es',h3,rfl⟩:=ya_.1 e1;rw[ih es' h3];rfl
    |_=>simp[qaG]at e1
  refine⟨us,es,g1,g2,e1,hus,h.back (h.boxes.take L) (qa6 _ _ L) (by simp only[AV.fit,DV.fit];exact⟨_,rfl,_,rfl,e2⟩) (by simp only[AV.own,DV.own];rw[<-e3];exact g3) (fun a ha=> ?_) (fun a ha=>ha) ham⟩;simp only[AV.own,DV.own]at ha;rw[<-e3]at ha;obtain⟨q1,q2,q3⟩:=g5 a ha;exact⟨q1,q2,fun j hj=>q3 j ((qa6 _ _ L j).subset hj)⟩
 unfold qeU at hx;split at hx
 ·rename_i v h1
  simp at hx;obtain⟨rfl,rfl⟩:=hx
  obtain⟨us,g1,g2,g3,g4,g5⟩:=qhg h rs _ hd h1;simp only[AV.fits]at g2;obtain⟨u,_,rfl,hfu,rfl⟩:=g2;simp only[AV.fit]at hfu;obtain⟨y,rfl,hfy⟩:=hfu;simp only[AV.owns,List.append_nil]at g3 g5;refine⟨_,by unfold finish;rw[g1],h.back (h.boxes.take L) (qa6 _ _ L) (by simp only[AV.fit];exact⟨_,rfl,hfy⟩) g3 (fun a ha=> ?_) (fun a ha=>ha) ham⟩;obtain⟨q1,q2,q3⟩:=g5 a ha;exact⟨q1,q2,fun j hj=>q3 j ((qa6 _ _ L j).subset hj)⟩
 ·rename_i i off h1
  simp at hx;obtain⟨rfl,rfl⟩:=hx
  obtain⟨us,g1,g2,g3,g4,g5⟩:=qhg h rs _ hd h1;simp only[AV.fits]at g2;obtain⟨u,_,rfl,hfu,rfl⟩:=g2;simp only[AV.fit]at hfu;subst hfu;exact⟨_,by unfold finish;rw[g1],h.back h.boxes (fun j=>List.Sublist.refl _) (by simp[AV.fit]) (by simp[AV.own]) (by simp[AV.own]) (fun a ha=>ha) ham⟩
 ·rename_i id agg i sz n h1
  split at hx
  ·rename_i hc
   obtain⟨cs,h2,h3⟩:=yb_.1 hx;obtain⟨bs,h4,h5⟩:=yb_.1 h2;split at h3
   ·rename_i hlen
    obtain⟨xs,h6,h7⟩:=ya_.1 h3;simp at h7;obtain⟨rfl,rfl⟩:=h7
    obtain⟨us,g1,g2,g3,g4,g5⟩:=qhg h rs _ hd h1;simp only[AV.fits]at g2;obtain⟨u,_,rfl,hfu,rfl⟩:=g2;simp only[AV.fit]at hfu;obtain⟨id',rfl⟩:=hfu;obtain⟨ds,q1,q2⟩:=h.boxes.get h4;obtain⟨es,q3,q4,q5⟩:=qdb h5 q2;obtain⟨ys,q6,q7,q8,q9,q10⟩:=qgy agg sz n cs es xs q4 h6;have hbo:qcX sx.B sv.B i=DV.owns cs es:=by unfold qcX;rw[h4,q1];exact q5
    have hnb:∀a,a∈DV.owns xs ys->a∈qaj sx.r sx.B sv.r sv.B (.box i):=fun a ha=>by simp only[qaj];rw[hbo];exact q9.subset ha
    have hnf:¬sv.A (sv.c::p)=true:=fun ha=>(h.am _ ha).1 (Fut.self p _)
    refine⟨⟨.d (.sl (.own (sv.c::p) sz) ys),Ids.add (sv.c::p) sv.A,sv.B.take L⟩,?_,?_⟩
    ·unfold finish
     rw[g1];simp only;rw[if_pos hc,q1];simp only[Option.bind_some,q3];rw[if_pos (by rw[<-DV.qan q4];exact hlen),q6];rfl
    ·refine h.back (h.boxes.take L) (qa6 _ _ L) ?_ ?_ (fun a ha=> ?_) (fun a ha=>by simp[Ids.add,ha]) (fun a ha=> ?_)
     ·simp only[AV.fit,DV.fit]
      refine⟨_,rfl,_,_,rfl,q7,.inr ⟨rfl,?_⟩⟩
      by_cases hn:xs.length=0
      ·exact .inl ⟨hn,.inr ⟨_,_,rfl⟩⟩
      ·exact .inr ⟨hn,_,_,rfl,q8⟩
     ·simp only[AV.own,DV.own]
      rw[List.nodup_append];refine⟨by split<;>simp[Tag.ids],((h.held.nodup (.box i)).sublist (by simp only[qaj];rw[hbo];exact q9)),fun a ha b hb he=> ?_⟩;split at ha<;>simp[Tag.ids]at ha
      subst ha;subst he
      exact hnf (h.held.opn _ _ (hnb _ hb)).1
     ·simp only[AV.own,DV.own,List.mem_append]at ha
      rcases ha with ha|ha
      ·split at ha<;>simp[Tag.ids]at ha
       subst ha;refine⟨by simp[Ids.add],fun hF=>hnf (h.held.fr _ hF).1,fun j hj=> ?_⟩;exact hnf (h.held.opn (.box j) _ ((qa6 _ _ L j).subset hj)).1
      ·obtain⟨z1,z2,_⟩:=h.held.opn _ a (hnb a ha)
       refine⟨by simp[Ids.add,z1],z2,fun j hj=> ?_⟩;have:=h.held.apart (.box i) (.box j) a (hnb a ha) ((qa6 _ _ L j).subset hj);simp at this;subst this
       simp only[qcX,qgg]at hj;rw[if_neg (by omega)]at hj;simp at hj
     ·simp only[Ids.add,Bool.or_eq_true,decide_eq_true_eq]at ha
      rcases ha with rfl|ha
      ·exact .inr ((Fut.self p _).le (Nat.zero_le _))
      ·exact ham a ha
   ·simp at h3
  ·simp at hx
 ·simp at hx
 ·rename_i vs hn1 hn2 hn3 hn4 h1
  obtain⟨ds,h2,h3⟩:=ya_.1 hx;simp at h3;obtain⟨rfl,rfl⟩:=h3
  obtain⟨us,es,g1,g2,g3,g4,g5⟩:=many vs ds h1 h2;refine⟨_,?_,g5⟩;unfold finish;rw[g1]
  match us,g2 with
  | [],_=>simp at g4;simp[qaG]at g3;subst g3;rfl
  | [u],g2=>
   have hl:=AV.qan g2
   match vs,hl with
   | [x],_=>exact absurd rfl (hn4 x)
  |u::u'::us,_=>simp only[g3,Option.map_some]
 ·simp at hx
theorem qmr(h:Rel A0 T F p sv.c sx sv){L:Nat}{rs:List VRes}(hd:qat T (rs.flatMap VRes.vx)=true){v':AV}{B':qal}(hx:qcY L sx rs=some (v',B')):
 ∃r,finish L p sv rs=some r/\Back F p A0 v' B' r:=by
 unfold qcY at hx;split at hx
 ·rename_i t agg sz
  unfold qnM at hx;split at hx
  ·rename_i i off h1
   split at hx
   ·rename_i hL
    split at hx
    ·rename_i v h2
     simp at hx;obtain⟨rfl,rfl⟩:=hx
     obtain⟨u,cs,ds,h3,h4,h5,h6,h7,h8,h9⟩:=qfq h.boxes h2;obtain⟨x,g1,g2⟩:=h.regs t _ h1;simp only[AV.fit]at g2;subst g2
     have h4':=h4;simp only[AV.fit]at h4';obtain⟨y,rfl,hy⟩:=h4';have hbo:qcX sx.B sv.B i=AV.owns cs ds:=by unfold qcX;rw[h5,h6]
     have hsub:((AV.d v).own (.d y)).Sublist (AV.owns cs ds):=by
      rw[h8,AV.qb7 (AV.qan h7) off];refine List.Sublist.trans ?_ (List.sublist_append_right _ _);rw[AV.qb7 (a:=cs.drop off) (c:=ds.drop off) (by simp[AV.qan h7]) (if agg=true then sz else 1)];exact List.sublist_append_left _ _
     refine⟨_,by unfold finish;simp only[qfX,qki,g1,h3,Option.bind_some,Option.map_some],h.back (h.boxes.take L) (qa6 _ _ L) h4 ((h.held.nodup (.box i)).sublist (by simp only[qaj];rw[hbo];exact hsub)) (fun a ha=> ?_) (fun a ha=>ha) (fun a ha=>(h.am a ha).2)⟩;have ha2:a∈qaj sx.r sx.B sv.r sv.B (.box i):=by simp only[qaj];rw[hbo];exact hsub.subset ha
     obtain⟨q1,q2,_⟩:=h.held.opn _ a ha2;refine⟨q1,q2,fun j hj=> ?_⟩;have:=h.held.apart (.box i) (.box j) a ha2 ((qa6 _ _ L j).subset hj);simp at this;subst this
     simp only[qcX,qgg]at hj;rw[if_neg (by omega)]at hj;simp at hj
    ·simp at hx
   ·simp at hx
  ·simp at hx
 ·rename_i t1 g1 z1 t2 g2 z2 t3
  unfold qA7 at hx;split at hx
  ·rename_i i1 o1 i2 o2 b e1 e2 e3
   split at hx
   ·rename_i hL
    obtain⟨hL1,hL2,hne⟩:=hL;split at hx
    ·rename_i v1 v2 l1 l2
     simp at hx;obtain⟨rfl,rfl⟩:=hx
     have one:∀(t i off:Nat) (g:Bool) (z:Nat) (v:DV),lk sx.r t=some (.ptr i off)->qak sx.B g z i off=some (.d v)->∃y,qki sv (.cell t g z)=some (.d y)/\v.fit y/\(v.own y).Sublist (qcX sx.B sv.B i):=by
      intro t i off g z v q1 q2;obtain⟨u,cs,ds,h3,h4,h5,h6,h7,h8,h9⟩:=qfq h.boxes q2;obtain⟨x,r1,r2⟩:=h.regs t _ q1;simp only[AV.fit]at r2;subst r2
      have h4':=h4;simp only[AV.fit]at h4';obtain⟨y,rfl,hy⟩:=h4';have hbo:qcX sx.B sv.B i=AV.owns cs ds:=by unfold qcX;rw[h5,h6]
      have hsub:((AV.d v).own (.d y)).Sublist (AV.owns cs ds):=by
       rw[h8,AV.qb7 (AV.qan h7) off];refine List.Sublist.trans ?_ (List.sublist_append_right _ _);rw[AV.qb7 (a:=cs.drop off) (c:=ds.drop off) (by simp[AV.qan h7]) (if g=true then z else 1)];exact List.sublist_append_left _ _
      exact⟨y,by simp only[qki,r1,h3],hy,by rw[hbo];exact hsub⟩
     obtain⟨y1,a1,a2,a3⟩:=one t1 i1 o1 g1 z1 v1 e1 l1;obtain⟨y2,b1,b2,b3⟩:=one t2 i2 o2 g2 z2 v2 e2 l2;obtain⟨x,c1,c2⟩:=h.regs t3 _ e3;simp only[AV.fit]at c2;obtain⟨y3,rfl,c3⟩:=c2;have hy3:y3= .bool b:=by simpa only[DV.fit]using c3
     subst hy3;have hown:DV.owns [v1,v2,.bool b] [y1,y2,.bool b]=v1.own y1++(v2.own y2++[]):=by simp only[DV.owns,DV.own,List.append_nil]
     have good:∀i a,L<=i->a∈qcX sx.B sv.B i->sv.A a=true/\¬F a/\∀j,a∉qcX (sx.B.take L) (sv.B.take L) j:=fun i a hi ha=>by
      have ha2:a∈qaj sx.r sx.B sv.r sv.B (.box i):=ha;obtain⟨q1,q2,_⟩:=h.held.opn _ a ha2;refine⟨q1,q2,fun j hj=> ?_⟩;have:=h.held.apart (.box i) (.box j) a ha2 ((qa6 _ _ L j).subset hj);simp at this;subst this
      simp only[qcX,qgg]at hj;rw[if_neg (by omega)]at hj;simp at hj
     have hr3:qki sv (.tmp t3)=some (.d (.bool b)):=c1;refine⟨⟨.d (.tup [y1,y2,.bool b]),sv.A,sv.B.take L⟩,by unfold finish;simp only[qfX,a1,b1,hr3,Option.bind_some,Option.map_some,qaG],h.back (h.boxes.take L) (qa6 _ _ L) ?_ ?_ (fun a ha=> ?_) (fun a ha=>ha) (fun a ha=>(h.am a ha).2)⟩
     ·simp only[AV.fit,DV.fit,DV.fits]
      exact⟨_,rfl,_,rfl,_,_,rfl,a2,_,_,rfl,b2,_,_,rfl,rfl,rfl⟩
     ·simp only[AV.own,DV.own,hown,List.append_nil]
      rw[List.nodup_append];refine⟨(h.held.nodup (.box i1)).sublist a3,(h.held.nodup (.box i2)).sublist b3,fun q hq q' hq' he=> ?_⟩;subst he;have:=h.held.apart (.box i1) (.box i2) q (a3.subset hq) (b3.subset hq');simp at this;exact hne this
     ·simp only[AV.own,DV.own,hown,List.append_nil,List.mem_append]at ha
      rcases ha with ha|ha
      ·exact good i1 a hL1 (a3.subset ha)
      ·exact good i2 a hL2 (b3.subset ha)
    ·simp at hx
   ·simp at hx
  ·simp at hx
 ·exact qmf h hd hx
theorem qhQ{x v:DV}(h:x.fit v):v.flat=x.flat:=by
 cases x<;>simp only[DV.fit]at h
 case agg cs=>obtain⟨ds,rfl,h1⟩:=h;rfl
 case sl g xs=>
  obtain⟨g',ys,rfl,h1,h2⟩:=h;cases xs with
  |nil=>simp only[DV.fits]at h1;subst h1;rfl
  |cons x r=>simp only[DV.fits]at h1;obtain⟨y,ys',rfl,_,_⟩:=h1;rfl
 case tup cs=>obtain⟨ds,rfl,h1⟩:=h;rfl
 all_goals subst h;rfl
theorem qyf{sx:XS}{sv:St}{k:Nat}(h:Rel A0 T F p k sx sv){y:DV×DV}(hy:qij sx=some y):
 ∃y',qmz sv=some y'/\y.1.fit y'.1/\y.2.fit y'.2/\y.1.own y'.1=[]/\y.2.own y'.2=[]:=by
 unfold qij at hy;split at hy
 ·rename_i x0 x1 x2 z0 z1 z2 e1 e2 e3
  split at hy
  ·rename_i hc
   simp only[Option.some.injEq]at hy;subst hy
   obtain⟨v3,g1,g2⟩:=h.regs 3 _ e1;obtain⟨v4,g3,g4⟩:=h.regs 4 _ e2;simp only[AV.fit]at g2 g4;subst g2;subst g4
   have hb:=h.boxes;rw[e3]at hb;obtain⟨c0,b1,b2⟩:=(hb.2 0).2 _ rfl;obtain⟨c1,b3,b4⟩:=(hb.2 1).2 _ rfl;simp only[AV.fits,AV.fit]at b2 b4;obtain⟨_,_,rfl,⟨w0,rfl,f0⟩,_,_,rfl,⟨w1,rfl,f1⟩,w2,_,rfl,_,rfl⟩:=b2;obtain⟨_,_,rfl,⟨u0,rfl,q0⟩,_,_,rfl,⟨u1,rfl,q1⟩,_,_,rfl,⟨u2,rfl,q2⟩,rfl⟩:=b4;have hB:sv.B=[some [.d w0,.d w1,w2],some [.d u0,.d u1,.d u2]]:=by
    have hl:=hb.1
    match hs:sv.B,hl with
    | [m,n],_=>
     rw[hs]at b1 b3;simp at b1 b3;subst b1;subst b3;rfl
   refine⟨(w0,w1),?_,DV.qcg _ _ f0,DV.qcg _ _ f1,DV.qbH _ _,DV.qbH _ _⟩;unfold qmz;rw[g1,g3,hB];simp only;rw[qhQ f0,qhQ f1,qhQ q0,qhQ q1,qhQ q2,DV.qd4 f0,DV.qd4 f1,if_pos hc]
  ·simp at hy
 ·simp at hy
theorem qgF:∀{xs vs:List DV},DV.fits xs vs->DV.fits (xs.flatMap DV.cells) (vs.flatMap DV.cells)/\DV.owns (xs.flatMap DV.cells) (vs.flatMap DV.cells)=DV.owns xs vs
 | [],vs,h=>by simp only[DV.fits]at h;subst h;simp[DV.fits,DV.owns]
 |x::xs,vs,h=>by
  simp only[DV.fits]at h;obtain⟨v,vs,rfl,h1,h2⟩:=h;obtain⟨q1,q2⟩:=qgF h2;simp only[List.flatMap_cons];exact⟨DV.qaZ (DV.qbt h1) q1,by rw[DV.qaY (DV.qan (DV.qbt h1)),DV.qdB h1,q2];simp only[DV.owns]⟩
theorem qGu{X:qaB}{V:qaz}{lin:Nat->List Nat}(href:qde X V lin){sf:SFn}{A:Ids}{a:Id}{sz:Nat}{x y:DV}{xr yr:List DV}{q:Id}
 (h1:x.fit y) (h2:DV.fits xr yr) (hA:∀b,b∈a::DV.owns (x::xr) (y::yr)->A b=true/\¬Fut q 0 b) (hnd:(a::DV.owns (x::xr) (y::yr)).Nodup)
 (hsz:∀e:DV,e∈y::yr->e.cells.length=sz) {r:List DV} (hx:qil X sf x xr=some r):
 ∃r' A1,qnW V q sf A a y yr=some (r',Ids.add a A1)/\DV.fits r r'/\r.length=xr.length+1/\(∀e:DV,e∈r'->e.cells.length=sz)/\(a::DV.owns r r').Nodup/\(∀b,b∈DV.owns r r'->A1 b=true)/\(∀b,A1 b=true->b∈DV.owns (x::xr) (y::yr)\/Fut q 0 b):=by
 unfold qil at hx;split at hx
 ·rename_i hu
  have hf:DV.fits (x::xr) (y::yr):=by simp only[DV.fits];exact⟨_,_,rfl,h1,h2⟩
  obtain⟨l,hl1,hl2⟩:=qea _ _ hf hu;obtain⟨c1,c2⟩:=qgF hf;rw[List.nodup_cons]at hnd;split at hx
  ·rename_i v cs hcall
   obtain⟨es,d1,hx⟩:=yb_.1 hx;split at hx
   ·rename_i hlen
    have hfa:AV.fits [AV.tsl true 0 x.cells.length (xr.length+1),.fn sf.cmp []] [AV.tsl true 0 y.cells.length (yr.length+1),.fn sf.cmp []]:=by
     simp only[AV.fits,AV.fit];rw[DV.qbK h1,<-DV.qan h2];exact⟨_,_,rfl,rfl,_,_,rfl,⟨_,rfl,rfl,by simp[AV.owns]⟩,rfl⟩
    have hre:∀j,qcK (qao 0 [AV.tsl true 0 x.cells.length (xr.length+1),.fn sf.cmp []]) (qao 0 [AV.tsl true 0 y.cells.length (yr.length+1),.fn sf.cmp []]) j=[]:=by
     intro j;rw[qeA]
     match j with
     |0=>simp[AV.own]
     |1=>simp[AV.own]
     |j+2=>simp
    have hbx:∀j,qcX [some (((x::xr).flatMap DV.cells).map AV.d)] [some (((y::yr).flatMap DV.cells).map AV.d)] j=if j=0 then DV.owns (x::xr) (y::yr)else []:=by
     intro j;unfold qcX qcu
     match j with
     |0=>simp only[List.getElem?_cons_zero,if_true];show AV.owns _ _=_;rw[AV.ql9,c2]
     |j+1=>simp
    have hlo:∀ℓ b,b∈qaj (qao 0 [AV.tsl true 0 x.cells.length (xr.length+1),.fn sf.cmp []]) [some (((x::xr).flatMap DV.cells).map AV.d)] (qao 0 [AV.tsl true 0 y.cells.length (yr.length+1),.fn sf.cmp []]) [some (((y::yr).flatMap DV.cells).map AV.d)] ℓ->ℓ= .box 0/\b∈DV.owns (x::xr) (y::yr):=by
     intro ℓ b hb;cases ℓ with
     |reg t=>simp only[qaj,hre]at hb;simp at hb
     |box j=>
      simp only[qaj,hbx]at hb;split at hb
      ·rename_i hj;subst hj;exact⟨rfl,hb⟩
      ·simp at hb
    obtain⟨u,Bv',A1,hV,_,hbf,hh,hnm⟩:=href _ _ _ _ _ hcall q _ [some (((y::yr).flatMap DV.cells).map AV.d)] (fun b=>l.contains b) (fun _=>False) hfa
     ⟨rfl,fun i=>by
      match i with
      |0=>exact⟨by simp,fun cs hc=>by simp at hc;subst hc;exact⟨_,rfl,by have:=AV.qjA c1;simpa using this⟩⟩
      |i+1=>exact⟨by simp,fun cs hc=>by simp at hc⟩⟩
     ⟨fun ℓ=>by
      cases ℓ with
      |reg t=>simp only[qaj,hre];simp
      |box j=>simp only[qaj,hbx];split
              ·exact hnd.2
              ·simp,
      fun ℓ ℓ' b hb hb'=>by rw[(hlo ℓ b hb).1,(hlo ℓ' b hb').1],
      fun ℓ b hb=>⟨by simpa using hl2.mem_iff.2 (hlo ℓ b hb).2,id,(hA b (List.mem_cons_of_mem _ (hlo ℓ b hb).2)).2⟩,fun b hb=>by simp at hb⟩
     (fun j _=>hre j) (fun b hb=>by
      have:b∈l:=by simpa using hb
      exact(hA b (List.mem_cons_of_mem _ (hl2.mem_iff.1 this))).2)
    obtain⟨ds,e1,e2⟩:=(hbf.2 0).2 cs rfl;have hBv:Bv'=[some ds]:=by
     have hl:=hbf.1
     match Bv',hl with
     | [m],_=>simp at e1;subst e1;rfl
    subst hBv;obtain⟨es',d2,d3,d4⟩:=qdb d1 e2;obtain⟨r',k1,k2,k3,k4,k5⟩:=qgy _ _ _ _ _ _ d3 hx;have hown:∀b,b∈DV.owns r r'->A1 b=true:=fun b hb=>(hh.opn (.box 0) b (by simp only[qaj,qcX,qcu];simp only[List.getElem?_cons_zero];show b∈AV.owns _ _;rw[d4];exact k4.subset hb)).1
    have hnd':(DV.owns r r').Nodup:=by
     have:=hh.nodup (.box 0);simp only[qaj,qcX,qcu,List.getElem?_cons_zero]at this;have h':(AV.owns cs ds).Nodup:=this;rw[d4]at h';exact h'.sublist k4
    have hA1:∀b,A1 b=true->b∈DV.owns (x::xr) (y::yr)\/Fut q 0 b:=fun b hb=>(hnm b hb).imp_left fun h=>hl2.mem_iff.1 (by simpa using h)
    refine⟨r',A1,?_,k2,k5,fun e he=>by rw[k3 e he,<-DV.qbK h1];exact hsz y (by simp),?_,hown,hA1⟩
    ·unfold qnW
     rw[hl1,Option.bind_some,if_pos ⟨(hA a (by simp)).1,List.all_eq_true.2 fun b hb=>(hA b (List.mem_cons_of_mem _ (hl2.mem_iff.1 hb))).1,by
      have:¬a∈l:=fun hm=>hnd.1 (hl2.mem_iff.1 hm)
      simpa using this⟩,hV]
     simp only[d2,Option.bind_some];rw[DV.qbK h1,<-DV.qan h2,if_pos (by rw[<-DV.qan d3];exact hlen),k1];rfl
    ·rw[List.nodup_cons]
     refine⟨fun hm=> ?_,hnd'⟩;rcases hA1 a (hown a hm)with h3|h3
     ·exact hnd.1 h3
     ·exact(hA a (by simp)).2 h3
   ·simp at hx
  ·simp at hx
 ·simp at hx
theorem qGt{X:qaB}{V:qaz}{lin:Nat->List Nat}(href:qde X V lin){T:List Nat}{n:Nat}{sf:SFn}{p:Id}{ds es:List DV}(hf:DV.fits ds es)
 (hlin1:sf.pre.linOK T=true) (hlin2:sf.rest.linOK T=true) (hlin3:qat T (sf.results.flatMap VRes.vx)=true)
 (hz:∀j,qcK (qao 0 (ds.map .d)) (qao 0 (es.map .d)) j=[]) {v:DV} (hx:qjB X lin T n sf ds=some v):
 ∃u A1,qpH V n p sf es=some (u,A1)/\v.fit u/\(v.own u).Nodup/\(∀a,a∈v.own u->A1 a=true)/\∀a,A1 a=true->Fut p 0 a:=by
 unfold qjB at hx;split at hx
 ·simp at hx
 rename_i hlen;have hvf:=AV.qjA hf;have hloc:∀ℓ,qaj (qao 0 (ds.map AV.d)) [] (qao 0 (es.map AV.d)) [] ℓ=[]:=by
  intro ℓ;cases ℓ with
  |reg t=>exact hz t
  |box j=>simp[qaj,qcX,qcu]
 have h0:Rel Ids.none T (fun _=>False) p (⟨qao 0 (es.map .d),[],Ids.none,0⟩:St).c ⟨qao 0 (ds.map .d),[]⟩ ⟨qao 0 (es.map .d),[],Ids.none,0⟩:=by
  refine⟨fun t x ht=> ?_,⟨rfl,by simp⟩,⟨fun ℓ=>by rw[hloc];simp,fun ℓ ℓ' a ha=>by rw[hloc]at ha;simp at ha,fun ℓ a ha=>by rw[hloc]at ha;simp at ha,fun a ha=>by simp at ha⟩,fun j _=>hz j,fun t ht=> ?_,fun a ha=>by simp[Ids.none]at ha⟩
  ·simp only[qgU]at ht⊢
   simp only[Nat.zero_le,if_true,Nat.sub_zero]at ht⊢
   exact AV.qcS hvf ht
  ·simp only[qgU]at ht⊢
   simp only[Nat.zero_le,if_true,Nat.sub_zero]at ht⊢
   rw[List.getElem?_eq_none_iff]at ht⊢
   have:=AV.qan hvf;omega
 obtain⟨⟨e,s1⟩,h1,h2⟩:=yb_.1 hx;obtain⟨v1,h3,h4⟩:=qnN href n sf.pre hlin1 _ _ _ _ h0 h1;have hlen':¬es.length≠sf.np:=by rw[<-DV.qan hf];exact hlen
 have hrest:∀{e:Ex},(e= .normal)->((qbq X lin T n sf.rest s1).bind fun r2=>match r2.1 with
  | .exit _=>none
  |_=>(qcY 0 r2.2 sf.results).bind fun q=>match q.1 with
   | .d v=>some v
   |_=>none)=some v->∃u A1,((qaP V p n sf.rest v1).bind fun r2=>match r2.1 with
  | .exit _=>none
  |_=>(finish 0 p r2.2 sf.results).bind fun q=>match q.v with
   | .d v=>some (v,q.A)
   |_=>none)=some (u,A1)/\v.fit u/\(v.own u).Nodup/\(∀a,a∈v.own u->A1 a=true)/\∀a,A1 a=true->Fut p 0 a:=by
  intro _ _ hr;obtain⟨⟨e2,s2⟩,r1,r2⟩:=yb_.1 hr;obtain⟨v2,r3,r4⟩:=qnN href n sf.rest hlin2 _ _ _ _ h4 r1;have key:((qcY 0 s2 sf.results).bind fun q=>match q.1 with
   | .d v=>some v
   |_=>none)=some v->∃u A1,((finish 0 p v2 sf.results).bind fun q=>match q.v with
   | .d v=>some (v,q.A)
   |_=>none)=some (u,A1)/\v.fit u/\(v.own u).Nodup/\(∀a,a∈v.own u->A1 a=true)/\∀a,A1 a=true->Fut p 0 a:=by
   intro hk;obtain⟨⟨w,B'⟩,k1,k2⟩:=yb_.1 hk;obtain⟨⟨w',Aw,Bw⟩,k3,k4⟩:=qmr r4 hlin3 k1;split at k2
   ·rename_i d hd
    simp only at hd;subst hd
    simp only[Option.some.injEq]at k2;subst k2
    have k5:=k4.fit;simp only[AV.fit]at k5;obtain⟨u,rfl,k6⟩:=k5;refine⟨u,Aw,by rw[k3];rfl,k6,?_,fun a ha=> ?_,fun a ha=> ?_⟩
    ·have:=k4.held.nodup (.reg 0)
     simp only[qaj,qbu]at this;simpa[AV.own]using this
    ·exact(k4.held.opn (.reg 0) a (by simp only[qaj,qbu];simpa[AV.own]using ha)).1
    ·rcases k4.am a ha with h|h
     ·simp[Ids.none]at h
     ·exact h
   ·simp at k2
  rw[r3,Option.bind_some];cases e2 with
  |exit id=>simp at r2
  |normal=>exact key r2
  |ret=>exact key r2
 unfold qpH;rw[if_neg hlen',h3,Option.bind_some];simp only at h2⊢
 split at h2
 ·rename_i x xr e1 e2
  obtain⟨vb,g1,g2⟩:=h4.regs _ _ e1;simp only[AV.fit,DV.fit]at g2;obtain⟨_,rfl,rfl⟩:=g2;obtain⟨vr,g3,g4⟩:=h4.regs _ _ e2;have g4':=g4;simp only[AV.fit,DV.fit]at g4;obtain⟨_,rfl,g',ys,rfl,g5,g6⟩:=g4;rcases g6 with g6|⟨_,g6⟩
  ·exact absurd g6 (by decide)
  rcases g6 with⟨g6,_⟩|⟨_,a,sz,rfl,g7⟩
  ·simp at g6
  have g5':=g5;simp only[DV.fits]at g5;obtain⟨y,yr,rfl,f1,f2⟩:=g5;obtain⟨w,m1,m2⟩:=yb_.1 h2;obtain⟨q,m3,m4⟩:=ya_.1 m2;subst m4;obtain⟨w',n1,n2,n3,n4,n5⟩:=qyf h4 m1;have hloc5:∀b,b∈a::DV.owns (x::xr) (y::yr)->b∈qaj s1.r s1.B v1.r v1.B (.reg sf.row):=by
   intro b hb;simp only[qaj,qcK,e2,g3,AV.own,DV.own];rw[if_pos ⟨rfl,by simp⟩];simpa[Tag.ids]using hb
  have hnd5:(a::DV.owns (x::xr) (y::yr)).Nodup:=by
   have:=h4.held.nodup (.reg sf.row);simp only[qaj,qcK,e2,g3,AV.own,DV.own]at this;rw[if_pos ⟨rfl,by simp⟩]at this;simpa[Tag.ids]using this
  obtain⟨r',A1,s3,s4,s5,s6,s7,s8,s9⟩:=qGu href (A:=v1.A) (a:=a) (sz:=sz) (q:=(v1.c+1)::p) f1 f2 (fun b hb=>by
   obtain⟨t1,_,t3⟩:=h4.held.opn _ b (hloc5 b hb);exact⟨t1,fun hF=>t3 (hF.sub.le (Nat.le_succ _))⟩) hnd5 g7 m3
  simp only[g1,g3];refine⟨.agg [w'.1,w'.2,.sl (.own a sz) r'],Ids.add a A1,by rw[n1,Option.bind_some,s3];rfl,?_,?_,fun b hb=> ?_,fun b hb=> ?_⟩
  ·simp only[DV.fit,DV.fits]
   exact⟨_,rfl,_,_,rfl,n2,_,_,rfl,n3,_,_,rfl,⟨_,_,rfl,s4,.inr ⟨rfl,.inr ⟨by omega,_,_,rfl,s6⟩⟩⟩,rfl⟩
  ·simp only[DV.own,DV.owns,n4,n5]
   rw[if_pos ⟨trivial,by omega⟩];simpa[Tag.ids]using s7
  ·simp only[DV.own,DV.owns,n4,n5]at hb
   rw[if_pos ⟨trivial,by omega⟩]at hb;simp only[Ids.add,Bool.or_eq_true,decide_eq_true_eq];simp[Tag.ids]at hb;rcases hb with rfl|hb
   ·exact .inl rfl
   ·exact .inr (s8 b hb)
  ·have old:∀b,b∈a::DV.owns (x::xr) (y::yr)->Fut p 0 b:=fun b hb=>by
    rcases(h4.am b (h4.held.opn _ b (hloc5 b hb)).1).2 with h|h
    ·simp[Ids.none]at h
    ·exact h
   simp only[Ids.add,Bool.or_eq_true,decide_eq_true_eq]at hb;rcases hb with rfl|hb
   ·exact old b (by simp)
   ·rcases s9 b hb with h|h
    ·exact old b (List.mem_cons_of_mem _ h)
    ·exact h.sub.le (Nat.zero_le _)
 ·rename_i e1
  obtain⟨vb,g1,g2⟩:=h4.regs _ _ e1;simp only[AV.fit,DV.fit]at g2;obtain⟨_,rfl,rfl⟩:=g2;obtain⟨u,A1,k1,k2⟩:=hrest (e:= .normal) rfl h2;exact⟨u,A1,by simp only[g1];exact k1,k2⟩
 ·rename_i g e1 e2
  obtain⟨vb,g1,g2⟩:=h4.regs _ _ e1;simp only[AV.fit,DV.fit]at g2;obtain⟨_,rfl,rfl⟩:=g2;obtain⟨vr,g3,g4⟩:=h4.regs _ _ e2;simp only[AV.fit,DV.fit,DV.fits]at g4;obtain⟨_,rfl,g',ys,rfl,rfl,g6⟩:=g4;obtain⟨u,A1,k1,k2⟩:=hrest (e:= .normal) rfl h2;exact⟨u,A1,by simp only[g1,g3];exact k1,k2⟩
 ·simp at h2
def qr1(g:List DV->Option DV)(gv:Id->List AV->Option (DV×Ids)):Prop:=
 ∀ds v,g ds=some v->∀es p,DV.fits ds es->∃u A1,gv p (es.map .d)=some (u,A1)/\v.fit u/\(v.own u).Nodup/\(∀a,a∈v.own u->A1 a=true)/\∀a,A1 a=true->Fut p 0 a
structure XOK(X:XEnv):Prop where
 code:∀f vf,X.env.code f=some vf->vf.linOK (X.lin f)=true
 nat:∀f g,X.nat f=some g->∃gv,X.env.nat f=some gv/\qr1 g gv/\X.lin f=[]
 no:∀f,X.nat f=none->X.env.nat f=none
 spec:∀f sf,X.env.spec f=some sf->sf.pre.linOK (X.lin f)=true/\sf.rest.linOK (X.lin f)=true/\qat (X.lin f) (sf.results.flatMap VRes.vx)=true/\(X.lin f).all (fun j=>decide (sf.np<=j))=true
theorem qAf:∀{cs:List AV} {ds:List DV},qaG cs=some ds->cs=ds.map .d
 | [],ds,h=>by simp[qaG]at h;subst h;rfl
 |v::cs,ds,h=>by
  cases v with
  |d d=>
   simp only[qaG]at h;obtain⟨es,h3,rfl⟩:=ya_.1 h;rw[qAf h3];rfl
  |_=>simp[qaG]at h
theorem qwZ{xs vs:List AV}{B Bv:qal}{A A1:Ids}{F:Id->Prop}{p:Id}{v u:DV}{R:Option Res}(hh:Held F (Fut p 0) A (qaj (qao 0 xs) B (qao 0 vs) Bv))(hb:qbS B Bv)
 (g2:v.fit u) (g3:(v.own u).Nodup) (g4:∀a,a∈v.own u->A1 a=true) (g5:∀a,A1 a=true->Fut p 0 a) (hR:R=some ⟨.d u,Ids.or A1 A,Bv⟩):
 ∃w Bv' A',R=some ⟨w,A',Bv'⟩/\(AV.d v).fit w/\qbS B Bv'/\Held F (fun _=>False) A' (qaj [(0,.d v)] B [(0,w)] Bv')/\∀a,A' a=true->A a=true\/Fut p 0 a:=by
 refine⟨.d u,Bv,Ids.or A1 A,hR,by simp only[AV.fit];exact⟨_,rfl,g2⟩,hb,⟨fun ℓ=> ?_,fun ℓ ℓ' a ha ha'=> ?_,fun ℓ a ha=> ?_,fun a ha=>⟨by simp[Ids.or,(hh.fr a ha).1],id⟩⟩,fun a ha=> ?_⟩
 ·cases ℓ with
  |reg t=>simp only[qaj,qbu];split
          ·exact g3
          ·simp
  |box j=>exact hh.nodup (.box j)
 ·have key:∀a j,a∈v.own u->a∉qcX B Bv j:=fun a j h8 h9=>(hh.opn (.box j) a h9).2.2 (g5 a (g4 a h8))
  cases ℓ with
  |reg t=>
   simp only[qaj,qbu]at ha;split at ha
   ·rename_i ht;subst ht
    cases ℓ' with
    |reg t'=>
     simp only[qaj,qbu]at ha';split at ha'
     ·rename_i ht;subst ht;rfl
     ·simp at ha'
    |box j=>exact absurd ha' (key a j ha)
   ·simp at ha
  |box j=>
   cases ℓ' with
   |reg t'=>
    simp only[qaj,qbu]at ha';split at ha'
    ·exact absurd ha (key a j ha')
    ·simp at ha'
   |box j'=>exact hh.apart (.box j) (.box j') a ha ha'
 ·cases ℓ with
  |reg t=>
   simp only[qaj,qbu]at ha;split at ha
   ·have h8:=g4 a ha
    exact⟨by simp[Ids.or,h8],fun hF=>(hh.fr a hF).2 (g5 a h8),id⟩
   ·simp at ha
  |box j=>
   obtain⟨q1,q2,_⟩:=hh.opn (.box j) a ha;exact⟨by simp[Ids.or,q1],q2,id⟩
 ·simp only[Ids.or,Bool.or_eq_true]at ha
  rcases ha with ha|ha
  ·exact .inr (g5 a ha)
  ·exact .inl ha
theorem qA8{X:XEnv}(hX:XOK X):∀n,qde (qbe X n) (qeN X.env n) X.lin:=by
 intro n
 induction n with
 |zero=>intro f xs B v' B' h;simp[qbe]at h
 |succ n ih=>
  intro f xs B v' B' hx p vs Bv A F hf hb hh hl ham;simp only[qbe]at hx;split at hx
  ·rename_i g hg
   obtain⟨gv,h1,h2,h3⟩:=hX.nat f g hg;obtain⟨ds,h4,h5⟩:=yb_.1 hx;obtain⟨v,h6,h7⟩:=ya_.1 h5;simp at h7;obtain⟨rfl,rfl⟩:=h7
   obtain⟨es,e1,e2,e3⟩:=qdb h4 hf;have hvs:vs=es.map .d:=by
    clear hx hf hh hl e2 e3 h4
    induction vs generalizing es with
    |nil=>simp[qaG]at e1;subst e1;rfl
    |cons u us ih=>
     cases u with
     |d d=>
      simp only[qaG]at e1;obtain⟨es',h3,rfl⟩:=ya_.1 e1;rw[ih es' h3];rfl
     |_=>simp[qaG]at e1
   obtain⟨u,A1,g1,g2,g3,g4,g5⟩:=h2 ds v h6 es p e2;refine qwZ hh hb g2 g3 g4 g5 ?_;simp only[qeN,h1,e1,Option.bind_some];rw[hvs,g1];rfl
  ·rename_i hg
   split at hx
   ·rename_i hvf
    split at hx
    ·simp at hx
    rename_i sf hs;obtain⟨ds,h4,h5⟩:=yb_.1 hx;obtain⟨v,h6,h7⟩:=ya_.1 h5;simp at h7;obtain⟨rfl,rfl⟩:=h7
    obtain⟨es,e1,e2,e3⟩:=qdb h4 hf;have hxs:=qAf h4;have hvs:=qAf e1;obtain⟨l1,l2,l3,l4⟩:=hX.spec f sf hs;have hnp:ds.length=sf.np:=by
     unfold qjB at h6;split at h6
     ·simp at h6
     ·rename_i hn;simpa using hn
    obtain⟨u,A1,g1,g2,g3,g4,g5⟩:=qGt ih (p:=p) e2 l1 l2 l3 (fun j=>by
     rw[<-hxs,<-hvs]
     by_cases hj:(X.lin f).contains j=true
     ·have h8:=List.all_eq_true.1 l4 j (by simpa using hj)
      simp only[decide_eq_true_eq]at h8;rw[qeA];rw[hxs,List.getElem?_eq_none (by simp;omega)]
     ·exact hl j (by simpa using hj)) h6
    refine qwZ hh hb g2 g3 g4 g5 ?_;simp only[qeN,hX.no f hg,hvf,hs,e1,Option.bind_some,g1];rfl
   ·rename_i vf hvf
    split at hx
    ·simp at hx
    ·rename_i hnp
     obtain⟨⟨e,s1⟩,h1,h2⟩:=yb_.1 hx;have hlin:=hX.code f vf hvf;simp only[VFn.linOK,Bool.and_eq_true]at hlin;have hlen:=AV.qan hf;have h0:Rel A (X.lin f) F p 0 ⟨qao 0 xs,B⟩ ⟨qao 0 vs,Bv,A,0⟩:=by
      refine⟨fun t x ht=> ?_,hb,hh,hl,fun t ht=> ?_,fun a ha=>⟨ham a ha,.inl ha⟩⟩
      ·simp only[qgU]at ht⊢
       simp only[Nat.zero_le,if_true,Nat.sub_zero]at ht⊢
       exact AV.qcS hf ht
      ·simp only[qgU]at ht⊢
       simp only[Nat.zero_le,if_true,Nat.sub_zero]at ht⊢
       rw[List.getElem?_eq_none_iff]at ht⊢
       omega
     obtain⟨v1,h3,h4⟩:=qnN (sv:=⟨qao 0 vs,Bv,A,0⟩) ih n vf.code hlin.1 _ _ _ h0 h1;have hc:(∀id,e≠.exit id)->qeN X.env (n+1) p f vs Bv A=finish Bv.length p v1 vf.results:=by
      intro hne;rw[qeN];simp only[hX.no f hg,hvf];rw[if_neg (by rw[<-hlen];exact hnp),h3];cases e with
      |exit id=>exact absurd rfl (hne id)
      |normal=>rfl
      |ret=>rfl
     have fin:∀{v' B'},qcY B.length s1 vf.results=some (v',B')->(∀id,e≠.exit id)->∃v Bv' A',qeN X.env (n+1) p f vs Bv A=some ⟨v,A',Bv'⟩/\v'.fit v/\qbS B' Bv'/\Held F (fun _=>False) A' (qaj [(0,v')] B' [(0,v)] Bv')/\∀a,A' a=true->A a=true\/Fut p 0 a:=by
      intro v' B' h5 he;obtain⟨r,h6,h7⟩:=qmr h4 hlin.2 h5;refine⟨r.v,r.B,r.A,?_,h7.fit,h7.boxes,h7.held,h7.am⟩;rw[hc he,<-hb.1,h6]
     cases e with
     |exit id=>simp at h2
     |normal=>exact fin h2 (fun id h=>by simp at h)
     |ret=>exact fin h2 (fun id h=>by simp at h)
end
def XLe(c c':qaB):Prop:=∀f as B r,c f as B=some r->c' f as B=some r
theorem quA{c c':qaB}(h:XLe c c')(lin:Nat->List Nat)(T:List Nat)(draw:Bool)(L0:Nat)(o:VOper):FLe (xOp c lin T draw L0 o) (xOp c' lin T draw L0 o):=by
 intro s r hr;obtain⟨dst,op,g,af⟩:=o;cases op
 case call iso f args=>
  simp only[xOp]at hr⊢
  split at hr
  ·rename_i k caps vs h1 h2
   split at hr
   ·rename_i hiso
    simp only[hiso,if_true];split at hr
    ·rename_i hk
     split at hr
     ·rename_i hc
      rw[h _ _ _ _ hc];exact hr
     ·simp at hr
    ·simp at hr
   ·rename_i hiso
    simp only[hiso];split at hr
    ·rename_i hd
     rw[if_pos hd];split at hr
     ·rename_i hc
      rw[h _ _ _ _ hc];exact hr
     ·simp at hr
    ·simp at hr
  ·simp at hr
 case callT th f args=>
  simp only[xOp]at hr⊢
  split at hr
  ·split at hr
   ·rename_i hd
    rw[if_pos hd];obtain⟨ds,h1,h2⟩:=yb_.1 hr;rw[h1];simp only[Option.bind_some];split at h2
    ·rename_i hc
     rw[h _ _ _ _ hc];exact h2
    ·simp at h2
   ·simp at hr
  ·simp at hr
 all_goals exact hr
theorem qg9{c c':qaB}(h:XLe c c')(lin:Nat->List Nat)(T:List Nat)(draw:Bool)(L0:Nat)(os:List VOper):FLe (qb9 c lin T draw L0 os) (qb9 c' lin T draw L0 os):=by
 induction os with
 |nil=>intro s r hr;exact hr
 |cons o os ih=>
  intro s r hr;simp only[qb9]at hr⊢
  split at hr
  ·obtain⟨s1,h1,h2⟩:=yb_.1 hr
   exact yb_.2 ⟨s1,quA h lin T draw L0 o s s1 h1,ih _ _ h2⟩
  ·exact ih _ _ hr
  ·simp at hr
theorem qi2{c c':qaB}(h:XLe c c')(lin:Nat->List Nat)(T:List Nat)(draw:Bool)(na:Nat)(live:List Nat)(ops:List VOper):FLe (qd5 c lin T draw na live ops) (qd5 c' lin T draw na live ops):=by
 intro s r hr;unfold qd5 at hr⊢
 split
 ·simp_all
 ·rename_i hd
  simp only[hd]at hr;obtain⟨s1,h1,h2⟩:=ya_.1 hr;exact ya_.2 ⟨s1,qg9 h lin T draw _ ops _ _ h1,h2⟩
theorem quB{c c':qaB}(h:XLe c c')(lin:Nat->List Nat)(T:List Nat)(draw:Bool)(L0:Nat)(fs:List FOper):FLe (xFs c lin T draw L0 fs) (xFs c' lin T draw L0 fs):=by
 induction fs with
 |nil=>intro s r hr;exact hr
 |cons f fs ih=>
  intro s r hr;simp only[xFs]at hr⊢
  obtain⟨s1,h1,h2⟩:=yb_.1 hr;obtain⟨s2,h3,h4⟩:=yb_.1 h2;exact yb_.2 ⟨s1,qg9 h lin T draw L0 f.pre _ _ h1,yb_.2 ⟨s2,h3,ih _ _ h4⟩⟩
theorem qg8{c c':qaB}(h:XLe c c')(lin:Nat->List Nat)(T:List Nat)(draw:Bool)(na:Nat)(live:List Nat)(fs:List FOper):FLe (qcM c lin T draw na live fs) (qcM c' lin T draw na live fs):=by
 intro s r hr;unfold qcM at hr⊢
 split
 ·simp_all
 ·rename_i hd
  simp only[hd]at hr;obtain⟨s1,h1,h2⟩:=ya_.1 hr;exact ya_.2 ⟨s1,quB h lin T draw _ fs _ _ h1,h2⟩
theorem qeT{f g:XS->Option (Ex×XS)}(h:FLe f g)(L1:Nat)(live:List Nat):∀n m,n<=m->FLe (qdP f L1 live n) (qdP g L1 live m):=by
 intro n
 induction n with
 |zero=>intro m _ s r hr;simp[qdP]at hr
 |succ n ih=>
  intro m hm s r hr;obtain⟨m,rfl⟩:∃k,m=k+1:=⟨m-1,by omega⟩;simp only[qdP]at hr⊢
  obtain⟨s0,h0,hr⟩:=yb_.1 hr;obtain⟨⟨e,s1⟩,h1,hr⟩:=yb_.1 hr;refine yb_.2 ⟨s0,h0,yb_.2 ⟨(e,s1),h _ _ h1,?_⟩⟩;cases e with
  |normal=>exact ih m (by omega) _ _ hr
  |exit id=>exact hr
  |ret=>exact hr
theorem qby{c c':qaB}(h:XLe c c')(lin:Nat->List Nat)(T:List Nat){n m:Nat}(hn:n<=m)(vc:VCode):FLe (qbq c lin T n vc) (qbq c' lin T m vc):=by
 induction vc with
 |skip=>intro s r hr;exact hr
 |ret=>intro s r hr;exact hr
 |exit id=>intro s r hr;exact hr
 |seq a b iha ihb=>
  intro s r hr;simp only[qbq]at hr⊢
  obtain⟨⟨e,s1⟩,h1,hr⟩:=yb_.1 hr;refine yb_.2 ⟨(e,s1),iha _ _ h1,?_⟩;cases e with
  |normal=>exact ihb _ _ hr
  |exit id=>exact hr
  |ret=>exact hr
 |region draw na live ops=>
  intro s r hr;simp only[qbq]at hr⊢
  obtain⟨s1,h1,h2⟩:=ya_.1 hr;exact ya_.2 ⟨s1,qi2 h lin T draw na live ops _ _ h1,h2⟩
 |regionF draw na live fs=>
  intro s r hr;simp only[qbq]at hr⊢
  obtain⟨s1,h1,h2⟩:=ya_.1 hr;exact ya_.2 ⟨s1,qg8 h lin T draw na live fs _ _ h1,h2⟩
 |cond x a b iha ihb=>
  intro s r hr;simp only[qbq]at hr⊢
  split at hr
  ·exact iha _ _ hr
  ·exact ihb _ _ hr
  ·simp at hr
 |block id cc ih=>
  intro s r hr;simp only[qbq]at hr⊢
  obtain⟨s1,h1,h2⟩:=ya_.1 hr;exact ya_.2 ⟨s1,ih _ _ h1,h2⟩
 |loop live cc ih=>
  intro s r hr;simp only[qbq]at hr⊢
  exact qeT ih _ _ n m hn _ _ hr
theorem qik{c c':qaB}(h:XLe c c')(sf:SFn)(x:DV)(xr:List DV):∀r,qil c sf x xr=some r->qil c' sf x xr=some r:=by
 intro r hr;unfold qil at hr⊢
 split at hr
 ·rename_i hc
  rw[if_pos hc];split at hr
  ·rename_i v cs hq
   rw[h _ _ _ _ hq];exact hr
  ·simp at hr
 ·simp at hr
theorem qxX{c c':qaB}(h:XLe c c'){n m:Nat}(hn:n<=m)(lin:Nat->List Nat)(T:List Nat)(sf:SFn)(ds:List DV):∀r,qjB c lin T n sf ds=some r->qjB c' lin T m sf ds=some r:=by
 intro r hr;unfold qjB at hr⊢
 split at hr
 ·simp at hr
 rename_i hlen;rw[if_neg hlen];obtain⟨⟨e,s⟩,h1,h2⟩:=yb_.1 hr;refine yb_.2 ⟨(e,s),qby h lin T hn sf.pre _ _ h1,?_⟩;simp only at h2⊢
 split at h2
 ·rename_i x xr e1 e2
  obtain⟨y,h3,h4⟩:=yb_.1 h2;obtain⟨q,h5,h6⟩:=ya_.1 h4;exact yb_.2 ⟨y,h3,ya_.2 ⟨q,qik h _ _ _ _ h5,h6⟩⟩
 ·rename_i e1
  obtain⟨q,h5,h6⟩:=yb_.1 h2;exact yb_.2 ⟨q,qby h lin T hn sf.rest _ _ h5,h6⟩
 ·rename_i g e1 e2
  obtain⟨q,h5,h6⟩:=yb_.1 h2;exact yb_.2 ⟨q,qby h lin T hn sf.rest _ _ h5,h6⟩
 ·simp at h2
theorem qsf(X:XEnv):∀n,XLe (qbe X n) (qbe X (n+1)):=by
 intro n
 induction n with
 |zero=>intro f as B r hr;simp[qbe]at hr
 |succ n ih=>
  intro f as B r hr;rw[qbe]at hr⊢
  split
  ·rename_i g hg
   rw[hg]at hr;exact hr
  ·rename_i hg
   simp only[hg]at hr;split
   ·rename_i hf
    simp only[hf]at hr;split
    ·rename_i hs;simp[hs]at hr
    ·rename_i sf hs
     simp only[hs]at hr;obtain⟨ds,h1,h2⟩:=yb_.1 hr;obtain⟨q,h3,h4⟩:=ya_.1 h2;exact yb_.2 ⟨ds,h1,ya_.2 ⟨q,qxX ih (Nat.le_succ n) _ _ sf ds _ h3,h4⟩⟩
   ·rename_i vf hf
    simp only[hf]at hr;split at hr
    ·simp at hr
    ·rename_i hnp
     rw[if_neg hnp];obtain⟨s1,h1,h2⟩:=yb_.1 hr;exact yb_.2 ⟨s1,qby ih _ _ (Nat.le_succ n) vf.code _ _ h1,h2⟩
theorem qbA(X:XEnv){n m:Nat}(h:n<=m):XLe (qbe X n) (qbe X m):=by
 induction h with
 |refl=>intro f as B r hr;exact hr
 |step _ ih=>intro f as B r hr;exact qsf X _ _ _ _ _ (ih _ _ _ _ hr)
noncomputable def qac(X:XEnv):qaB:=fun f as B=>lim fun n=>qbe X n f as B
noncomputable def qau(X:XEnv)(T:List Nat)(c:VCode)(s:XS):Option (Ex×XS):=lim fun n=>qbq (qbe X n) X.lin T n c s
theorem qcl{X:XEnv}{f:Nat}{as:List AV}{B:qal}{r:AV×qal}:qac X f as B=some r↔∃n,qbe X n f as B=some r:=
 qw5 (fun n m r h hr=>qbA X h _ _ _ _ hr) r
theorem qaF{X:XEnv}{T:List Nat}{c:VCode}{s:XS}{r:Ex×XS}:qau X T c s=some r↔∃n,qbq (qbe X n) X.lin T n c s=some r:=
 qw5 (fun n m r h hr=>qby (qbA X h) _ _ h c _ _ hr) r
theorem qo6(X:XEnv)(n:Nat):XLe (qbe X n) (qac X):=fun _ _ _ _ h=>qcl.2 ⟨n,h⟩
theorem qMG(X:XEnv)(T:List Nat)(draw:Bool)(L0:Nat)(o:VOper)(s r:XS)(hr:xOp (qac X) X.lin T draw L0 o s=some r):∃n,xOp (qbe X n) X.lin T draw L0 o s=some r:=by
 obtain⟨dst,op,g,af⟩:=o;cases op
 case call iso f args=>
  simp only[xOp]at hr⊢
  split at hr
  ·rename_i k caps vs h1 h2
   split at hr
   ·rename_i hiso
    simp only[hiso,if_true];split at hr
    ·rename_i hk
     split at hr
     ·rename_i hc
      obtain⟨n,hn⟩:=qcl.1 hc;exact⟨n,by rw[hn];exact hr⟩
     ·simp at hr
    ·simp at hr
   ·rename_i hiso
    simp only[hiso];split at hr
    ·rename_i hd
     split at hr
     ·rename_i hc
      obtain⟨n,hn⟩:=qcl.1 hc;exact⟨n,by rw[if_pos hd,hn];exact hr⟩
     ·simp at hr
    ·simp at hr
  ·simp at hr
 case callT th f args=>
  simp only[xOp]at hr⊢
  split at hr
  ·split at hr
   ·rename_i hd
    obtain⟨ds,h1,h2⟩:=yb_.1 hr;split at h2
    ·rename_i hc
     obtain⟨n,hn⟩:=qcl.1 hc;exact⟨n,by rw[if_pos hd,h1];simp only[Option.bind_some];rw[hn];exact h2⟩
    ·simp at h2
   ·simp at hr
  ·simp at hr
 all_goals exact⟨0,hr⟩
theorem quz(X:XEnv)(T:List Nat)(draw:Bool)(L0:Nat)(os:List VOper):∀s r,qb9 (qac X) X.lin T draw L0 os s=some r->∃n,qb9 (qbe X n) X.lin T draw L0 os s=some r:=by
 induction os with
 |nil=>intro s r hr;exact⟨0,hr⟩
 |cons o os ih=>
  intro s r hr;simp only[qb9]at hr⊢
  split at hr
  ·obtain⟨s1,h1,h2⟩:=yb_.1 hr
   obtain⟨n,hn⟩:=qMG X T draw L0 o s s1 h1;obtain⟨m,hm⟩:=ih _ _ h2;exact⟨Nat.max n m,yb_.2 ⟨s1,quA (qbA X (Nat.le_max_left n m)) _ _ _ _ _ _ _ hn,qg9 (qbA X (Nat.le_max_right n m)) _ _ _ _ _ _ _ hm⟩⟩
  ·exact ih _ _ hr
  ·simp at hr
theorem qju(X:XEnv)(T:List Nat)(draw:Bool)(na:Nat)(live:List Nat)(ops:List VOper)(s:XS):
 qau X T (.region draw na live ops) s=(qd5 (qac X) X.lin T draw na live ops s).map fun s'=>(.normal,s'):=by
 refine qen fun r=> ?_
 rw[qaF];constructor
 ·rintro⟨n,hn⟩
  simp only[qbq]at hn;obtain⟨s1,h1,h2⟩:=ya_.1 hn;exact ya_.2 ⟨s1,qi2 (qo6 X n) _ _ _ _ _ _ _ _ h1,h2⟩
 ·intro h
  obtain⟨s1,h1,h2⟩:=ya_.1 h;unfold qd5 at h1;split at h1
  ·simp at h1
  ·rename_i hd
   obtain⟨s2,h3,h4⟩:=ya_.1 h1;obtain⟨n,hn⟩:=quz _ _ _ _ _ _ _ h3;refine⟨n,?_⟩;simp only[qbq];refine ya_.2 ⟨s1,?_,h2⟩;unfold qd5;rw[if_neg hd];exact ya_.2 ⟨s2,hn,h4⟩
theorem qzr(X:XEnv)(T:List Nat)(s:XS):qau X T .skip s=some (.normal,s):=qaF.2 ⟨0,rfl⟩
theorem qFs(X:XEnv)(T:List Nat)(s:XS):qau X T .ret s=some (.ret,s):=qaF.2 ⟨0,rfl⟩
theorem qzt(X:XEnv)(T:List Nat)(id:Nat)(s:XS):qau X T (.exit id) s=some (.exit id,s):=qaF.2 ⟨0,rfl⟩
def qpx(r:Option (Ex×XS))(k:XS->Option (Ex×XS)):Option (Ex×XS):=
 r.bind fun r=>match r.1 with
  | .normal=>k r.2
  |_=>some r
theorem qlL(X:XEnv)(T:List Nat)(a b:VCode)(s:XS):qau X T (.seq a b) s=qpx (qau X T a s) (qau X T b):=by
 refine qen fun r=> ?_
 unfold qpx;rw[qaF];constructor
 ·rintro⟨n,hn⟩
  simp only[qbq]at hn;obtain⟨⟨e,s1⟩,h1,hr⟩:=yb_.1 hn;refine yb_.2 ⟨(e,s1),qaF.2 ⟨n,h1⟩,?_⟩;cases e with
  |normal=>exact qaF.2 ⟨n,hr⟩
  |exit id=>exact hr
  |ret=>exact hr
 ·intro h
  obtain⟨⟨e,s1⟩,h1,hr⟩:=yb_.1 h;obtain⟨n,hn⟩:=qaF.1 h1;cases e with
  |normal=>
   obtain⟨m,hm⟩:=qaF.1 hr;refine⟨Nat.max n m,?_⟩;simp only[qbq];exact yb_.2 ⟨_,qby (qbA X (Nat.le_max_left n m)) _ _ (Nat.le_max_left n m) _ _ _ hn,qby (qbA X (Nat.le_max_right n m)) _ _ (Nat.le_max_right n m) _ _ _ hm⟩
  |exit id=>exact⟨n,by simp only[qbq];exact yb_.2 ⟨_,hn,hr⟩⟩
  |ret=>exact⟨n,by simp only[qbq];exact yb_.2 ⟨_,hn,hr⟩⟩
theorem qzu(X:XEnv)(T:List Nat)(x:VX)(a b:VCode)(s:XS):
 qau X T (.cond x a b) s=match qco s.r x with
  |some (.d (.bool true))=>qau X T a s
  |some (.d (.bool false))=>qau X T b s
  |_=>none:=by
 unfold qau;split<;>simp only[qbq, *]
 unfold lim;split
 ·rename_i h;obtain⟨n,hn⟩:=h;simp at hn
 ·rfl
theorem quh(X:XEnv)(T:List Nat)(id:Nat)(c:VCode)(s:XS):
 qau X T (.block id c) s=(qau X T c s).map fun r=>if r.1= .exit id then(.normal,r.2)else r:=by
 refine qen fun r=> ?_
 rw[qaF];constructor
 ·rintro⟨n,hn⟩
  simp only[qbq]at hn;obtain⟨s1,h1,h2⟩:=ya_.1 hn;exact ya_.2 ⟨s1,qaF.2 ⟨n,h1⟩,h2⟩
 ·intro h
  obtain⟨s1,h1,h2⟩:=ya_.1 h;obtain⟨n,hn⟩:=qaF.1 h1;exact⟨n,by simp only[qbq];exact ya_.2 ⟨s1,hn,h2⟩⟩
noncomputable def qbw(X:XEnv)(T:List Nat)(L1:Nat)(live:List Nat)(c:VCode)(s:XS):Option (Ex×XS):=lim fun n=>qdP (qbq (qbe X n) X.lin T n c) L1 live n s
theorem qiG{X:XEnv}{T:List Nat}{L1:Nat}{live:List Nat}{c:VCode}{s:XS}{r:Ex×XS}:qbw X T L1 live c s=some r↔∃n,qdP (qbq (qbe X n) X.lin T n c) L1 live n s=some r:=
 qw5 (fun n m r h hr=>qeT (qby (qbA X h) _ _ h c) _ _ n m h _ _ hr) r
theorem qzs(X:XEnv)(T:List Nat)(live:List Nat)(c:VCode)(s:XS):qau X T (.loop live c) s=qbw X T s.B.length live c s:=rfl
theorem qek(X:XEnv)(T:List Nat)(L1:Nat)(live:List Nat)(c:VCode)(s:XS):
 qbw X T L1 live c s=(qad L1 live s).bind fun s0=>qpx (qau X T c s0) (qbw X T L1 live c):=by
 refine qen fun r=> ?_
 unfold qpx;rw[qiG];constructor
 ·rintro⟨n,hn⟩
  cases n with
  |zero=>simp[qdP]at hn
  |succ n=>
   simp only[qdP]at hn;obtain⟨s0,h0,hn⟩:=yb_.1 hn;obtain⟨⟨e,s1⟩,h1,hr⟩:=yb_.1 hn;refine yb_.2 ⟨s0,h0,yb_.2 ⟨(e,s1),qaF.2 ⟨n+1,h1⟩,?_⟩⟩;cases e with
   |normal=>exact qiG.2 ⟨n+1,qeT (fun _ _ h=>h) _ _ n (n+1) (Nat.le_succ n) _ _ hr⟩
   |exit id=>exact hr
   |ret=>exact hr
 ·intro h
  obtain⟨s0,h0,h⟩:=yb_.1 h;obtain⟨⟨e,s1⟩,h1,hr⟩:=yb_.1 h;obtain⟨n,hn⟩:=qaF.1 h1;have one:∀m,n<=m->qbq (qbe X m) X.lin T m c s0=some (e,s1):=fun m hm=>qby (qbA X hm) _ _ hm c _ _ hn
  cases e with
  |normal=>
   obtain⟨m,hm⟩:=qiG.1 hr;refine⟨n+m+1,?_⟩;simp only[qdP];refine yb_.2 ⟨s0,h0,yb_.2 ⟨(.normal,s1),one _ (by omega),?_⟩⟩;exact qeT (qby (qbA X (by omega)) _ _ (by omega) c) _ _ m _ (by omega) _ _ hm
  |exit id=>
   refine⟨n+1,?_⟩;simp only[qdP];exact yb_.2 ⟨s0,h0,yb_.2 ⟨(.exit id,s1),one _ (by omega),hr⟩⟩
  |ret=>
   refine⟨n+1,?_⟩;simp only[qdP];exact yb_.2 ⟨s0,h0,yb_.2 ⟨(.ret,s1),one _ (by omega),hr⟩⟩
theorem qzH(X:XEnv)(f:Nat)(as:List AV)(B:qal)(vf:VFn)(hn:X.nat f=none)(hf:X.env.code f=some vf)(hnp:as.length=vf.np):
 qac X f as B=(qau X (X.lin f) vf.code ⟨qao 0 as,B⟩).bind fun r=>
  match r.1 with
  | .exit _=>none
  |_=>qcY B.length r.2 vf.results:=by
 refine qen fun r=> ?_
 rw[qcl];constructor
 ·rintro⟨n,h⟩
  cases n with
  |zero=>simp[qbe]at h
  |succ n=>
   rw[qbe]at h;simp only[hn,hf]at h;rw[if_neg (by simp[hnp])]at h;obtain⟨s1,h1,h2⟩:=yb_.1 h;exact yb_.2 ⟨s1,qaF.2 ⟨n,h1⟩,h2⟩
 ·intro h
  obtain⟨s1,h1,h2⟩:=yb_.1 h;obtain⟨n,hk⟩:=qaF.1 h1;refine⟨n+1,?_⟩;rw[qbe];simp only[hn,hf];rw[if_neg (by simp[hnp])];exact yb_.2 ⟨s1,hk,h2⟩
theorem qMJ(X:XEnv)(T:List Nat)(draw:Bool)(L0:Nat):∀(fs:List FOper) (s r:XS),xFs (qac X) X.lin T draw L0 fs s=some r->∃n,xFs (qbe X n) X.lin T draw L0 fs s=some r:=by
 intro fs
 induction fs with
 |nil=>intro s r hr;exact⟨0,hr⟩
 |cons f fs ih=>
  intro s r hr;simp only[xFs]at hr⊢
  obtain⟨s1,h1,h2⟩:=yb_.1 hr;obtain⟨s2,h3,h4⟩:=yb_.1 h2;obtain⟨n,hn⟩:=quz _ _ _ _ _ _ _ h1;obtain⟨m,hm⟩:=ih _ _ h4;exact⟨Nat.max n m,yb_.2 ⟨s1,qg9 (qbA X (Nat.le_max_left n m)) _ _ _ _ _ _ _ hn,yb_.2 ⟨s2,h3,quB (qbA X (Nat.le_max_right n m)) _ _ _ _ _ _ _ hm⟩⟩⟩
theorem qh3(X:XEnv)(T:List Nat)(draw:Bool)(na:Nat)(live:List Nat)(fs:List FOper)(s:XS):qau X T (.regionF draw na live fs) s=(qcM (qac X) X.lin T draw na live fs s).map fun s'=>(.normal,s'):=by
 refine qen fun r=> ?_
 rw[qaF];constructor
 ·rintro⟨n,hn⟩
  simp only[qbq]at hn;obtain⟨s1,h1,h2⟩:=ya_.1 hn;exact ya_.2 ⟨s1,qg8 (qo6 X n) _ _ _ _ _ _ _ _ h1,h2⟩
 ·intro h
  obtain⟨s1,h1,h2⟩:=ya_.1 h;unfold qcM at h1;split at h1
  ·simp at h1
  ·rename_i hd
   obtain⟨s2,h3,h4⟩:=ya_.1 h1;obtain⟨n,hn⟩:=qMJ _ _ _ _ _ _ _ h3;refine⟨n,?_⟩;simp only[qbq];refine ya_.2 ⟨s1,?_,h2⟩;unfold qcM;rw[if_neg hd];exact ya_.2 ⟨s2,hn,h4⟩
theorem qlP(X:XEnv)(f:Nat)(as:List AV)(B:qal)(g:List DV->Option DV)(hn:X.nat f=some g):
 qac X f as B=(qaG as).bind fun ds=>(g ds).map fun v=>(.d v,B):=by
 refine qen fun r=> ?_
 rw[qcl];constructor
 ·rintro⟨n,h⟩
  cases n with
  |zero=>simp[qbe]at h
  |succ n=>rw[qbe]at h;simpa only[hn]using h
 ·intro h
  exact⟨1,by rw[qbe];simpa only[hn]using h⟩
noncomputable def qnT(X:XEnv)(T:List Nat)(sf:SFn)(ds:List DV):Option DV:=
 if ds.length≠sf.np then none else
  (qau X T sf.pre ⟨qao 0 (ds.map .d),[]⟩).bind fun r=>
   match r.1,lk r.2.r sf.cond,lk r.2.r sf.row with
   | .normal,some (.d (.bool true)),some (.d (.sl (.own [] 0) (x::xr)))=>
    (qij r.2).bind fun y=>(qil (qac X) sf x xr).map fun q=> .agg [y.1,y.2,.sl U q]
   | .normal,some (.d (.bool false)),_| .normal,some (.d (.bool true)),some (.d (.sl _ []))=>
    (qau X T sf.rest r.2).bind fun r2=>
     match r2.1 with
     | .exit _=>none
     |_=>(qcY 0 r2.2 sf.results).bind fun q=>match q.1 with
      | .d v=>some v
      |_=>none
   |_,_,_=>none
theorem qz6(X:XEnv)(sf:SFn)(x:DV)(xr:List DV):∀r,qil (qac X) sf x xr=some r->∃n,qil (qbe X n) sf x xr=some r:=by
 intro r hr;unfold qil at hr⊢
 split at hr
 ·rename_i hc
  split at hr
  ·rename_i v cs hq
   obtain⟨n,hn⟩:=qcl.1 hq;exact⟨n,by rw[if_pos hc,hn];exact hr⟩
  ·simp at hr
 ·simp at hr
theorem qmy{X:XEnv}{T:List Nat}{sf:SFn}{ds:List DV}{r:DV}:qnT X T sf ds=some r↔∃n,qjB (qbe X n) X.lin T n sf ds=some r:=by
 constructor
 ·intro hr
  unfold qnT at hr;split at hr
  ·simp at hr
  rename_i hlen;obtain⟨⟨e,s⟩,h1,h2⟩:=yb_.1 hr;obtain⟨n,hn⟩:=qaF.1 h1;have two:∀m,∀{q:Ex×XS},qbq (qbe X m) X.lin T m sf.rest s=some q->qbq (qbe X (Nat.max n m)) X.lin T (Nat.max n m) sf.rest s=some q:=fun m q hq=>qby (qbA X (Nat.le_max_right n m)) _ _ (Nat.le_max_right n m) _ _ _ hq
  have one:∀m,qbq (qbe X (Nat.max n m)) X.lin T (Nat.max n m) sf.pre ⟨qao 0 (ds.map .d),[]⟩=some (e,s):=fun m=>qby (qbA X (Nat.le_max_left n m)) _ _ (Nat.le_max_left n m) _ _ _ hn
  simp only at h2;split at h2
  ·rename_i x xr e1 e2
   obtain⟨y,h3,h4⟩:=yb_.1 h2;obtain⟨q,h5,h6⟩:=ya_.1 h4;obtain⟨m,hm⟩:=qz6 X _ _ _ _ h5;refine⟨Nat.max n m,?_⟩;unfold qjB;rw[if_neg hlen,one m];simp only[Option.bind_some,e1,e2];exact yb_.2 ⟨y,h3,ya_.2 ⟨q,qik (qbA X (Nat.le_max_right n m)) _ _ _ _ hm,h6⟩⟩
  ·rename_i e1
   obtain⟨q,h5,h6⟩:=yb_.1 h2;obtain⟨m,hm⟩:=qaF.1 h5;refine⟨Nat.max n m,?_⟩;unfold qjB;rw[if_neg hlen,one m];simp only[Option.bind_some,e1];exact yb_.2 ⟨q,two m hm,h6⟩
  ·rename_i g e1 e2
   obtain⟨q,h5,h6⟩:=yb_.1 h2;obtain⟨m,hm⟩:=qaF.1 h5;refine⟨Nat.max n m,?_⟩;unfold qjB;rw[if_neg hlen,one m];simp only[Option.bind_some,e1,e2];exact yb_.2 ⟨q,two m hm,h6⟩
  ·simp at h2
 ·rintro⟨n,hr⟩
  unfold qjB at hr;unfold qnT;split at hr
  ·simp at hr
  rename_i hlen;rw[if_neg hlen];obtain⟨⟨e,s⟩,h1,h2⟩:=yb_.1 hr;refine yb_.2 ⟨(e,s),qaF.2 ⟨n,h1⟩,?_⟩;simp only at h2⊢
  split at h2
  ·rename_i x xr e1 e2
   obtain⟨y,h3,h4⟩:=yb_.1 h2;obtain⟨q,h5,h6⟩:=ya_.1 h4
   try simp only[e1,e2]
   exact yb_.2 ⟨y,h3,ya_.2 ⟨q,qik (qo6 X n) _ _ _ _ h5,h6⟩⟩
  ·rename_i e1
   obtain⟨q,h5,h6⟩:=yb_.1 h2
   try simp only[e1]
   exact yb_.2 ⟨q,qaF.2 ⟨n,h5⟩,h6⟩
  ·rename_i g e1 e2
   obtain⟨q,h5,h6⟩:=yb_.1 h2
   try simp only[e1,e2]
   exact yb_.2 ⟨q,qaF.2 ⟨n,h5⟩,h6⟩
  ·simp at h2
theorem qzG(X:XEnv)(f:Nat)(as:List AV)(B:qal)(sf:SFn)(hn:X.nat f=none)(hf:X.env.code f=none)(hs:X.env.spec f=some sf):
 qac X f as B=(qaG as).bind fun ds=>(qnT X (X.lin f) sf ds).map fun v=>(.d v,B):=by
 refine qen fun r=> ?_
 rw[qcl];constructor
 ·rintro⟨n,h⟩
  cases n with
  |zero=>simp[qbe]at h
  |succ n=>
   rw[qbe]at h;simp only[hn,hf,hs]at h;obtain⟨ds,h1,h2⟩:=yb_.1 h;obtain⟨q,h3,h4⟩:=ya_.1 h2;exact yb_.2 ⟨ds,h1,ya_.2 ⟨q,qmy.2 ⟨n,h3⟩,h4⟩⟩
 ·intro h
  obtain⟨ds,h1,h2⟩:=yb_.1 h;obtain⟨q,h3,h4⟩:=ya_.1 h2;obtain⟨n,hk⟩:=qmy.1 h3;refine⟨n+1,?_⟩;rw[qbe];simp only[hn,hf,hs];exact yb_.2 ⟨ds,h1,ya_.2 ⟨q,hk,h4⟩⟩
theorem qIz{X:XEnv}(hX:XOK X){f:Nat}{xs vs:List DV}(hc:DV.clrs xs=xs)(hf:DV.fits xs vs){d:DV}{B':qal}(hd:d.clr=d)(h:qac X f (xs.map .d) []=some (.d d,B')):
 ∃u A Bv,qzI X.env [] f (vs.map .d) [] Ids.none=some ⟨.d u,A,Bv⟩/\d.fit u:=by
 obtain⟨n,hn⟩:=qcl.1 h;have h0:AV.fits (xs.map .d) (vs.map .d):=AV.qjA hf;have hre:∀j,qcK (qao 0 (xs.map AV.d)) (qao 0 (vs.map AV.d)) j=[]:=by
  intro j;rw[qeA];split
  ·rename_i a b ha hb
   have:=AV.qce ha hb;rw[AV.ql9,<-hc,DV.qer]at this;exact List.sublist_nil.1 this
  ·rfl
 have hloc:∀ℓ,qaj (qao 0 (xs.map AV.d)) [] (qao 0 (vs.map AV.d)) [] ℓ=[]:=by
  intro ℓ;cases ℓ with
  |reg t=>exact hre t
  |box j=>simp[qaj,qcX,qcu]
 obtain⟨v,Bv,A',h1,h2,_⟩:=qA8 hX n f _ _ _ _ hn [] (vs.map .d) [] Ids.none (fun _=>False) h0 ⟨rfl,by simp⟩
  ⟨fun ℓ=>by rw[hloc];simp,fun ℓ ℓ' a ha=>by rw[hloc]at ha;simp at ha,fun ℓ a ha=>by rw[hloc]at ha;simp at ha,fun a ha=>by simp at ha⟩ (fun j _=>hre j) (fun a ha=>by simp[Ids.none]at ha)
 simp only[AV.fit]at h2;obtain⟨y,rfl,h3⟩:=h2;exact⟨y,A',Bv,qns.2 ⟨n,h1⟩,h3⟩
def qMF(b:Option Bool)(c:qaB)(lin:Nat->List Nat)(T:List Nat)(d:Bool)(L:Nat)(o:VOper)(os:List VOper)(s:XS):Option XS:=
 match b with
 |some true=>(xOp c lin T d L o s).bind (qb9 c lin T d L os)
 |some false=>qb9 c lin T d L os (qbI T s o.dst .und)
 |none=>none
def qQt(r:Option XS)(c:qaB)(lin:Nat->List Nat)(T:List Nat)(d:Bool)(L:Nat)(os:List VOper):Option XS:=r.bind (qb9 c lin T d L os)
def qcU(live:List Nat)(r:Option XS):Option (Ex×XS):=r.map fun s'=>(.normal,⟨keep s'.r live,s'.B⟩)
def quy(id:Nat)(r:Option (Ex×XS)):Option (Ex×XS):=r.map fun r=>if r.1= .exit id then(.normal,r.2)else r
noncomputable def qMK(v:Option AV)(X:XEnv)(T:List Nat)(a b:VCode)(s:XS):Option (Ex×XS):=
 match v with
 |some (.d (.bool true))=>qau X T a s
 |some (.d (.bool false))=>qau X T b s
 |_=>none
def qV1(L:Nat)(rs:List VRes)(r:Option (Ex×XS)):Option (AV×qal):=
 r.bind fun r=>match r.1 with
  | .exit _=>none
  |_=>qcY L r.2 rs
def qnL(T:List Nat)(s:XS)(dst:Option Nat)(v:Option AV):Option XS:=v.map fun v=>qbI T s dst v
def qeS(T:List Nat)(s:XS)(dst:Option Nat)(v:Option AV):Option XS:=v.map fun v=>qbI T s dst v.clr
def qGv(T:List Nat)(s:XS)(dst:Option Nat)(v:Option DV):Option XS:=v.map fun v=>qbI T s dst (.d v)
def qMr(T:List Nat)(s:XS)(dst:Option Nat)(B:Option qal):Option XS:=B.map fun B=>qbI T ⟨s.r,B⟩ dst .und
def qX8(T:List Nat)(dst:Option Nat)(s:XS)(v:Option (List DV)):Option XS:=v.map fun xs=>qbI T s dst (.d (.sl U xs))
def qQr(T:List Nat)(dst:Option Nat)(s:XS)(a b:VX)(v:Option AV):Option XS:=
 match v with
 |some (.d (.bool true))=>(qco s.r a).map fun v=>qbI T (qed T dst s [a]) dst v
 |some (.d (.bool false))=>(qco s.r b).map fun v=>qbI T (qed T dst s [b]) dst v
 |_=>none
def qYa(T:List Nat)(dst:Option Nat)(sz bytes:Nat)(x y:VX)(s:XS)(v w:Option AV):Option XS:=
 match v,w with
 |some (.d v),some (.d w)=>(qa7 sz bytes v w).map fun u=>qbI T ⟨qb2 T s.r (if qcJ T dst then [x,y]else [x]),s.B⟩ dst (.d u)
 |_,_=>none
def qX9(T:List Nat)(L:Nat)(dst:Option Nat)(k:Nat)(x:VX)(s:XS)(v:Option AV):Option XS:=
 v.bind fun v=>if qcB s.B (L+k)/\v.cells.all AV.isCell/\v.safe (L+k)then some (qbI T ⟨qeV T s.r x,s.B.set (L+k) (some v.cells)⟩ dst (.ptr (L+k) 0))else none
def qV0(T:List Nat)(dst:Option Nat)(sz n:Nat)(g:Tag)(xs:List DV)(k:Nat)(s:XS)(e:Option DV):Option XS:=
 e.bind fun e=>if e.cells.length=sz/\sz≠0 then some (qbI T (if T.contains n then⟨(n,.d (.sl g (xs.set k e.clr)))::s.r,s.B⟩else s) dst (.ep e.cells))else none
def xTk(T:List Nat)(dst:Option Nat)(sz n:Nat)(s:XS)(v w:Option AV):Option XS:=
 match v,w with
 |some (.d (.sl g xs)),some (.d (.int _ k))=>if 0<=k then qV0 T dst sz n g xs k.toNat s (xs[k.toNat]?)else none
 |_,_=>none
def qG8(T:List Nat)(d:Bool)(L:Nat)(dst:Option Nat)(agg:Bool)(sz:Nat)(x:VX)(s:XS)(a:Option AV):Option XS:=
 match a with
 |some (.ep cs)=>(cut agg sz cs).map fun v=>qbI T (qed T dst s [x]) dst (.d v)
 |some (.ptr b off)=>if d/\L<=b then none else(qak s.B agg sz b off).map fun v=>qbI T (if qcJ T dst then⟨s.r,qfx s.B b off (if agg then sz else 1)⟩else s) dst v
 |_=>none
def qJA(T:List Nat)(d:Bool)(L:Nat)(dst:Option Nat)(init:Bool)(sz:Nat)(x:VX)(s:XS)(a v:Option AV):Option XS:=
 match a,v with
 |some (.ptr b off),some v=>if qbJ d init L b then none else(qdm s.B sz b off v).map fun B=>qbI T ⟨qeV T s.r x,B⟩ dst .und
 |_,_=>none
def qBd(T:List Nat)(d:Bool)(L:Nat)(dst:Option Nat)(sz:Nat)(x:VX)(av:List Nat)(s:XS)(a v:Option AV):Option XS:=
 match a,v with
 |some (.ptr b off),some v=>if qbJ d false L b|| !qcP s.r b av then none else(qdm s.B sz b off v).map fun B=>qbI T ⟨qeV T s.r x,B⟩ dst .und
 |_,_=>none
def qZe(b:Nat):Option AV->Bool
 |some (.ptr b' _)=>b' !=b
 |_=>false
theorem qy7(r:List (Nat×AV))(b:Nat):qcP r b []=true:=_root_.id rfl
theorem qtZ(r:List (Nat×AV))(b t:Nat)(av:List Nat):qcP r b (t::av)=(qZe b (lk r t)&&qcP r b av):=by
 unfold qcP;simp only[List.all_cons];congr 1
theorem qIX(b b' off:Nat):qZe b (some (.ptr b' off))=(b' !=b):=_root_.id rfl
def qQu(T:List Nat)(dst:Option Nat)(n i:Nat)(s:XS)(v:Option AV):Option XS:=
 match v with
 |some (.ag true vs)=>(vs[i]?).map fun v=>qbI T s dst v.clr
 |some (.d (.tup vs))=>(vs[i]?).map fun v=>qbI T (if qcJ T dst&&T.contains n then⟨(n,.d (.tup (vs.set i v.clr)))::s.r,s.B⟩else s) dst (.d v)
 |_=>none
def xMk(T:List Nat)(d:Bool)(L:Nat)(dst:Option Nat)(k sz bytes:Nat)(z:DV)(s:XS)(v:Option AV):Option XS:=
 match v with
 |some (.d (.int _ n))=>
  if d=false/\qcB s.B (L+k)/\0<=n/\n.toNat*bytes<=140737488355328/\n<9223372036854775808/\z.cells.length=sz/\z.cells.all DV.isCell then
   some (qbI T ⟨s.r,s.B.set (L+k) (some (((List.replicate n.toNat z.cn).flatMap DV.cells).map .d))⟩ dst (.bsl [] (isAgg z) (L+k) sz n.toNat))else none
 |_=>none
def qVs(c:qaB)(T:List Nat)(dst:Option Nat)(s:XS)(f:Option AV)(vs:Option (List AV)):Option XS:=
 match f,vs with
 |some (.fn k caps),some vs=>
  match qaG vs,caps with
  |some _,[]=>
   match c k (qcr [] 0 vs) []with
   |some (.d v,_)=>some (qbI T s dst (.d v))
   |_=>none
  |_,_=>none
 |_,_=>none
def qMH(T:List Nat)(dst:Option Nat)(s:XS)(ds:Option (List DV))(r:Option (AV×qal)):Option XS:=
 match ds with
 |some _=>
  match r with
  |some (.d v,_)=>some (qbI T s dst (.d v))
  |_=>none
 |none=>none
def xN2(T:List Nat)(dst:Option Nat)(s:XS)(xs:List VX)(b:Bool)(r:Option (AV×qal)):Option XS:=
 if b then
  match r with
  |some (v,B)=>some (qbI T ⟨qb2 T s.r xs,B⟩ dst v)
  |none=>none
 else none
def xN(c:qaB)(lin:Nat->List Nat)(T:List Nat)(dst:Option Nat)(s:XS)(args:List VX)(f:Option AV)(vs:Option (List AV)):Option XS:=
 match f,vs with
 |some (.fn k caps),some vs=>xN2 T dst s (qbh (lin k) 0 args) (qat T (qbh (lin k) 0 args)) (c k (qcr (lin k) 0 vs++caps) s.B)
 |_,_=>none
def xT2(T:List Nat)(dst:Option Nat)(thaw:Bool)(s:XS)(r:Option (AV×qal)):Option XS:=
 match r with
 |some (.d v,_)=>qeW T thaw s dst v
 |_=>none
def xT1(c:qaB)(T:List Nat)(dst:Option Nat)(thaw:Bool)(s:XS)(k:Nat)(ds:Option (List DV)):Option XS:=ds.bind fun ds=>xT2 T dst thaw s (c k (qcr [] 0 (ds.map .d)) [])
def xT(c:qaB)(T:List Nat)(d:Bool)(dst:Option Nat)(thaw:Bool)(s:XS)(f:Option AV)(vs:Option (List AV)):Option XS:=
 match f,vs with
 |some (.fn k []),some vs=>if d=false\/thaw=false then xT1 c T dst thaw s k (qiK (AV.frz s.B) vs)else none
 |_,_=>none
def qZd(d:Option DV)(ds:Option (List DV)):Option (List DV):=d.bind fun d=>ds.map (d::·)
def qFq(v:Option AV)(vs:Option (List AV)):Option (List AV):=match v,vs with|some v,some vs=>some (v::vs)|_,_=>none
def qud(v:DV)(vs:Option (List DV)):Option (List DV):=vs.map (v::·)
def dO(a:Option DV):Option AV:=a.map .d
def qVy(v:Option AV):Option AV:=match v with|some (.ptr i o)=>some (.ptr i o)|some (.ep cs)=>some (.ep cs)|some (.fn f c)=>some (.fn f c)|_=>none
def qZh(op:BinOp)(x y:Option AV):Option AV:=match x,y with|some (.d a),some (.d b)=>(qeM op a b).map .d|_,_=>none
def qE6(neg:Bool)(ks:List Nat)(x y:Option AV):Option AV:=match x,y with|some (.d (.agg a)),some (.d (.agg b))=>(qbx ks a b).map fun e=> .d (.bool (if neg then !e else e))|_,_=>none
def qZg(neg:Bool)(x y:Option AV):Option AV:=match x,y with|some (.d (.bool a)),some (.d (.bool b))=>some (.d (.bool (if neg then !(a==b)else(a==b))))|_,_=>none
def qZf(x:Option AV):Option AV:=match x with|some (.d (.bool b))=>some (.d (.bool !b))|_=>none
def qUU(k:IntKind)(x:Option AV):Option AV:=match x with|some (.d (.int _ n))=>some (.d (.int k (k.wrap n)))|_=>none
def qUT(x:Option AV):Option AV:=match x with|some (.d (.int _ n))=>some (.d (.str (Utf8.encode n)))|_=>none
def qLX(x:Option AV):Option AV:=match x with|some (.d (.sl _ xs))=>(bytesOf xs).map fun bs=> .d (.str ⟨bs.toArray⟩)|_=>none
def qLW(x i:Option AV):Option AV:=match x,i with|some (.d (.str s)),some (.d (.int _ n))=>if 0<=n then(qlQ s n.toNat).map fun b=> .d (.int .u8 b)else none|_,_=>none
def qE8(sz:Nat)(x i:Option AV):Option AV:=
 match x,i with
 |some (.d (.sl _ xs)),some (.d (.int _ n))=>if 0<=n then(xs[n.toNat]?).bind fun e=>if e.cells.length=sz/\sz≠0 then some (.ep e.cells)else none else none
 |some (.bsl _ _ b sz' m),some (.d (.int _ n))=>if sz'=sz/\0<=n/\n<m then some (.ptr b (n.toNat*sz))else none
 |some (.tsl _ b sz' m),some (.d (.int _ n))=>if sz'=sz/\0<=n/\n<m then some (.ptr b (n.toNat*sz))else none
 |_,_=>none
def qO9(sz:Nat)(e:Option DV):Option AV:=e.bind fun e=>if e.cells.length=sz/\sz≠0 then some (.ep e.cells)else none
def qXY(sz m:Nat)(x i:Option AV):Option AV:=
 match x,i with
 |some (.ptr b o),some (.d (.int _ n))=>if 0<=n/\n<m then some (.ptr b (o+n.toNat*sz))else none
 |some (.ep cs),some (.d (.int _ n))=>if 0<=n/\n<m/\n.toNat*sz<=cs.length then some (.ep (cs.drop (n.toNat*sz)))else none
 |_,_=>none
def qE5(off:Nat)(x:Option AV):Option AV:=match x with|some (.ptr b o)=>some (.ptr b (o+off))|some (.ep cs)=>if off<=cs.length then some (.ep (cs.drop off))else none|_=>none
def qP0(str:Bool)(x:Option AV):Option AV:=
 match str,x with
 |true,some (.d (.str s))=>some (.d (.int .i64 s.size))
 |false,some (.d (.sl _ xs))=>some (.d (.int .i64 xs.length))
 |false,some (.bsl _ _ _ _ n)=>some (.d (.int .i64 n))
 |false,some (.tsl _ _ _ n)=>some (.d (.int .i64 n))
 |_,_=>none
def qxk(str:Bool)(sz:Nat)(x:Option AV)(lo hi:Option (Option AV)):Option AV:=
 match str,x,lo,hi with
 |true,some (.d (.str s)),some lo,some hi=>(qbV s.size hi).bind fun h=>(qbU h lo).map fun l=> .d (.str (s.extract l h))
 |false,some (.d (.sl g xs)),some lo,some hi=>if xs.all (fun e=>e.cells.length=sz)then(qbV xs.length hi).bind fun h=>(qbU h lo).map fun l=> .d (.sl (if g= .nil then .nil else .sub) ((xs.take h).drop l))else none
 |_,_,_,_=>none
def qE7(g:VX->Option AV)(cs:List DV)(off size:Nat)(r:List (Nat×Nat×VX))(v:Option AV):Option (List DV):=
 match v with
 |some (.d v)=>if v.cells.length=size/\off+size<=cs.length/\v.cells.all DV.isCell then qaI g (splice cs off v.cells) r else none
 |_=>none
def qXX(g:VX->Option AV)(sz:Nat)(cs:List DV)(i:Nat)(r:List (Nat×VX))(v:Option AV):Option (List DV):=
 match v with
 |some (.d v)=>if v.cells.length=sz/\i<cs.length/\v.cells.all DV.isCell then qaX g sz (cs.set i v) r else none
 |_=>none
theorem qVK(c:qaB)(lin:Nat->List Nat)(T:List Nat)(d:Bool)(L:Nat)(o:VOper)(os:List VOper)(s:XS):qb9 c lin T d L (o::os) s=qMF (qcI s.r o.guard) c lin T d L o os s:=_root_.id rfl
theorem qVM(c:qaB)(lin:Nat->List Nat)(T:List Nat)(d:Bool)(L:Nat)(s:XS):qb9 c lin T d L [] s=some s:=_root_.id rfl
theorem qP5(c:qaB)(lin:Nat->List Nat)(T:List Nat)(d:Bool)(L:Nat)(o:VOper)(os:List VOper)(s:XS):qMF (some true) c lin T d L o os s=qQt (xOp c lin T d L o s) c lin T d L os:=_root_.id rfl
theorem qMf(c:qaB)(lin:Nat->List Nat)(T:List Nat)(d:Bool)(L:Nat)(o:VOper)(os:List VOper)(s:XS):qMF (some false) c lin T d L o os s=qb9 c lin T d L os (qbI T s o.dst .und):=_root_.id rfl
theorem qP9(s:XS)(c:qaB)(lin:Nat->List Nat)(T:List Nat)(d:Bool)(L:Nat)(os:List VOper):qQt (some s) c lin T d L os=qb9 c lin T d L os s:=_root_.id rfl
theorem qGn(X:XEnv)(T:List Nat)(na:Nat)(live:List Nat)(ops:List VOper)(r:List (Nat×AV))(B:qal):
 qau X T (.region false na live ops) ⟨r,B⟩=qcU live (qb9 (qac X) X.lin T false B.length ops ⟨r,B++List.replicate na none⟩):=by
 rw[qju];simp[qd5,qcU,Function.comp_def]
theorem qaN(X:XEnv)(T:List Nat)(na:Nat)(live:List Nat)(ops:List VOper)(h:qlI ops=true)(r:List (Nat×AV))(B:qal):
 qau X T (.region true na live ops) ⟨r,B⟩=qcU live (qb9 (qac X) X.lin T true B.length ops ⟨r,B++List.replicate na none⟩):=by
 rw[qju];simp[qd5,qcU,Function.comp_def,h]
theorem qVQ(live:List Nat)(r:List (Nat×AV))(B:qal):qcU live (some ⟨r,B⟩)=some (.normal,⟨keep r live,B⟩):=_root_.id rfl
theorem qMl(X:XEnv)(T:List Nat)(id:Nat)(c:VCode)(s:XS):qau X T (.block id c) s=quy id (qau X T c s):=quh X T id c s
theorem qz1(id:Nat)(e:Ex)(s:XS):quy id (some (e,s))=some (if e= .exit id then(.normal,s)else(e,s)):=_root_.id rfl
theorem qQf(X:XEnv)(T:List Nat)(x:VX)(a b:VCode)(s:XS):qau X T (.cond x a b) s=qMK (qco s.r x) X T a b s:=by rw[qzu];rfl
theorem qMi(X:XEnv)(T:List Nat)(a b:VCode)(s:XS):qMK (some (.d (.bool true))) X T a b s=qau X T a s:=_root_.id rfl
theorem qGo(X:XEnv)(T:List Nat)(a b:VCode)(s:XS):qMK (some (.d (.bool false))) X T a b s=qau X T b s:=_root_.id rfl
theorem qah(X:XEnv)(f:Nat)(as:List AV)(B:qal)(vf:VFn)(hn:X.nat f=none)(hf:X.env.code f=some vf)(hnp:as.length=vf.np):
 qac X f as B=qV1 B.length vf.results (qau X (X.lin f) vf.code ⟨qao 0 as,B⟩):=qzH X f as B vf hn hf hnp
theorem qVI(L:Nat)(rs:List VRes)(s:XS):qV1 L rs (some (.ret,s))=qcY L s rs:=_root_.id rfl
theorem qP8(L:Nat)(rs:List VRes)(s:XS):qV1 L rs (some (.normal,s))=qcY L s rs:=_root_.id rfl
theorem qpw(s:XS)(k:XS->Option (Ex×XS)):qpx (some (.normal,s)) k=k s:=_root_.id rfl
theorem qBc(s:XS)(k:XS->Option (Ex×XS)):qpx (some (.ret,s)) k=some (.ret,s):=_root_.id rfl
theorem qx2(id:Nat)(s:XS)(k:XS->Option (Ex×XS)):qpx (some (.exit id,s)) k=some (.exit id,s):=_root_.id rfl
section
variable (c:qaB) (lin:Nat->List Nat) (T:List Nat) (d:Bool) (L:Nat) (dst:Option Nat) (g:Option (Nat×Bool)) (af:List Nat) (s:XS)
theorem qQa(x:VX):xOp c lin T d L ⟨dst,.move x,g,af⟩ s=qnL T (qed T dst s [x]) dst (qco s.r x):=_root_.id rfl
theorem qMk(z:List DV)(ps:List (Nat×Nat×VX)):xOp c lin T d L ⟨dst,.build z ps,g,af⟩ s=qnL T (qed T dst s (ps.map fun q=>q.2.2)) dst ((qaI (qco s.r) (z.map DV.cn1) ps).map fun cs=> .d (.agg cs)):=by
 simp only[xOp,qnL,Option.map_map];rfl
theorem qxS(x:VX):xOp c lin T d L ⟨dst,.nilCheck x,g,af⟩ s=qeS T s dst (evP s.r (.nilCheck x)):=_root_.id rfl
theorem qVS(op:BinOp)(x y:VX):xOp c lin T d L ⟨dst,.bin op x y,g,af⟩ s=qeS T s dst (evP s.r (.bin op x y)):=_root_.id rfl
theorem qMg(neg:Bool)(ks:List Nat)(x y:VX):xOp c lin T d L ⟨dst,.eqAgg neg ks x y,g,af⟩ s=qeS T s dst (evP s.r (.eqAgg neg ks x y)):=_root_.id rfl
theorem qVP(neg:Bool)(x y:VX):xOp c lin T d L ⟨dst,.eqB neg x y,g,af⟩ s=qeS T s dst (evP s.r (.eqB neg x y)):=_root_.id rfl
theorem qVL(x:VX):xOp c lin T d L ⟨dst,.not x,g,af⟩ s=qeS T s dst (evP s.r (.not x)):=_root_.id rfl
theorem qQe(k:Conv)(x:VX):xOp c lin T d L ⟨dst,.conv k x,g,af⟩ s=qeS T s dst (evP s.r (.conv k x)):=_root_.id rfl
theorem qMe(x y:VX):xOp c lin T d L ⟨dst,.index x y,g,af⟩ s=qeS T s dst (evP s.r (.index x y)):=_root_.id rfl
theorem qr9(sz:Nat)(n:Nat)(y:VX):xOp c lin T d L ⟨dst,.indexAddr sz none (.t n) y,g,af⟩ s=if qcJ T dst then xTk T dst sz n s (lk s.r n) (qco s.r y)else qeS T s dst (evP s.r (.indexAddr sz none (.t n) y)):=by
 simp only[xOp,qex];cases hl:qcJ T dst with
 |true=>rfl
 |false=>rfl
theorem qpp(sz m:Nat)(x y:VX):xOp c lin T d L ⟨dst,.indexAddr sz (some m) x y,g,af⟩ s=qeS T s dst (evP s.r (.indexAddr sz (some m) x y)):=by
 simp only[xOp,qex];cases hl:qcJ T dst<;>cases x<;>rfl
theorem qpo(sz:Nat)(v:AV)(y:VX):xOp c lin T d L ⟨dst,.indexAddr sz none (.c v) y,g,af⟩ s=qeS T s dst (evP s.r (.indexAddr sz none (.c v) y)):=by
 simp only[xOp,qex];cases hl:qcJ T dst<;>rfl
theorem qsa(off:Nat)(x:VX):xOp c lin T d L ⟨dst,.fieldAddr off x,g,af⟩ s=qeS T s dst (evP s.r (.fieldAddr off x)):=_root_.id rfl
theorem qMc(str:Bool)(sz:Nat)(x:VX)(lo hi:Option VX):xOp c lin T d L ⟨dst,.slice str sz x lo hi,g,af⟩ s=qeS T s dst (evP s.r (.slice str sz x lo hi)):=_root_.id rfl
theorem qxT(f:Nat)(cs:List VX):xOp c lin T d L ⟨dst,.makeFunc f cs,g,af⟩ s=qeS T s dst (evP s.r (.makeFunc f cs)):=_root_.id rfl
theorem qVN(str:Bool)(x:VX):xOp c lin T d L ⟨dst,.len str x,g,af⟩ s=qeS T s dst (evP s.r (.len str x)):=_root_.id rfl
theorem qP6(v:AV):qeS T s dst (some v)=some (qbI T s dst v.clr):=_root_.id rfl
theorem qVJ(v:AV):qnL T s dst (some v)=some (qbI T s dst v):=_root_.id rfl
theorem qP4(r:List (Nat×AV))(B:qal)(n:Nat)(v:AV):qbI T ⟨r,B⟩ (some n) v=⟨(n,if T.contains n then v else v.clr)::r,B⟩:=_root_.id rfl
theorem qr7(v:AV):qbI T s none v=s:=_root_.id rfl
theorem qQc(r:List (Nat×AV))(B:qal)(xs:List VX):qed T dst ⟨r,B⟩ xs=if qcJ T dst then⟨qb2 T r xs,B⟩else⟨r,B⟩:=_root_.id rfl
theorem qMm(k:Nat)(z:List DV):xOp c lin T d L ⟨dst,.alloc k z,g,af⟩ s=if qcB s.B (L+k)/\z.all DV.isCell then some (qbI T ⟨s.r,s.B.set (L+k) (some (z.map fun z=> .d z.cn1))⟩ dst (.ptr (L+k) 0))else none:=_root_.id rfl
theorem qGq(z:List DV):xOp c lin T d L ⟨dst,.allocE z,g,af⟩ s=if d=false/\z.all DV.isCell then some (qbI T ⟨s.r,s.B++[some (z.map fun z=>AV.d z.cn1)]⟩ dst (.ptr s.B.length 0))else none:=_root_.id rfl
theorem qP7(x a b:VX):xOp c lin T d L ⟨dst,.pick x a b,g,af⟩ s=qQr T dst s a b (qco s.r x):=_root_.id rfl
theorem qGp(sz bytes:Nat)(x y:VX):xOp c lin T d L ⟨dst,.append sz bytes x y,g,af⟩ s=qYa T dst sz bytes x y s (qco s.r x) (qco s.r y):=_root_.id rfl
theorem qVR(k:Nat)(x:VX):xOp c lin T d L ⟨dst,.box k x,g,af⟩ s=qX9 T L dst k x s (qco s.r x):=_root_.id rfl
theorem qQb(agg:Bool)(sz:Nat)(a:VX):xOp c lin T d L ⟨dst,.load agg sz a,g,af⟩ s=qG8 T d L dst agg sz a s (qco s.r a):=_root_.id rfl
theorem qGm(sz:Nat)(a x:VX)(av:List Nat):xOp c lin T d L ⟨dst,.storeN sz a x av,g,af⟩ s=qBd T d L dst sz x av s (qco s.r a) (qco s.r x):=_root_.id rfl
theorem qMb(init:Bool)(sz:Nat)(a x:VX):xOp c lin T d L ⟨dst,.store init sz a x,g,af⟩ s=qJA T d L dst init sz x s (qco s.r a) (qco s.r x):=_root_.id rfl
theorem qz3(n i:Nat):xOp c lin T d L ⟨dst,.extract (.t n) i,g,af⟩ s=qQu T dst n i s (lk s.r n):=_root_.id rfl
theorem qr8(k sz bytes:Nat)(z:DV)(x:VX):xOp c lin T d L ⟨dst,.makeSlice k sz bytes z x,g,af⟩ s=xMk T d L dst k sz bytes z s (qco s.r x):=_root_.id rfl
theorem qpq(sz:Nat)(z:DV)(len:Nat)(ps:List (Nat×VX)):xOp c lin T d L ⟨dst,.buildSlice sz z len ps,g,af⟩ s=if z.cells.length=sz/\z.cells.all DV.isCell/\len*sz<=16777216/\len<=16777216 then qX8 T dst (qed T dst s (ps.map fun q=>q.2)) (qaX (qco s.r) sz (List.replicate len z.cn) ps)else none:=_root_.id rfl
theorem qVO(f:VX)(args:List VX):xOp c lin T d L ⟨dst,.call true f args,g,af⟩ s=qVs c T dst s (qco s.r f) (qfR s.r args):=by
 simp only[xOp,qVs,if_true]<;>rfl
theorem qMd(f:VX)(args:List VX):xOp c lin T d L ⟨dst,.call false f args,g,af⟩ s=xN c lin T dst s args (qco s.r f) (qfR s.r args):=by
 simp only[xOp,xN,xN2,Bool.false_eq_true,if_false]<;>rfl
theorem qMj(th:Bool)(f:VX)(args:List VX):xOp c lin T d L ⟨dst,.callT th f args,g,af⟩ s=xT c T d dst th s (qco s.r f) (qfR s.r args):=by
 simp only[xOp,xT,xT1];cases h1:qco s.r f with
 |none=>rfl
 |some a=>
  cases a with
  |fn k caps=>
   cases caps with
   |nil=>
    cases h2:qfR s.r args with
    |none=>rfl
    |some vs=>
     simp only;split
     ·cases qiK (AV.frz s.B) vs with
      |none=>rfl
      |some ds=>
       show(match c k (qcr [] 0 (ds.map .d)) []with|some (.d v,_)=>qeW T th s dst v|_=>none)=xT2 T dst th s (c k (qcr [] 0 (ds.map .d)) []);generalize c k (qcr [] 0 (ds.map .d)) []=q;cases q with
       |none=>rfl
       |some q=>obtain⟨v,B⟩:=q;cases v<;>rfl
     ·rfl
   |cons _ _=>cases qfR s.r args<;>rfl
  |_=>cases qfR s.r args<;>rfl
theorem w_T(k:Nat)(th:Bool)(vs:List AV):xT c T false dst th s (some (.fn k [])) (some vs)=xT1 c T dst th s k (qiK (AV.frz s.B) vs):=by simp only[xT,true_or,if_true]
theorem qZt(k:Nat)(vs:List AV):xT c T true dst false s (some (.fn k [])) (some vs)=xT1 c T dst false s k (qiK (AV.frz s.B) vs):=by simp only[xT,or_true,if_true]
theorem qZv(k:Nat)(th:Bool)(ds:List DV):xT1 c T dst th s k (some ds)=xT2 T dst th s (c k (qcr [] 0 (ds.map .d)) []):=_root_.id rfl
theorem qZu(th:Bool)(v:DV)(B:qal):xT2 T dst th s (some (.d v,B))=qeW T th s dst v:=_root_.id rfl
theorem qQE(v:DV):qeW T false s dst v=if v.allUT then some (qbI T s dst (.d v))else none:=by simp[qeW]
theorem qQD(r:List (Nat×AV))(B:qal)(v:DV):qeW T true ⟨r,B⟩ dst v=if v.allUT then some (qbI T ⟨r,B++(v.clr.thaw B.length).2⟩ dst (v.clr.thaw B.length).1)else none:=by simp[qeW]
theorem qQz(a b:VX)(v:Bool):qQr T dst s a b (some (.d (.bool v)))=if v then qnL T (qed T dst s [a]) dst (qco s.r a)else qnL T (qed T dst s [b]) dst (qco s.r b):=by cases v<;>rfl
theorem qV9(sz bytes:Nat)(x y:VX)(v w:DV):qYa T dst sz bytes x y s (some (.d v)) (some (.d w))=qGv T ⟨qb2 T s.r (if qcJ T dst then [x,y]else [x]),s.B⟩ dst (qa7 sz bytes v w):=_root_.id rfl
theorem qV8(k:Nat)(x:VX)(v:AV):qX9 T L dst k x s (some v)=if qcB s.B (L+k)/\v.cells.all AV.isCell/\v.safe (L+k)then some (qbI T ⟨qeV T s.r x,s.B.set (L+k) (some v.cells)⟩ dst (.ptr (L+k) 0))else none:=_root_.id rfl
theorem qBh(agg:Bool)(sz:Nat)(x:VX)(cs:List DV):qG8 T d L dst agg sz x s (some (.ep cs))=if qcJ T dst then qnL T (qed T dst s [x]) dst ((cut agg sz cs).map .d)else qeS T s dst ((cut agg sz cs).map .d):=by
 simp only[qG8,qeS,qnL,Option.map_map];cases hl:qcJ T dst with
 |true=>rfl
 |false=>
  simp only[Bool.false_eq_true,if_false];cases cut agg sz cs with
  |none=>rfl
  |some v=>
   simp only[Option.map_some,Function.comp,qed,hl,Bool.false_eq_true,if_false];cases dst with
   |none=>rfl
   |some n=>
    simp only[qcJ]at hl;simp only[qbI,hl,Bool.false_eq_true,if_false,AV.clr,DV.qg5]
theorem qZq(sz n:Nat)(g:Tag)(xs:List DV)(kd:IntKind)(k:Int):xTk T dst sz n s (some (.d (.sl g xs))) (some (.d (.int kd k)))=if 0<=k then qV0 T dst sz n g xs k.toNat s (xs[k.toNat]?)else none:=_root_.id rfl
theorem qV4(sz n:Nat)(g:Tag)(xs:List DV)(k:Nat)(e:DV):qV0 T dst sz n g xs k s (some e)=if e.cells.length=sz/\sz≠0 then some (qbI T (if T.contains n then⟨(n,.d (.sl g (xs.set k e.clr)))::s.r,s.B⟩else s) dst (.ep e.cells))else none:=_root_.id rfl
theorem qQA(agg:Bool)(sz b off:Nat)(x:VX):qG8 T d L dst agg sz x s (some (.ptr b off))=if d/\L<=b then none else qnL T (if qcJ T dst then⟨s.r,qfx s.B b off (if agg then sz else 1)⟩else s) dst (qak s.B agg sz b off):=_root_.id rfl
theorem qG9(sz:Nat)(x:VX)(av:List Nat)(b off:Nat)(v:AV):qBd T d L dst sz x av s (some (.ptr b off)) (some v)=if qbJ d false L b|| !qcP s.r b av then none else qMr T ⟨qeV T s.r x,s.B⟩ dst (qdm s.B sz b off v):=_root_.id rfl
theorem qMM(init:Bool)(sz:Nat)(x:VX)(b off:Nat)(v:AV):qJA T d L dst init sz x s (some (.ptr b off)) (some v)=if qbJ d init L b then none else qMr T ⟨qeV T s.r x,s.B⟩ dst (qdm s.B sz b off v):=_root_.id rfl
theorem qQx(r:List (Nat×AV))(B B':qal):qMr T ⟨r,B⟩ dst (some B')=some (qbI T ⟨r,B'⟩ dst .und):=_root_.id rfl
theorem qV7(n i:Nat)(vs:List DV):qQu T dst n i s (some (.d (.tup vs)))=qGv T (if qcJ T dst&&T.contains n then⟨(n,.d (.tup (vs.set i ((vs[i]?).getD (.bool false)).clr)))::s.r,s.B⟩else s) dst (vs[i]?):=by
 simp only[qQu,qGv];cases hv:vs[i]? with
 |none=>rfl
 |some v=>simp
theorem qQC(n i:Nat)(vs:List AV):qQu T dst n i s (some (.ag true vs))=qeS T s dst (vs[i]?):=by
 simp only[qQu,qeS]
theorem qZs(k sz bytes:Nat)(z:DV)(kk:IntKind)(n:Int):xMk T d L dst k sz bytes z s (some (.d (.int kk n)))=if d=false/\qcB s.B (L+k)/\0<=n/\n.toNat*bytes<=140737488355328/\n<9223372036854775808/\z.cells.length=sz/\z.cells.all DV.isCell then
 some (qbI T ⟨s.r,s.B.set (L+k) (some (((List.replicate n.toNat z.cn).flatMap DV.cells).map .d))⟩ dst (.bsl [] (isAgg z) (L+k) sz n.toNat))else none:=_root_.id rfl
theorem qV5(xs:List DV):qX8 T dst s (some xs)=some (qbI T s dst (.d (.sl U xs))):=_root_.id rfl
theorem qV6(k:Nat)(vs:List AV):qVs c T dst s (some (.fn k [])) (some vs)=qMH T dst s (qaG vs) (c k (qcr [] 0 vs) []):=by
 simp only[qVs,qMH];cases qaG vs<;>rfl
theorem qQB(ds:List DV)(v:DV)(B:qal):qMH T dst s (some ds) (some (.d v,B))=some (qbI T s dst (.d v)):=_root_.id rfl
theorem w_n(args:List VX)(k:Nat)(caps vs:List AV):xN c lin T dst s args (some (.fn k caps)) (some vs)=xN2 T dst s (qbh (lin k) 0 args) (qat T (qbh (lin k) 0 args)) (c k (qcr (lin k) 0 vs++caps) s.B):=_root_.id rfl
theorem qZr(xs:List VX)(r:List (Nat×AV))(B0:qal)(v:AV)(B:qal):xN2 T dst ⟨r,B0⟩ xs true (some (v,B))=some (qbI T ⟨qb2 T r xs,B⟩ dst v):=_root_.id rfl
theorem qQy(v:DV):qGv T s dst (some v)=some (qbI T s dst (.d v)):=_root_.id rfl
end
theorem qmk(r:List (Nat×AV))(x:VX):evP r (.nilCheck x)=qVy (x.get r):=_root_.id rfl
theorem qXW(r:List (Nat×AV))(op:BinOp)(x y:VX):evP r (.bin op x y)=qZh op (x.get r) (y.get r):=_root_.id rfl
theorem qO7(r:List (Nat×AV))(neg:Bool)(ks:List Nat)(x y:VX):evP r (.eqAgg neg ks x y)=qE6 neg ks (x.get r) (y.get r):=_root_.id rfl
theorem qXV(r:List (Nat×AV))(neg:Bool)(x y:VX):evP r (.eqB neg x y)=qZg neg (x.get r) (y.get r):=_root_.id rfl
theorem qXT(r:List (Nat×AV))(x:VX):evP r (.not x)=qZf (x.get r):=_root_.id rfl
theorem qUS(r:List (Nat×AV))(k:IntKind)(x:VX):evP r (.conv (.kind k) x)=qUU k (x.get r):=_root_.id rfl
theorem qUR(r:List (Nat×AV))(x:VX):evP r (.conv .rune x)=qUT (x.get r):=_root_.id rfl
theorem qO8(r:List (Nat×AV))(x:VX):evP r (.conv .bytes x)=qLX (x.get r):=_root_.id rfl
theorem qO6(r:List (Nat×AV))(x y:VX):evP r (.index x y)=qLW (x.get r) (y.get r):=_root_.id rfl
theorem qt6(r:List (Nat×AV))(sz:Nat)(x y:VX):evP r (.indexAddr sz none x y)=qE8 sz (x.get r) (y.get r):=_root_.id rfl
theorem qzg(r:List (Nat×AV))(sz m:Nat)(x y:VX):evP r (.indexAddr sz (some m) x y)=qXY sz m (x.get r) (y.get r):=_root_.id rfl
theorem qt7(r:List (Nat×AV))(off:Nat)(x:VX):evP r (.fieldAddr off x)=qE5 off (x.get r):=_root_.id rfl
theorem qzf(r:List (Nat×AV))(f:Nat)(cs:List VX):evP r (.makeFunc f cs)=(qgE r cs).map fun vs=> .fn f vs:=_root_.id rfl
theorem qXU(r:List (Nat×AV))(str:Bool)(x:VX):evP r (.len str x)=qP0 str (x.get r):=by
 cases str<;>simp only[evP,qP0]<;>(cases h:x.get r with
  |none=>rfl
  |some v=>cases v with
   |d w=>cases w<;>rfl
   |_=>rfl)
theorem qO5(r:List (Nat×AV))(str:Bool)(sz:Nat)(x:VX)(lo hi:Option VX):evP r (.slice str sz x lo hi)=qxk str sz (x.get r) (qhO r lo) (qhO r hi):=by
 cases str<;>simp only[evP,qxk]<;>(cases h:x.get r with
  |none=>rfl
  |some v=>cases v with
   |d w=>cases w<;>cases qhO r lo<;>cases qhO r hi<;>rfl
   |_=>rfl)
theorem qUE(i o:Nat):qVy (some (.ptr i o))=some (.ptr i o):=_root_.id rfl
theorem qUD(cs:List DV):qVy (some (.ep cs))=some (.ep cs):=_root_.id rfl
theorem qUC(f:Nat)(c:List AV):qVy (some (.fn f c))=some (.fn f c):=_root_.id rfl
theorem qXR(op:BinOp)(a b:DV):qZh op (some (.d a)) (some (.d b))=dO (qeM op a b):=_root_.id rfl
theorem qZO(a:DV):dO (some a)=some (.d a):=_root_.id rfl
theorem qOZ(neg:Bool)(ks:List Nat)(a b:List DV):qE6 neg ks (some (.d (.agg a))) (some (.d (.agg b)))=(qbx ks a b).map fun e=> .d (.bool (if neg then !e else e)):=_root_.id rfl
theorem qXQ(neg:Bool)(a b:Bool):qZg neg (some (.d (.bool a))) (some (.d (.bool b)))=some (.d (.bool (if neg then !(a==b)else(a==b)))):=_root_.id rfl
theorem qXO(b:Bool):qZf (some (.d (.bool b)))=some (.d (.bool !b)):=_root_.id rfl
theorem qUJ(k k':IntKind)(n:Int):qUU k (some (.d (.int k' n)))=some (.d (.int k (k.wrap n))):=_root_.id rfl
theorem qUB(k':IntKind)(n:Int):qUT (some (.d (.int k' n)))=some (.d (.str (Utf8.encode n))):=_root_.id rfl
theorem qO1(g:Tag)(xs:List DV):qLX (some (.d (.sl g xs)))=(bytesOf xs).map fun bs=> .d (.str ⟨bs.toArray⟩):=_root_.id rfl
theorem qOX(s:ByteArray)(k:IntKind)(n:Int):qLW (some (.d (.str s))) (some (.d (.int k n)))=if 0<=n then(qlQ s n.toNat).map fun b=> .d (.int .u8 b)else none:=_root_.id rfl
theorem qUL(sz:Nat)(g:Tag)(xs:List DV)(k:IntKind)(n:Int):qE8 sz (some (.d (.sl g xs))) (some (.d (.int k n)))=if 0<=n then qO9 sz (xs[n.toNat]?)else none:=by
 simp only[qE8,qO9]
theorem qUI(sz:Nat)(e:DV):qO9 sz (some e)=if e.cells.length=sz/\sz≠0 then some (.ep e.cells)else none:=_root_.id rfl
theorem qO3(sz:Nat)(id:Id)(a:Bool)(b s' m:Nat)(k:IntKind)(n:Int):qE8 sz (some (.bsl id a b s' m)) (some (.d (.int k n)))=if s'=sz/\0<=n/\n<m then some (.ptr b (n.toNat*sz))else none:=_root_.id rfl
theorem qO2(sz:Nat)(a:Bool)(b s' m:Nat)(k:IntKind)(n:Int):qE8 sz (some (.tsl a b s' m)) (some (.d (.int k n)))=if s'=sz/\0<=n/\n<m then some (.ptr b (n.toNat*sz))else none:=_root_.id rfl
theorem qXS(sz m b o:Nat)(k:IntKind)(n:Int):qXY sz m (some (.ptr b o)) (some (.d (.int k n)))=if 0<=n/\n<m then some (.ptr b (o+n.toNat*sz))else none:=_root_.id rfl
theorem qUK(sz m:Nat)(cs:List DV)(k:IntKind)(n:Int):qXY sz m (some (.ep cs)) (some (.d (.int k n)))=if 0<=n/\n<m/\n.toNat*sz<=cs.length then some (.ep (cs.drop (n.toNat*sz)))else none:=_root_.id rfl
theorem qOY(off b o:Nat):qE5 off (some (.ptr b o))=some (.ptr b (o+off)):=_root_.id rfl
theorem qI0(off:Nat)(cs:List DV):qE5 off (some (.ep cs))=if off<=cs.length then some (.ep (cs.drop off))else none:=_root_.id rfl
theorem qXP(s:ByteArray):qP0 true (some (.d (.str s)))=some (.d (.int .i64 s.size)):=_root_.id rfl
theorem qUG(g:Tag)(xs:List DV):qP0 false (some (.d (.sl g xs)))=some (.d (.int .i64 xs.length)):=_root_.id rfl
theorem qUF(a:Bool)(i s n:Nat):qP0 false (some (.tsl a i s n))=some (.d (.int .i64 n)):=_root_.id rfl
theorem qFd(a:Bool)(i s n:Nat)(r:List AV):qaG (.tsl a i s n::r)=none:=_root_.id rfl
theorem qzn(v:DV):qud v none=none:=_root_.id rfl
theorem qzN(cs:List AV):qiP cs none=if cs.all AV.plainT then some (.ag false cs)else none:=_root_.id rfl
theorem qyE(k:IntKind)(n:Int):(AV.d (.int k n)).plainT=true:=_root_.id rfl
theorem qtp(b:Bool):(AV.d (.bool b)).plainT=true:=_root_.id rfl
theorem qyC(b:ByteArray):(AV.d (.str b)).plainT=true:=_root_.id rfl
theorem qyD(g:Tag):(AV.d (.sl g [])).plainT=true:=_root_.id rfl
theorem qyB(a:Bool)(i s n:Nat):(AV.tsl a i s n).plainT=true:=_root_.id rfl
theorem qJe(a:Bool)(i s n:Nat):(AV.tsl a i s n).clr= .tsl a i s n:=by simp only[AV.clr]
theorem qPB(t:Bool)(cs:List AV):(AV.ag t cs).clr= .ag t (AV.clrs cs):=by simp only[AV.clr]
theorem qzM(cs:List AV)(ds:List DV):qiP cs (some ds)=some (.d (.agg ds)):=_root_.id rfl
theorem qxe(f:AV->Option DV):qiK f []=some []:=_root_.id rfl
theorem qeL(f:AV->Option DV)(v:AV)(r:List AV):qiK f (v::r)=qZd (f v) (qiK f r):=_root_.id rfl
theorem qeK(d:DV)(ds:List DV):qZd (some d) (some ds)=some (d::ds):=_root_.id rfl
theorem qUv(B:qal)(v:DV):AV.frz B (.d v)=some v:=by
 unfold AV.frz;cases B.length<;>simp only[AV.frzC]
theorem qUH(id:Id)(a:Bool)(i s n:Nat):qP0 false (some (.bsl id a i s n))=some (.d (.int .i64 n)):=_root_.id rfl
theorem qIZ(sz:Nat)(s:ByteArray)(lo hi:Option AV):qxk true sz (some (.d (.str s))) (some lo) (some hi)=(qbV s.size hi).bind fun h=>(qbU h lo).map fun l=> .d (.str (s.extract l h)):=_root_.id rfl
theorem qOW(sz:Nat)(g:Tag)(xs:List DV)(lo hi:Option AV):qxk false sz (some (.d (.sl g xs))) (some lo) (some hi)=if xs.all (fun e=>e.cells.length=sz)then(qbV xs.length hi).bind fun h=>(qbU h lo).map fun l=> .d (.sl (if g= .nil then .nil else .sub) ((xs.take h).drop l))else none:=_root_.id rfl
theorem qEH(r:List (Nat×AV)):qhO r none=some none:=_root_.id rfl
theorem qEG(r:List (Nat×AV))(x:VX):qhO r (some x)=(x.get r).map some:=_root_.id rfl
theorem qOI(n:Nat):qbV n none=some n:=_root_.id rfl
theorem qN8(n:Nat):qbU n none=some 0:=_root_.id rfl
theorem qUp(n:Nat)(k:IntKind)(h:Int):qbV n (some (.d (.int k h)))=if 0<=h/\h.toNat<=n then some h.toNat else none:=_root_.id rfl
theorem qUc(n:Nat)(k:IntKind)(h:Int):qbU n (some (.d (.int k h)))=if 0<=h/\h.toNat<=n then some h.toNat else none:=_root_.id rfl
theorem qIR(r:List (Nat×AV)):qgE r []=some []:=_root_.id rfl
theorem qEB(r:List (Nat×AV))(x:VX)(xs:List VX):qgE r (x::xs)=qFq (x.get r) (qgE r xs):=by simp only[qgE,qFq];cases x.get r<;>cases qgE r xs<;>rfl
theorem qzl(v:AV)(vs:List AV):qFq (some v) (some vs)=some (v::vs):=_root_.id rfl
theorem qQk(r:List (Nat×AV))(n:Nat):qco r (.t n)=lk r n:=_root_.id rfl
theorem qQl(r:List (Nat×AV))(v:DV):qco r (.c (.d v))=some (.d v.cn):=_root_.id rfl
theorem qMs(r:List (Nat×AV))(f:Nat):qco r (.c (.fn f []))=some (.fn f []):=by simp[qco,AV.clr,AV.clrs]
theorem qAc(r:List (Nat×AV)):qco r (.c .nilp)=some .nilp:=by simp[qco,AV.clr]
theorem qx1(T:List Nat)(r:List (Nat×AV)):qb2 T r []=r:=_root_.id rfl
theorem qse(T:List Nat)(r:List (Nat×AV))(x:VX)(xs:List VX):qb2 T r (x::xs)=qb2 T (qeV T r x) xs:=_root_.id rfl
theorem qMt(T:List Nat)(r:List (Nat×AV))(v:AV):qeV T r (.c v)=r:=_root_.id rfl
theorem qAd(T:List Nat)(r:List (Nat×AV))(n:Nat)(h:T.contains n=false):qeV T r (.t n)=r:=by simp only[qeV,h];simp
theorem qAe(T:List Nat)(r:List (Nat×AV))(n:Nat)(h:T.contains n=true)(v:AV)(hv:lk r n=some v):qeV T r (.t n)=(n,v.clr)::r:=by simp only[qeV,h,hv];simp
theorem qyY(T:List Nat):qcJ T none=false:=_root_.id rfl
theorem qyX(T:List Nat)(d:Nat):qcJ T (some d)=T.contains d:=_root_.id rfl
theorem qVb(k:IntKind)(n:Int):(DV.int k n).cn= .int k n:=by simp[DV.cn,DV.cn1,DV.clr]
theorem qPs(b:Bool):(DV.bool b).cn= .bool b:=by simp[DV.cn,DV.cn1,DV.clr]
theorem qU9(s:ByteArray):(DV.str s).cn= .str s:=by simp[DV.cn,DV.cn1,DV.clr]
theorem qVa:(DV.sl .nil []).cn= .sl U []:=by simp[DV.cn,DV.cn1]
theorem qVc(cs:List DV):(DV.agg cs).cn= .agg (cs.map DV.cn1):=_root_.id rfl
theorem qPv(k:IntKind)(n:Int):(DV.int k n).cn1= .int k n:=by simp[DV.cn1,DV.clr]
theorem qI8(b:Bool):(DV.bool b).cn1= .bool b:=by simp[DV.cn1,DV.clr]
theorem qPt(s:ByteArray):(DV.str s).cn1= .str s:=by simp[DV.cn1,DV.clr]
theorem qPu:(DV.sl .nil []).cn1= .sl U []:=by simp[DV.cn1]
theorem qFD(k:IntKind)(n:Int):(DV.int k n).clr= .int k n:=by simp[DV.clr]
theorem qJc(b:Bool):(DV.bool b).clr= .bool b:=by simp[DV.clr]
theorem qFC(s:ByteArray):(DV.str s).clr= .str s:=by simp[DV.clr]
theorem qL4(g:Tag)(xs:List DV):(DV.sl g xs).clr= .sl .sub (xs.map DV.clr):=by simp[DV.clr,DV.qaA]
theorem qPy(xs:List DV):(DV.agg xs).clr= .agg (xs.map DV.clr):=by simp[DV.clr,DV.qaA]
theorem qPw(xs:List DV):(DV.tup xs).clr= .tup (xs.map DV.clr):=by simp[DV.clr,DV.qaA]
theorem qVh(v:DV):(AV.d v).clr= .d v.clr:=by simp[AV.clr]
theorem qJf(i o:Nat):(AV.ptr i o).clr= .ptr i o:=by simp[AV.clr]
theorem qPA(cs:List DV):(AV.ep cs).clr= .ep (cs.map DV.clr):=by simp[AV.clr,DV.qaA]
theorem qPz(f:Nat)(cs:List AV):(AV.fn f cs).clr= .fn f (cs.map AV.clr):=by simp[AV.clr,AV.qaA]
theorem qFF:AV.nilp.clr= .nilp:=by simp[AV.clr]
theorem qJg(id:Id)(a:Bool)(i sz n:Nat):(AV.bsl id a i sz n).clr= .bsl id a i sz n:=by simp[AV.clr]
theorem qJd:AV.und.clr= .und:=by simp[AV.clr]
theorem qz7(LP:List Nat)(j:Nat):qcr LP j []=[]:=_root_.id rfl
theorem qxY(LP:List Nat)(j:Nat)(v:AV)(r:List AV):qcr LP j (v::r)=(if LP.contains j then v else v.clr)::qcr LP (j+1) r:=_root_.id rfl
theorem qsd(LP:List Nat)(j:Nat):qbh LP j []=[]:=_root_.id rfl
theorem qi1(j:Nat):∀xs:List VX,qbh [] j xs=[]
 | []=>rfl
 |x::xs=>by simp[qbh,qi1 (j+1) xs]
theorem qps(LP:List Nat)(j:Nat)(v:VX)(r:List VX):qbh LP j (v::r)=if LP.contains j then v::qbh LP (j+1) r else qbh LP (j+1) r:=_root_.id rfl
theorem qAb(r:List (Nat×AV)):qfR r []=some []:=_root_.id rfl
theorem qx0(r:List (Nat×AV))(x:VX)(xs:List VX):qfR r (x::xs)=qFq (qco r x) (qfR r xs):=by simp only[qfR,qFq];cases qco r x<;>cases qfR r xs<;>rfl
theorem qFe:qaG []=some []:=_root_.id rfl
theorem qzi(v:DV)(r:List AV):qaG (.d v::r)=qud v (qaG r):=_root_.id rfl
theorem qzm(v:DV)(r:List DV):qud v (some r)=some (v::r):=_root_.id rfl
theorem qOc(T:List Nat):qat T []=true:=_root_.id rfl
theorem qml(g:VX->Option AV)(cs:List DV):qaI g cs []=some cs:=_root_.id rfl
theorem qlS(g:VX->Option AV)(cs:List DV)(off size:Nat)(x:VX)(r:List (Nat×Nat×VX)):qaI g cs ((off,size,x)::r)=qE7 g cs off size r (g x):=by
 simp only[qaI,qE7]<;>rfl
theorem qO0(g:VX->Option AV)(cs:List DV)(off size:Nat)(r:List (Nat×Nat×VX))(v:DV):qE7 g cs off size r (some (.d v))=if v.cells.length=size/\off+size<=cs.length/\v.cells.all DV.isCell then qaI g (splice cs off v.cells) r else none:=_root_.id rfl
theorem qry(g:VX->Option AV)(sz:Nat)(cs:List DV):qaX g sz cs []=some cs:=_root_.id rfl
theorem qo8(g:VX->Option AV)(sz:Nat)(cs:List DV)(i:Nat)(x:VX)(r:List (Nat×VX)):qaX g sz cs ((i,x)::r)=qXX g sz cs i r (g x):=by
 simp only[qaX,qXX]<;>rfl
theorem qXN(g:VX->Option AV)(sz:Nat)(cs:List DV)(i:Nat)(r:List (Nat×VX))(v:DV):qXX g sz cs i r (some (.d v))=if v.cells.length=sz/\i<cs.length/\v.cells.all DV.isCell then qaX g sz (cs.set i v) r else none:=_root_.id rfl
theorem qFA:AV.clrs []=[]:=by simp only[AV.clrs]
theorem qzw(v:AV)(r:List AV):AV.clrs (v::r)=v.clr::AV.clrs r:=by simp only[AV.clrs]
attribute [simp] qFA qzw
def xFB(c:qaB)(lin:Nat->List Nat)(T:List Nat)(d:Bool)(L:Nat)(fs:List FOper)(o:Option XS):Option XS:=o.bind (xFs c lin T d L fs)
def xFA(c:qaB)(lin:Nat->List Nat)(T:List Nat)(d:Bool)(L:Nat)(f:FOper)(fs:List FOper)(o:Option XS):Option XS:=o.bind fun s=>xFB c lin T d L fs (qx4 T f s)
def qVY(T:List Nat)(a d3 sz:Nat)(ok:Bool)(s:XS)(v:Option AV)(lo hi:Option (Option AV)):Option XS:=
 match v,lo,hi with
 |some (.d (.sl g xs)),some lo,some hi=>
  if ok=true/\xs.all (fun e=>e.cells.length=sz)then
   (qbV xs.length hi).bind fun h=>(qbU h lo).map fun l=>qbI T ⟨(a,.d (.sl g (qcp xs l h)))::s.r,s.B⟩ (some d3) (.d (.sl .sub ((xs.take h).drop l)))
  else none
 |_,_,_=>none
def qBb(T:List Nat)(d4 sz:Nat)(s:XS)(b off:Nat)(cs:List AV)(g:Tag)(xs:List DV)(k:Nat)(e:Option DV):Option XS:=
 match e with
 |some (.agg es)=>if es.length=sz then some (qbI T ⟨s.r,s.B.set b (some (cs.set off (.d (.sl g (xs.set k (DV.agg es).clr)))))⟩ (some d4) (.d (.agg es)))else none
 |_=>none
def qG7(T:List Nat)(d4 sz:Nat)(s:XS)(b off:Nat)(cs:List AV)(k:Nat)(v:Option AV):Option XS:=
 match v with
 |some (.d (.sl g xs))=>qBb T d4 sz s b off cs g xs k (xs[k]?)
 |_=>none
def qVZ(T:List Nat)(d4 sz:Nat)(ok:Bool)(s:XS)(v w:Option AV):Option XS:=
 match v,w with
 |some (.ptr b off),some (.d (.int _ k))=>if ok=true/\0<=k/\sz≠0 then(qcu s.B b).bind fun cs=>qG7 T d4 sz s b off cs k.toNat (cs[off]?)else none
 |_,_=>none
theorem qZl(c:qaB)(lin:Nat->List Nat)(T:List Nat)(d:Bool)(L:Nat)(f:FOper)(fs:List FOper)(s:XS):xFs c lin T d L (f::fs) s=xFA c lin T d L f fs (qb9 c lin T d L f.pre s):=_root_.id rfl
theorem qQd(c:qaB)(lin:Nat->List Nat)(T:List Nat)(d:Bool)(L:Nat)(s:XS):xFs c lin T d L [] s=some s:=_root_.id rfl
theorem qZn(c:qaB)(lin:Nat->List Nat)(T:List Nat)(d:Bool)(L:Nat)(f:FOper)(fs:List FOper)(s:XS):xFA c lin T d L f fs (some s)=xFB c lin T d L fs (qx4 T f s):=_root_.id rfl
theorem qZm(c:qaB)(lin:Nat->List Nat)(T:List Nat)(d:Bool)(L:Nat)(fs:List FOper)(s:XS):xFB c lin T d L fs (some s)=xFs c lin T d L fs s:=_root_.id rfl
theorem qVG(T:List Nat)(o:VOper)(s:XS):qx4 T (.one o) s=some s:=_root_.id rfl
theorem qVF(T:List Nat)(d1 a d2:Nat)(b:VX)(d3 sz:Nat)(lo hi:Option VX)(f1 f2 f3:List Nat)(s:XS):qx4 T (.sl d1 a d2 b d3 sz lo hi f1 f2 f3) s=qVY T a d3 sz (decide (T.contains a=true/\T.contains d3=true/\d1≠a/\d2≠a/\d1≠d2)) s (lk s.r a) (qhO s.r lo) (qhO s.r hi):=by
 simp only[qx4,qVY,decide_eq_true_eq];rfl
theorem qV2(T:List Nat)(a d3 sz:Nat)(ok:Bool)(s:XS)(g:Tag)(xs:List DV)(lo hi:Option AV):qVY T a d3 sz ok s (some (.d (.sl g xs))) (some lo) (some hi)=if ok=true/\xs.all (fun e=>e.cells.length=sz)then
 (qbV xs.length hi).bind fun h=>(qbU h lo).map fun l=>qbI T ⟨(a,.d (.sl g (qcp xs l h)))::s.r,s.B⟩ (some d3) (.d (.sl .sub ((xs.take h).drop l)))
 else none:=_root_.id rfl
theorem qVH(T:List Nat)(d1 q d2:Nat)(b:VX)(d3 sz d4:Nat)(f1 f2 f3 f4:List Nat)(s:XS):qx4 T (.el d1 q d2 b d3 sz d4 f1 f2 f3 f4) s=qVZ T d4 sz (decide (T.contains d4=true/\d1≠q/\d2≠q/\d3≠q/\d1≠d2/\d3≠d2)) s (lk s.r q) (lk s.r d2):=by
 simp only[qx4,qVZ,qG7,qBb,decide_eq_true_eq];rfl
theorem qV3(T:List Nat)(d4 sz:Nat)(ok:Bool)(s:XS)(b off:Nat)(kd:IntKind)(k:Int):qVZ T d4 sz ok s (some (.ptr b off)) (some (.d (.int kd k)))=if ok=true/\0<=k/\sz≠0 then(qcu s.B b).bind fun cs=>qG7 T d4 sz s b off cs k.toNat (cs[off]?)else none:=_root_.id rfl
theorem qQw(T:List Nat)(d4 sz:Nat)(s:XS)(b off:Nat)(cs:List AV)(k:Nat)(g:Tag)(xs:List DV):qG7 T d4 sz s b off cs k (some (.d (.sl g xs)))=qBb T d4 sz s b off cs g xs k (xs[k]?):=_root_.id rfl
theorem qQv(T:List Nat)(d4 sz:Nat)(s:XS)(b off:Nat)(cs:List AV)(g:Tag)(xs:List DV)(k:Nat)(es:List DV):qBb T d4 sz s b off cs g xs k (some (.agg es))=if es.length=sz then some (qbI T ⟨s.r,s.B.set b (some (cs.set off (.d (.sl g (xs.set k (DV.agg es).clr)))))⟩ (some d4) (.d (.agg es)))else none:=_root_.id rfl
theorem qz2(X:XEnv)(T:List Nat)(na:Nat)(live:List Nat)(fs:List FOper)(r:List (Nat×AV))(B:qal):
 qau X T (.regionF false na live fs) ⟨r,B⟩=qcU live (xFs (qac X) X.lin T false B.length fs ⟨r,B++List.replicate na none⟩):=by
 rw[qh3];simp[qcM,qcU,Function.comp_def]
theorem qMh(X:XEnv)(T:List Nat)(na:Nat)(live:List Nat)(fs:List FOper)(h:qlI (qhR fs)=true)(r:List (Nat×AV))(B:qal):
 qau X T (.regionF true na live fs) ⟨r,B⟩=qcU live (xFs (qac X) X.lin T true B.length fs ⟨r,B++List.replicate na none⟩):=by
 rw[qh3];simp[qcM,qcU,Function.comp_def,h]
attribute [simp] qZl qQd qZn qZm qVG qVF qV2 qVH qV3 qQw qQv qz2 FOper.pre
attribute [simp] qlL qFs qzt qzr qzs qVK qVM qP5 qMf qP9 qGn qVQ qMl qz1 qQf qMi qGo qVI qP8 qpw qBc qx2 qQa qMk qxS qVS qMg qVP qVL qQe qMe qr9 qpp qpo qZq qV4 qsa qMc qxT qVN qP6 qVJ qP4 qr7 qQc qMm qGp qVR qQb qGm qMb qz3 qP7 qr8 qpq qVO qMd qMj qGq qzM qFd qzn qzN qyE qtp qyC qyD qyB qJe qPB qQz qV9 qV8 qBh qQA qMM qG9 qy7 qtZ qIX qA7 qQx qV7 qZs qV5 qV6 qQB w_n qZr qQy w_T qZt qZv qZu qQE qQD qQC qxe qeL qeK qUv qO2 qUF qmk qXW qO7 qXV qXT qUS qUR qO8 qO6 qt6 qzg qt7 qzf qXU qO5 qUE qUD qUC qXR qZO qOZ qXQ qXO qUJ qUB qO1 qOX qUL qUI qO3 qXS qUK qOY qI0 qXP qUG qUH qIZ qOW qEH qEG qOI qN8 qUp qUc qIR qEB qzl qQk qQl qMs qAc qx1 qse qMt qAd qAe qyY qyX qVb qPs qU9 qVa qVc qPv qI8 qPt qPu qFD qJc qFC qL4 qPy qPw qVh qJf qPA qPz qFF qJg qJd qz7 qxY qsd qi1 qps qAb qx0 qFe qzi qzm qOc qml qlS qO0 qry qo8 qXN qcY qeU qnM qgJ qmp qdm qcB qcu qbJ qfx qak
theorem qj0(q:Ex×XS)(k:XS->Option (Ex×XS))(h:q.1≠.normal):qpx (some q) k=some q:=by
 obtain⟨e,s'⟩:=q;cases e with
 |normal=>exact absurd rfl h
 |exit id=>rfl
 |ret=>rfl
def qMI{β γ:Type}(L:Nat)(live:List Nat)(st:β->Nat->XS)(R:γ->Ex×XS)(i:Nat)(o:Option (Ex×XS)):β⊕γ->Prop
 | .inl a'=>∃s',o=some (.normal,s')/\qad L live s'=some (st a' (i+1))
 | .inr r=>(R r).1≠.normal/\o=some (R r)
theorem qeF{X:XEnv}{T:List Nat}{L:Nat}{live:List Nat}{b:VCode}{β γ:Type}{n:Nat}{st:β->Nat->XS}{step:β->Nat->β⊕γ}{F:β->Ex×XS}{R:γ->Ex×XS}(Inv:β->Nat->Prop)
 (hend:∀a,Inv a n->(F a).1≠.normal/\qau X T b (st a n)=some (F a))
 (hstep:∀a i,i<n->Inv a i->qMI L live st R i (qau X T b (st a i)) (step a i)/\∀a',step a i= .inl a'->Inv a' (i+1)):
 ∀(k:Nat) (a:β) (i:Nat) (s:XS),i+k=n->Inv a i->qad L live s=some (st a i)->qbw X T L live b s=some (match runN step k a i with| .inl a'=>F a'| .inr r=>R r)
 |0,a,i,s,hk,hi,hs=>by
  have:i=n:=by omega
  subst this;obtain⟨h1,h2⟩:=hend a hi;rw[qek,hs];simp only[Option.bind_some,h2,runN];exact qj0 _ _ h1
 |k+1,a,i,s,hk,hi,hs=>by
  obtain⟨h,hinv⟩:=hstep a i (by omega) hi;rw[qek,hs];simp only[Option.bind_some,runN];generalize step a i=q at h hinv;cases q with
  |inl a'=>
   obtain⟨s',h1,h2⟩:=h;have h3:=qeF Inv hend hstep k a' (i+1) s' (by omega) (hinv a' rfl) h2;rw[h1];exact h3
  |inr r=>
   obtain⟨h1,h2⟩:=h;rw[h2];exact qj0 _ _ h1
theorem qag{X:XEnv}{T:List Nat}{L:Nat}{live:List Nat}{b:VCode}{β γ:Type}{n:Nat}{st:β->Nat->XS}{step:β->Nat->β⊕γ}{F:β->Ex×XS}{R:γ->Ex×XS}
 (hend:∀a,(F a).1≠.normal/\qau X T b (st a n)=some (F a))
 (hstep:∀a i,i<n->qMI L live st R i (qau X T b (st a i)) (step a i)) (k:Nat) (a:β) (i:Nat) (s:XS) (hk:i+k=n) (hs:qad L live s=some (st a i)):
 qbw X T L live b s=some (match runN step k a i with| .inl a'=>F a'| .inr r=>R r):=
 qeF (fun _ _=>True) (fun a _=>hend a) (fun a i hi _=>⟨hstep a i hi,fun _ _=>trivial⟩) k a i s hk trivial hs
theorem qbD{X:XEnv}{T:List Nat}{L:Nat}{live:List Nat}{b:VCode}{s s0 s':XS}(h:qad L live s=some s0)(hb:qau X T b s0=some (.normal,s')):qbw X T L live b s=qbw X T L live b s':=by
 rw[qek,h];simp only[Option.bind_some,hb];rfl
theorem qa5{X:XEnv}{T:List Nat}{L:Nat}{live:List Nat}{b:VCode}{s s0:XS}{q:Ex×XS}(h:qad L live s=some s0)(hb:qau X T b s0=some q)(hq:q.1≠.normal):qbw X T L live b s=some q:=by
 rw[qek,h];simp only[Option.bind_some,hb];exact qj0 _ _ hq
end Go.Proofs.YtbcbkiaineacpaaGreat.VS
