/- The engine, part 5: a call of the program answers what an evaluator of values without memory answers, for the functions whose code is the one that the evaluator is given. -/
import Derived.Test.YtfiakfiocdfpbaaEngE
set_option linter.unusedSimpArgs false
set_option linter.unusedVariables false
namespace Go.Proofs.Ytfiakfiocdfpbaa.VS
open Classical
section
variable {A0:Ids} {T:List Nat} {F:Id->Prop} {p:Id} {sx:XS} {sv:St}
structure Back(F:Id->Prop)(p:Id)(A0:Ids)(v':AV)(B':qan)(r:Res):Prop where
 fit:v'.fit r.v
 boxes:qbd B' r.B
 held:Held F (fun _=>False) r.A (qah [(0,v')] B' [(0,r.v)] r.B)
 am:∀a,r.A a=true->A0 a=true\/Fut p 0 a
theorem Rel.back{k:Nat}(h:Rel A0 T F p k sx sv){B' Bv':qan}(hb:qbd B' Bv')(hbo:∀j,(qbQ B' Bv' j).Sublist (qbQ sx.B sv.B j)){v' u:AV}(hf:v'.fit u){A':Ids}
 (hnd:(v'.own u).Nodup) (hin:∀a,a∈v'.own u->A' a=true/\¬F a/\∀j,a∉qbQ B' Bv' j) (hA:∀a,sv.A a=true->A' a=true) (ham:∀a,A' a=true->A0 a=true\/Fut p 0 a):
 Back F p A0 v' B' ⟨u,A',Bv'⟩:=by
 refine⟨hf,hb,⟨fun ℓ=> ?_,fun ℓ ℓ' a ha ha'=> ?_,fun ℓ a ha=> ?_,fun a ha=>⟨hA a (h.held.fr a ha).1,id⟩⟩,ham⟩
 ·cases ℓ with
  |reg t=>simp only[qah,qbc];split
          ·exact hnd
          ·simp
  |box j=>exact(h.held.nodup (.box j)).sublist (hbo j)
 ·cases ℓ with
  |reg t=>
   simp only[qah,qbc]at ha;split at ha
   ·rename_i ht;subst ht
    cases ℓ' with
    |reg t'=>
     simp only[qah,qbc]at ha';split at ha'
     ·rename_i ht;subst ht;rfl
     ·simp at ha'
    |box j=>exact absurd ha' ((hin a ha).2.2 j)
   ·simp at ha
  |box j=>
   cases ℓ' with
   |reg t'=>
    simp only[qah,qbc]at ha';split at ha'
    ·exact absurd ha ((hin a ha').2.2 j)
    ·simp at ha'
   |box j'=>
    have:=h.held.apart (.box j) (.box j') a ((hbo j).subset ha) ((hbo j').subset ha');exact this
 ·cases ℓ with
  |reg t=>
   simp only[qah,qbc]at ha;split at ha
   ·exact⟨(hin a ha).1,(hin a ha).2.1,id⟩
   ·simp at ha
  |box j=>
   obtain⟨q1,q2,_⟩:=h.held.opn (.box j) a ((hbo j).subset ha);exact⟨hA a q1,q2,id⟩
theorem qaX(B Bv:qan)(n j:Nat):(qbQ (B.take n) (Bv.take n) j).Sublist (qbQ B Bv j):=by
 simp only[qbQ,qf3]
 by_cases hj:j<n
 ·simp[hj]
 ·simp[hj]
theorem qIM{k:Nat}(h:Rel A0 T F p k sx sv){r:VRes}{v:AV}(hr:qmy sx r=some v):∃u,qkw sv r=some u/\v.fit u/\∀a,a∈v.own u->∃t,r= .tmp t/\T.contains t=true/\a∈qcg sx.r sv.r t:=by
 cases r with
 |tmp t=>
  simp only[qmy]at hr;obtain⟨u,h1,h2⟩:=h.regs t v hr;refine⟨u,h1,h2,fun a ha=>⟨t,rfl,?_,?_⟩⟩
  ·cases ht:T.contains t with
   |true=>rfl
   |false=>
    have:=h.nl t ht;unfold qcg at this;rw[hr,h1]at this;simp only at this
    rw[this]at ha;simp at ha
  ·unfold qcg;rw[hr,h1];exact ha
 |cell t agg sz=>
  simp only[qmy]at hr;split at hr
  ·rename_i i off h1
   obtain⟨w,h2,rfl⟩:=Option.map_eq_some_iff.1 hr;obtain⟨u,cs,ds,h3,h4,_⟩:=qe9 h.boxes h2;obtain⟨x,h5,h6⟩:=h.regs t _ h1;simp only[AV.fit]at h6;subst h6
   exact⟨u,by simp only[qkw,h5,h3],AV.qcf _ _ h4,fun a ha=>by rw[AV.qbk]at ha;simp at ha⟩
  ·simp at hr
theorem qg8{k:Nat}(h:Rel A0 T F p k sx sv):∀(rs:List VRes) (vs:List AV),qas T (rs.flatMap VRes.vx)=true->qgM sx rs=some vs->∃us,qfD sv rs=some us/\AV.fits vs us/\(AV.owns vs us).Nodup/\
 (∀a,a∈AV.owns vs us->∃t,VX.t t∈rs.flatMap VRes.vx/\T.contains t=true/\a∈qcg sx.r sv.r t)/\(∀a,a∈AV.owns vs us->sv.A a=true/\¬F a/\∀j,a∉qbQ sx.B sv.B j)
 | [],vs,_,hx=>by simp[qgM]at hx;subst hx;exact⟨[],rfl,by simp[AV.fits],by simp[AV.owns],by simp[AV.owns],by simp[AV.owns]⟩
 |r::rs,vs,hd,hx=>by
  simp only[qgM]at hx;obtain⟨v,h1,h2⟩:=Option.bind_eq_some_iff.1 hx;obtain⟨vs',h3,rfl⟩:=Option.map_eq_some_iff.1 h2;obtain⟨u,h4,h5,h6⟩:=qIM h h1;have hd2:qas T (rs.flatMap VRes.vx)=true:=by
   cases r with
   |tmp t=>exact(qby (by simpa[VRes.vx]using hd)).2
   |cell t a s=>simpa[VRes.vx]using hd
  obtain⟨us,g1,g2,g3,g4,g5⟩:=qg8 h rs vs' hd2 h3;refine⟨u::us,by simp[qfD,h4,g1],by simp only[AV.fits];exact⟨_,_,rfl,h5,g2⟩,?_,fun a ha=> ?_,fun a ha=> ?_⟩
  ·simp only[AV.owns]
   rw[List.nodup_append];refine⟨?_,g3,fun a ha b hb he=> ?_⟩
   ·cases r with
    |tmp t=>
     have:=h.held.nodup (.reg t);simp only[qah,qcg]at this;simp only[qmy]at h1;simp only[qkw]at h4
     rw[h1,h4]at this;exact this
    |cell t ag s=>
     have:v.own u=[]:=List.eq_nil_iff_forall_not_mem.2 fun a ha=>by obtain⟨t',h7,_⟩:=h6 a ha;simp at h7
     rw[this];simp
   ·subst he
    obtain⟨t,rfl,ht,h7⟩:=h6 a ha;obtain⟨t',h8,ht',h9⟩:=g4 a hb;have:=h.held.apart (.reg t) (.reg t') a h7 h9;simp at this;subst this
    exact(qby (by simpa[VRes.vx]using hd)).1 t rfl ht h8
  ·simp only[AV.owns,List.mem_append]at ha
   rcases ha with ha|ha
   ·obtain⟨t,rfl,ht,h7⟩:=h6 a ha
    exact⟨t,by simp[VRes.vx],ht,h7⟩
   ·obtain⟨t,h8,h9⟩:=g4 a ha
    exact⟨t,by simp only[List.flatMap_cons,List.mem_append];exact .inr h8,h9⟩
  ·simp only[AV.owns,List.mem_append]at ha
   rcases ha with ha|ha
   ·obtain⟨t,rfl,ht,h7⟩:=h6 a ha
    obtain⟨q1,q2,q3⟩:=h.held.opn (.reg t) a h7;exact⟨q1,q2,fun j hj=>by have:=h.held.apart (.reg t) (.box j) a h7 hj;simp at this⟩
   ·exact g5 a ha
theorem qmj(h:Rel A0 T F p sv.c sx sv){L:Nat}{rs:List VRes}(hd:qas T (rs.flatMap VRes.vx)=true){v':AV}{B':qan}(hx:qeV L sx rs=some (v',B')):
 ∃r,finish L p sv rs=some r/\Back F p A0 v' B' r:=by
 have ham:∀a,sv.A a=true->A0 a=true\/Fut p 0 a:=fun a ha=>(h.am a ha).2
 have many:∀vs ds,qgM sx rs=some vs->qaC vs=some ds->∃us es,qfD sv rs=some us/\AV.fits vs us/\qaC us=some es/\us=es.map .d/\Back F p A0 (.d (.tup ds)) (sx.B.take L) ⟨.d (.tup es),sv.A,sv.B.take L⟩:=by
  intro vs ds h1 h2;obtain⟨us,g1,g2,g3,g4,g5⟩:=qg8 h rs vs hd h1;obtain⟨es,e1,e2,e3⟩:=qca h2 g2;have hus:us=es.map .d:=by
   clear g1 g2 g3 g4 g5 e2 e3
   induction us generalizing es with
   |nil=>simp[qaC]at e1;subst e1;rfl
   |cons u us ih=>
    cases u with
    |d d=>
     simp only[qaC]at e1;obtain⟨es',h3,rfl⟩:=Option.map_eq_some_iff.1 e1;rw[ih es' h3];rfl
    |_=>simp[qaC]at e1
  refine⟨us,es,g1,g2,e1,hus,h.back (h.boxes.take L) (qaX _ _ L) (by simp only[AV.fit,DV.fit];exact⟨_,rfl,_,rfl,e2⟩) (by simp only[AV.own,DV.own];rw[<-e3];exact g3) (fun a ha=> ?_) (fun a ha=>ha) ham⟩;simp only[AV.own,DV.own]at ha;rw[<-e3]at ha;obtain⟨q1,q2,q3⟩:=g5 a ha;exact⟨q1,q2,fun j hj=>q3 j ((qaX _ _ L j).subset hj)⟩
 unfold qeV at hx;split at hx
 ·rename_i v h1
  simp at hx;obtain⟨rfl,rfl⟩:=hx
  obtain⟨us,g1,g2,g3,g4,g5⟩:=qg8 h rs _ hd h1;simp only[AV.fits]at g2;obtain⟨u,_,rfl,hfu,rfl⟩:=g2;simp only[AV.fit]at hfu;obtain⟨y,rfl,hfy⟩:=hfu;simp only[AV.owns,List.append_nil]at g3 g5;refine⟨_,by unfold finish;rw[g1],h.back (h.boxes.take L) (qaX _ _ L) (by simp only[AV.fit];exact⟨_,rfl,hfy⟩) g3 (fun a ha=> ?_) (fun a ha=>ha) ham⟩;obtain⟨q1,q2,q3⟩:=g5 a ha;exact⟨q1,q2,fun j hj=>q3 j ((qaX _ _ L j).subset hj)⟩
 ·rename_i i off h1
  simp at hx;obtain⟨rfl,rfl⟩:=hx
  obtain⟨us,g1,g2,g3,g4,g5⟩:=qg8 h rs _ hd h1;simp only[AV.fits]at g2;obtain⟨u,_,rfl,hfu,rfl⟩:=g2;simp only[AV.fit]at hfu;subst hfu;exact⟨_,by unfold finish;rw[g1],h.back h.boxes (fun j=>List.Sublist.refl _) (by simp[AV.fit]) (by simp[AV.own]) (by simp[AV.own]) (fun a ha=>ha) ham⟩
 ·rename_i id agg i sz n h1
  split at hx
  ·rename_i hc
   obtain⟨cs,h2,h3⟩:=Option.bind_eq_some_iff.1 hx;obtain⟨bs,h4,h5⟩:=Option.bind_eq_some_iff.1 h2;split at h3
   ·rename_i hlen
    obtain⟨xs,h6,h7⟩:=Option.map_eq_some_iff.1 h3;simp at h7;obtain⟨rfl,rfl⟩:=h7
    obtain⟨us,g1,g2,g3,g4,g5⟩:=qg8 h rs _ hd h1;simp only[AV.fits]at g2;obtain⟨u,_,rfl,hfu,rfl⟩:=g2;simp only[AV.fit]at hfu;obtain⟨id',rfl⟩:=hfu;obtain⟨ds,q1,q2⟩:=h.boxes.get h4;obtain⟨es,q3,q4,q5⟩:=qca h5 q2;obtain⟨ys,q6,q7,q8,q9,q10⟩:=qgo agg sz n cs es xs q4 h6;have hbo:qbQ sx.B sv.B i=DV.owns cs es:=by unfold qbQ;rw[h4,q1];exact q5
    have hnb:∀a,a∈DV.owns xs ys->a∈qah sx.r sx.B sv.r sv.B (.box i):=fun a ha=>by simp only[qah];rw[hbo];exact q9.subset ha
    have hnf:¬sv.A (sv.c::p)=true:=fun ha=>(h.am _ ha).1 (Fut.self p _)
    refine⟨⟨.d (.sl (.own (sv.c::p) sz) ys),Ids.add (sv.c::p) sv.A,sv.B.take L⟩,?_,?_⟩
    ·unfold finish
     rw[g1];simp only;rw[if_pos hc,q1];simp only[Option.bind_some,q3];rw[if_pos (by rw[<-DV.qal q4];exact hlen),q6];rfl
    ·refine h.back (h.boxes.take L) (qaX _ _ L) ?_ ?_ (fun a ha=> ?_) (fun a ha=>by simp[Ids.add,ha]) (fun a ha=> ?_)
     ·simp only[AV.fit,DV.fit]
      refine⟨_,rfl,_,_,rfl,q7,.inr ⟨rfl,?_⟩⟩
      by_cases hn:xs.length=0
      ·exact .inl ⟨hn,.inr ⟨_,_,rfl⟩⟩
      ·exact .inr ⟨hn,_,_,rfl,q8⟩
     ·simp only[AV.own,DV.own]
      rw[List.nodup_append];refine⟨by split<;>simp[Tag.ids],((h.held.nodup (.box i)).sublist (by simp only[qah];rw[hbo];exact q9)),fun a ha b hb he=> ?_⟩;split at ha<;>simp[Tag.ids]at ha
      subst ha;subst he
      exact hnf (h.held.opn _ _ (hnb _ hb)).1
     ·simp only[AV.own,DV.own,List.mem_append]at ha
      rcases ha with ha|ha
      ·split at ha<;>simp[Tag.ids]at ha
       subst ha;refine⟨by simp[Ids.add],fun hF=>hnf (h.held.fr _ hF).1,fun j hj=> ?_⟩;exact hnf (h.held.opn (.box j) _ ((qaX _ _ L j).subset hj)).1
      ·obtain⟨z1,z2,_⟩:=h.held.opn _ a (hnb a ha)
       refine⟨by simp[Ids.add,z1],z2,fun j hj=> ?_⟩;have:=h.held.apart (.box i) (.box j) a (hnb a ha) ((qaX _ _ L j).subset hj);simp at this;subst this
       simp only[qbQ,qf3]at hj;rw[if_neg (by omega)]at hj;simp at hj
     ·simp only[Ids.add,Bool.or_eq_true,decide_eq_true_eq]at ha
      rcases ha with rfl|ha
      ·exact .inr ((Fut.self p _).le (Nat.zero_le _))
      ·exact ham a ha
   ·simp at h3
  ·simp at hx
 ·simp at hx
 ·rename_i vs hn1 hn2 hn3 hn4 h1
  obtain⟨ds,h2,h3⟩:=Option.map_eq_some_iff.1 hx;simp at h3;obtain⟨rfl,rfl⟩:=h3
  obtain⟨us,es,g1,g2,g3,g4,g5⟩:=many vs ds h1 h2;refine⟨_,?_,g5⟩;unfold finish;rw[g1]
  match us,g2 with
  | [],_=>simp at g4;simp[qaC]at g3;subst g3;rfl
  | [u],g2=>
   have hl:=AV.qal g2
   match vs,hl with
   | [x],_=>exact absurd rfl (hn4 x)
  |u::u'::us,_=>simp only[g3,Option.map_some]
 ·simp at hx
theorem qh2(h:Rel A0 T F p sv.c sx sv){L:Nat}{rs:List VRes}(hd:qas T (rs.flatMap VRes.vx)=true){v':AV}{B':qan}(hx:qcC L sx rs=some (v',B')):
 ∃r,finish L p sv rs=some r/\Back F p A0 v' B' r:=by
 unfold qcC at hx;split at hx
 ·rename_i t agg sz
  unfold qny at hx;split at hx
  ·rename_i i off h1
   split at hx
   ·rename_i hL
    split at hx
    ·rename_i v h2
     simp at hx;obtain⟨rfl,rfl⟩:=hx
     obtain⟨u,cs,ds,h3,h4,h5,h6,h7,h8,h9⟩:=qe9 h.boxes h2;obtain⟨x,g1,g2⟩:=h.regs t _ h1;simp only[AV.fit]at g2;subst g2
     have h4':=h4;simp only[AV.fit]at h4';obtain⟨y,rfl,hy⟩:=h4';have hbo:qbQ sx.B sv.B i=AV.owns cs ds:=by unfold qbQ;rw[h5,h6]
     have hsub:((AV.d v).own (.d y)).Sublist (AV.owns cs ds):=by
      rw[h8,AV.qbJ (AV.qal h7) off];refine List.Sublist.trans ?_ (List.sublist_append_right _ _);rw[AV.qbJ (a:=cs.drop off) (c:=ds.drop off) (by simp[AV.qal h7]) (if agg=true then sz else 1)];exact List.sublist_append_left _ _
     refine⟨_,by unfold finish;simp only[qfD,qkw,g1,h3,Option.bind_some,Option.map_some],h.back (h.boxes.take L) (qaX _ _ L) h4 ((h.held.nodup (.box i)).sublist (by simp only[qah];rw[hbo];exact hsub)) (fun a ha=> ?_) (fun a ha=>ha) (fun a ha=>(h.am a ha).2)⟩;have ha2:a∈qah sx.r sx.B sv.r sv.B (.box i):=by simp only[qah];rw[hbo];exact hsub.subset ha
     obtain⟨q1,q2,_⟩:=h.held.opn _ a ha2;refine⟨q1,q2,fun j hj=> ?_⟩;have:=h.held.apart (.box i) (.box j) a ha2 ((qaX _ _ L j).subset hj);simp at this;subst this
     simp only[qbQ,qf3]at hj;rw[if_neg (by omega)]at hj;simp at hj
    ·simp at hx
   ·simp at hx
  ·simp at hx
 ·rename_i t1 g1 z1 t2 g2 z2 t3
  unfold qyG at hx;split at hx
  ·rename_i i1 o1 i2 o2 b e1 e2 e3
   split at hx
   ·rename_i hL
    obtain⟨hL1,hL2,hne⟩:=hL;split at hx
    ·rename_i v1 v2 l1 l2
     simp at hx;obtain⟨rfl,rfl⟩:=hx
     have one:∀(t i off:Nat) (g:Bool) (z:Nat) (v:DV),lk sx.r t=some (.ptr i off)->qae sx.B g z i off=some (.d v)->∃y,qkw sv (.cell t g z)=some (.d y)/\v.fit y/\(v.own y).Sublist (qbQ sx.B sv.B i):=by
      intro t i off g z v q1 q2;obtain⟨u,cs,ds,h3,h4,h5,h6,h7,h8,h9⟩:=qe9 h.boxes q2;obtain⟨x,r1,r2⟩:=h.regs t _ q1;simp only[AV.fit]at r2;subst r2
      have h4':=h4;simp only[AV.fit]at h4';obtain⟨y,rfl,hy⟩:=h4';have hbo:qbQ sx.B sv.B i=AV.owns cs ds:=by unfold qbQ;rw[h5,h6]
      have hsub:((AV.d v).own (.d y)).Sublist (AV.owns cs ds):=by
       rw[h8,AV.qbJ (AV.qal h7) off];refine List.Sublist.trans ?_ (List.sublist_append_right _ _);rw[AV.qbJ (a:=cs.drop off) (c:=ds.drop off) (by simp[AV.qal h7]) (if g=true then z else 1)];exact List.sublist_append_left _ _
      exact⟨y,by simp only[qkw,r1,h3],hy,by rw[hbo];exact hsub⟩
     obtain⟨y1,a1,a2,a3⟩:=one t1 i1 o1 g1 z1 v1 e1 l1;obtain⟨y2,b1,b2,b3⟩:=one t2 i2 o2 g2 z2 v2 e2 l2;obtain⟨x,c1,c2⟩:=h.regs t3 _ e3;simp only[AV.fit]at c2;obtain⟨y3,rfl,c3⟩:=c2;have hy3:y3= .bool b:=by simpa only[DV.fit]using c3
     subst hy3;have hown:DV.owns [v1,v2,.bool b] [y1,y2,.bool b]=v1.own y1++(v2.own y2++[]):=by simp only[DV.owns,DV.own,List.append_nil]
     have good:∀i a,L<=i->a∈qbQ sx.B sv.B i->sv.A a=true/\¬F a/\∀j,a∉qbQ (sx.B.take L) (sv.B.take L) j:=fun i a hi ha=>by
      have ha2:a∈qah sx.r sx.B sv.r sv.B (.box i):=ha;obtain⟨q1,q2,_⟩:=h.held.opn _ a ha2;refine⟨q1,q2,fun j hj=> ?_⟩;have:=h.held.apart (.box i) (.box j) a ha2 ((qaX _ _ L j).subset hj);simp at this;subst this
      simp only[qbQ,qf3]at hj;rw[if_neg (by omega)]at hj;simp at hj
     have hr3:qkw sv (.tmp t3)=some (.d (.bool b)):=c1;refine⟨⟨.d (.tup [y1,y2,.bool b]),sv.A,sv.B.take L⟩,by unfold finish;simp only[qfD,a1,b1,hr3,Option.bind_some,Option.map_some,qaC],h.back (h.boxes.take L) (qaX _ _ L) ?_ ?_ (fun a ha=> ?_) (fun a ha=>ha) (fun a ha=>(h.am a ha).2)⟩
     ·simp only[AV.fit,DV.fit,DV.fits]
      exact⟨_,rfl,_,rfl,_,_,rfl,a2,_,_,rfl,b2,_,_,rfl,rfl,rfl⟩
     ·simp only[AV.own,DV.own,hown,List.append_nil]
      rw[List.nodup_append];refine⟨(h.held.nodup (.box i1)).sublist a3,(h.held.nodup (.box i2)).sublist b3,fun q hq q' hq' he=> ?_⟩;subst he;have:=h.held.apart (.box i1) (.box i2) q (a3.subset hq) (b3.subset hq');simp at this;exact hne this
     ·simp only[AV.own,DV.own,hown,List.append_nil,List.mem_append]at ha
      rcases ha with ha|ha
      ·exact good i1 a hL1 (a3.subset ha)
      ·exact good i2 a hL2 (b3.subset ha)
    ·simp at hx
   ·simp at hx
  ·simp at hx
 ·exact qmj h hd hx
theorem qhA{x v:DV}(h:x.fit v):v.flat=x.flat:=by
 cases x<;>simp only[DV.fit]at h
 case agg cs=>obtain⟨ds,rfl,h1⟩:=h;rfl
 case sl g xs=>
  obtain⟨g',ys,rfl,h1,h2⟩:=h;cases xs with
  |nil=>simp only[DV.fits]at h1;subst h1;rfl
  |cons x r=>simp only[DV.fits]at h1;obtain⟨y,ys',rfl,_,_⟩:=h1;rfl
 case tup cs=>obtain⟨ds,rfl,h1⟩:=h;rfl
 all_goals subst h;rfl
theorem qvC{sx:XS}{sv:St}{k:Nat}(h:Rel A0 T F p k sx sv){y:DV×DV}(hy:qhY sx=some y):
 ∃y',qmH sv=some y'/\y.1.fit y'.1/\y.2.fit y'.2/\y.1.own y'.1=[]/\y.2.own y'.2=[]:=by
 unfold qhY at hy;split at hy
 ·rename_i x0 x1 x2 z0 z1 z2 e1 e2 e3
  split at hy
  ·rename_i hc
   simp only[Option.some.injEq]at hy;subst hy
   obtain⟨v3,g1,g2⟩:=h.regs 3 _ e1;obtain⟨v4,g3,g4⟩:=h.regs 4 _ e2;simp only[AV.fit]at g2 g4;subst g2;subst g4
   have hb:=h.boxes;rw[e3]at hb;obtain⟨c0,b1,b2⟩:=(hb.2 0).2 _ rfl;obtain⟨c1,b3,b4⟩:=(hb.2 1).2 _ rfl;simp only[AV.fits,AV.fit]at b2 b4;obtain⟨_,_,rfl,⟨w0,rfl,f0⟩,_,_,rfl,⟨w1,rfl,f1⟩,w2,_,rfl,_,rfl⟩:=b2;obtain⟨_,_,rfl,⟨u0,rfl,q0⟩,_,_,rfl,⟨u1,rfl,q1⟩,_,_,rfl,⟨u2,rfl,q2⟩,rfl⟩:=b4;have hB:sv.B=[some [.d w0,.d w1,w2],some [.d u0,.d u1,.d u2]]:=by
    have hl:=hb.1
    match hs:sv.B,hl with
    | [m,n],_=>
     rw[hs]at b1 b3;simp at b1 b3;subst b1;subst b3;rfl
   refine⟨(w0,w1),?_,DV.qcf _ _ f0,DV.qcf _ _ f1,DV.qbk _ _,DV.qbk _ _⟩;unfold qmH;rw[g1,g3,hB];simp only;rw[qhA f0,qhA f1,qhA q0,qhA q1,qhA q2,DV.qdP f0,DV.qdP f1,if_pos hc]
  ·simp at hy
 ·simp at hy
theorem qgF:∀{xs vs:List DV},DV.fits xs vs->DV.fits (xs.flatMap DV.cells) (vs.flatMap DV.cells)/\DV.owns (xs.flatMap DV.cells) (vs.flatMap DV.cells)=DV.owns xs vs
 | [],vs,h=>by simp only[DV.fits]at h;subst h;simp[DV.fits,DV.owns]
 |x::xs,vs,h=>by
  simp only[DV.fits]at h;obtain⟨v,vs,rfl,h1,h2⟩:=h;obtain⟨q1,q2⟩:=qgF h2;simp only[List.flatMap_cons];exact⟨DV.qaY (DV.qaU h1) q1,by rw[DV.qaN (DV.qal (DV.qaU h1)),DV.qdd h1,q2];simp only[DV.owns]⟩
theorem qDf{X:qaz}{V:qav}{lin:Nat->List Nat}(href:qcS X V lin){sf:SFn}{A:Ids}{a:Id}{sz:Nat}{x y:DV}{xr yr:List DV}{q:Id}
 (h1:x.fit y) (h2:DV.fits xr yr) (hA:∀b,b∈a::DV.owns (x::xr) (y::yr)->A b=true/\¬Fut q 0 b) (hnd:(a::DV.owns (x::xr) (y::yr)).Nodup)
 (hsz:∀e:DV,e∈y::yr->e.cells.length=sz) {r:List DV} (hx:qh0 X sf x xr=some r):
 ∃r' A1,qnI V q sf A a y yr=some (r',Ids.add a A1)/\DV.fits r r'/\r.length=xr.length+1/\(∀e:DV,e∈r'->e.cells.length=sz)/\(a::DV.owns r r').Nodup/\(∀b,b∈DV.owns r r'->A1 b=true)/\(∀b,A1 b=true->b∈DV.owns (x::xr) (y::yr)\/Fut q 0 b):=by
 unfold qh0 at hx;split at hx
 ·rename_i hu
  have hf:DV.fits (x::xr) (y::yr):=by simp only[DV.fits];exact⟨_,_,rfl,h1,h2⟩
  obtain⟨l,hl1,hl2⟩:=qd2 _ _ hf hu;obtain⟨c1,c2⟩:=qgF hf;rw[List.nodup_cons]at hnd;split at hx
  ·rename_i v cs hcall
   obtain⟨es,d1,hx⟩:=Option.bind_eq_some_iff.1 hx;split at hx
   ·rename_i hlen
    have hfa:AV.fits [AV.tsl true 0 x.cells.length (xr.length+1),.fn sf.cmp []] [AV.tsl true 0 y.cells.length (yr.length+1),.fn sf.cmp []]:=by
     simp only[AV.fits,AV.fit];rw[DV.qbm h1,<-DV.qal h2];exact⟨_,_,rfl,rfl,_,_,rfl,⟨_,rfl,rfl,by simp[AV.owns]⟩,rfl⟩
    have hre:∀j,qcg (qak 0 [AV.tsl true 0 x.cells.length (xr.length+1),.fn sf.cmp []]) (qak 0 [AV.tsl true 0 y.cells.length (yr.length+1),.fn sf.cmp []]) j=[]:=by
     intro j;rw[qdr]
     match j with
     |0=>simp[AV.own]
     |1=>simp[AV.own]
     |j+2=>simp
    have hbx:∀j,qbQ [some (((x::xr).flatMap DV.cells).map AV.d)] [some (((y::yr).flatMap DV.cells).map AV.d)] j=if j=0 then DV.owns (x::xr) (y::yr)else []:=by
     intro j;unfold qbQ qa6
     match j with
     |0=>simp only[List.getElem?_cons_zero,if_true];show AV.owns _ _=_;rw[AV.qgK,c2]
     |j+1=>simp
    have hlo:∀ℓ b,b∈qah (qak 0 [AV.tsl true 0 x.cells.length (xr.length+1),.fn sf.cmp []]) [some (((x::xr).flatMap DV.cells).map AV.d)] (qak 0 [AV.tsl true 0 y.cells.length (yr.length+1),.fn sf.cmp []]) [some (((y::yr).flatMap DV.cells).map AV.d)] ℓ->ℓ= .box 0/\b∈DV.owns (x::xr) (y::yr):=by
     intro ℓ b hb;cases ℓ with
     |reg t=>simp only[qah,hre]at hb;simp at hb
     |box j=>
      simp only[qah,hbx]at hb;split at hb
      ·rename_i hj;subst hj;exact⟨rfl,hb⟩
      ·simp at hb
    obtain⟨u,Bv',A1,hV,_,hbf,hh,hnm⟩:=href _ _ _ _ _ hcall q _ [some (((y::yr).flatMap DV.cells).map AV.d)] (fun b=>l.contains b) (fun _=>False) hfa
     ⟨rfl,fun i=>by
      match i with
      |0=>exact⟨by simp,fun cs hc=>by simp at hc;subst hc;exact⟨_,rfl,by have:=AV.qf5 c1;simpa using this⟩⟩
      |i+1=>exact⟨by simp,fun cs hc=>by simp at hc⟩⟩
     ⟨fun ℓ=>by
      cases ℓ with
      |reg t=>simp only[qah,hre];simp
      |box j=>simp only[qah,hbx];split
              ·exact hnd.2
              ·simp,
      fun ℓ ℓ' b hb hb'=>by rw[(hlo ℓ b hb).1,(hlo ℓ' b hb').1],
      fun ℓ b hb=>⟨by simpa using hl2.mem_iff.2 (hlo ℓ b hb).2,id,(hA b (List.mem_cons_of_mem _ (hlo ℓ b hb).2)).2⟩,fun b hb=>by simp at hb⟩
     (fun j _=>hre j) (fun b hb=>by
      have:b∈l:=by simpa using hb
      exact(hA b (List.mem_cons_of_mem _ (hl2.mem_iff.1 this))).2)
    obtain⟨ds,e1,e2⟩:=(hbf.2 0).2 cs rfl;have hBv:Bv'=[some ds]:=by
     have hl:=hbf.1
     match Bv',hl with
     | [m],_=>simp at e1;subst e1;rfl
    subst hBv;obtain⟨es',d2,d3,d4⟩:=qca d1 e2;obtain⟨r',k1,k2,k3,k4,k5⟩:=qgo _ _ _ _ _ _ d3 hx;have hown:∀b,b∈DV.owns r r'->A1 b=true:=fun b hb=>(hh.opn (.box 0) b (by simp only[qah,qbQ,qa6];simp only[List.getElem?_cons_zero];show b∈AV.owns _ _;rw[d4];exact k4.subset hb)).1
    have hnd':(DV.owns r r').Nodup:=by
     have:=hh.nodup (.box 0);simp only[qah,qbQ,qa6,List.getElem?_cons_zero]at this;have h':(AV.owns cs ds).Nodup:=this;rw[d4]at h';exact h'.sublist k4
    have hA1:∀b,A1 b=true->b∈DV.owns (x::xr) (y::yr)\/Fut q 0 b:=fun b hb=>(hnm b hb).imp_left fun h=>hl2.mem_iff.1 (by simpa using h)
    refine⟨r',A1,?_,k2,k5,fun e he=>by rw[k3 e he,<-DV.qbm h1];exact hsz y (by simp),?_,hown,hA1⟩
    ·unfold qnI
     rw[hl1,Option.bind_some,if_pos ⟨(hA a (by simp)).1,List.all_eq_true.2 fun b hb=>(hA b (List.mem_cons_of_mem _ (hl2.mem_iff.1 hb))).1,by
      have:¬a∈l:=fun hm=>hnd.1 (hl2.mem_iff.1 hm)
      simpa using this⟩,hV]
     simp only[d2,Option.bind_some];rw[DV.qbm h1,<-DV.qal h2,if_pos (by rw[<-DV.qal d3];exact hlen),k1];rfl
    ·rw[List.nodup_cons]
     refine⟨fun hm=> ?_,hnd'⟩;rcases hA1 a (hown a hm)with h3|h3
     ·exact hnd.1 h3
     ·exact(hA a (by simp)).2 h3
   ·simp at hx
  ·simp at hx
 ·simp at hx
theorem qDe{X:qaz}{V:qav}{lin:Nat->List Nat}(href:qcS X V lin){T:List Nat}{n:Nat}{sf:SFn}{p:Id}{ds es:List DV}(hf:DV.fits ds es)
 (hlin1:sf.pre.linOK T=true) (hlin2:sf.rest.linOK T=true) (hlin3:qas T (sf.results.flatMap VRes.vx)=true)
 (hz:∀j,qcg (qak 0 (ds.map .d)) (qak 0 (es.map .d)) j=[]) {v:DV} (hx:qjF X lin T n sf ds=some v):
 ∃u A1,qpg V n p sf es=some (u,A1)/\v.fit u/\(v.own u).Nodup/\(∀a,a∈v.own u->A1 a=true)/\∀a,A1 a=true->Fut p 0 a:=by
 unfold qjF at hx;split at hx
 ·simp at hx
 rename_i hlen;have hvf:=AV.qf5 hf;have hloc:∀ℓ,qah (qak 0 (ds.map AV.d)) [] (qak 0 (es.map AV.d)) [] ℓ=[]:=by
  intro ℓ;cases ℓ with
  |reg t=>exact hz t
  |box j=>simp[qah,qbQ,qa6]
 have h0:Rel Ids.none T (fun _=>False) p (⟨qak 0 (es.map .d),[],Ids.none,0⟩:St).c ⟨qak 0 (ds.map .d),[]⟩ ⟨qak 0 (es.map .d),[],Ids.none,0⟩:=by
  refine⟨fun t x ht=> ?_,⟨rfl,by simp⟩,⟨fun ℓ=>by rw[hloc];simp,fun ℓ ℓ' a ha=>by rw[hloc]at ha;simp at ha,fun ℓ a ha=>by rw[hloc]at ha;simp at ha,fun a ha=>by simp at ha⟩,fun j _=>hz j,fun t ht=> ?_,fun a ha=>by simp[Ids.none]at ha⟩
  ·simp only[qfa]at ht⊢
   simp only[Nat.zero_le,if_true,Nat.sub_zero]at ht⊢
   exact AV.qb0 hvf ht
  ·simp only[qfa]at ht⊢
   simp only[Nat.zero_le,if_true,Nat.sub_zero]at ht⊢
   rw[List.getElem?_eq_none_iff]at ht⊢
   have:=AV.qal hvf;omega
 obtain⟨⟨e,s1⟩,h1,h2⟩:=Option.bind_eq_some_iff.1 hx;obtain⟨v1,h3,h4⟩:=qjS href n sf.pre hlin1 _ _ _ _ h0 h1;have hlen':¬es.length≠sf.np:=by rw[<-DV.qal hf];exact hlen
 have hrest:∀{e:Ex},(e= .normal)->((qa0 X lin T n sf.rest s1).bind fun r2=>match r2.1 with
  | .exit _=>none
  |_=>(qcC 0 r2.2 sf.results).bind fun q=>match q.1 with
   | .d v=>some v
   |_=>none)=some v->∃u A1,((qaI V p n sf.rest v1).bind fun r2=>match r2.1 with
  | .exit _=>none
  |_=>(finish 0 p r2.2 sf.results).bind fun q=>match q.v with
   | .d v=>some (v,q.A)
   |_=>none)=some (u,A1)/\v.fit u/\(v.own u).Nodup/\(∀a,a∈v.own u->A1 a=true)/\∀a,A1 a=true->Fut p 0 a:=by
  intro _ _ hr;obtain⟨⟨e2,s2⟩,r1,r2⟩:=Option.bind_eq_some_iff.1 hr;obtain⟨v2,r3,r4⟩:=qjS href n sf.rest hlin2 _ _ _ _ h4 r1;have key:((qcC 0 s2 sf.results).bind fun q=>match q.1 with
   | .d v=>some v
   |_=>none)=some v->∃u A1,((finish 0 p v2 sf.results).bind fun q=>match q.v with
   | .d v=>some (v,q.A)
   |_=>none)=some (u,A1)/\v.fit u/\(v.own u).Nodup/\(∀a,a∈v.own u->A1 a=true)/\∀a,A1 a=true->Fut p 0 a:=by
   intro hk;obtain⟨⟨w,B'⟩,k1,k2⟩:=Option.bind_eq_some_iff.1 hk;obtain⟨⟨w',Aw,Bw⟩,k3,k4⟩:=qh2 r4 hlin3 k1;split at k2
   ·rename_i d hd
    simp only at hd;subst hd
    simp only[Option.some.injEq]at k2;subst k2
    have k5:=k4.fit;simp only[AV.fit]at k5;obtain⟨u,rfl,k6⟩:=k5;refine⟨u,Aw,by rw[k3];rfl,k6,?_,fun a ha=> ?_,fun a ha=> ?_⟩
    ·have:=k4.held.nodup (.reg 0)
     simp only[qah,qbc]at this;simpa[AV.own]using this
    ·exact(k4.held.opn (.reg 0) a (by simp only[qah,qbc];simpa[AV.own]using ha)).1
    ·rcases k4.am a ha with h|h
     ·simp[Ids.none]at h
     ·exact h
   ·simp at k2
  rw[r3,Option.bind_some];cases e2 with
  |exit id=>simp at r2
  |normal=>exact key r2
  |ret=>exact key r2
 unfold qpg;rw[if_neg hlen',h3,Option.bind_some];simp only at h2⊢
 split at h2
 ·rename_i x xr e1 e2
  obtain⟨vb,g1,g2⟩:=h4.regs _ _ e1;simp only[AV.fit,DV.fit]at g2;obtain⟨_,rfl,rfl⟩:=g2;obtain⟨vr,g3,g4⟩:=h4.regs _ _ e2;have g4':=g4;simp only[AV.fit,DV.fit]at g4;obtain⟨_,rfl,g',ys,rfl,g5,g6⟩:=g4;rcases g6 with g6|⟨_,g6⟩
  ·exact absurd g6 (by decide)
  rcases g6 with⟨g6,_⟩|⟨_,a,sz,rfl,g7⟩
  ·simp at g6
  have g5':=g5;simp only[DV.fits]at g5;obtain⟨y,yr,rfl,f1,f2⟩:=g5;obtain⟨w,m1,m2⟩:=Option.bind_eq_some_iff.1 h2;obtain⟨q,m3,m4⟩:=Option.map_eq_some_iff.1 m2;subst m4;obtain⟨w',n1,n2,n3,n4,n5⟩:=qvC h4 m1;have hloc5:∀b,b∈a::DV.owns (x::xr) (y::yr)->b∈qah s1.r s1.B v1.r v1.B (.reg sf.row):=by
   intro b hb;simp only[qah,qcg,e2,g3,AV.own,DV.own];rw[if_pos ⟨rfl,by simp⟩];simpa[Tag.ids]using hb
  have hnd5:(a::DV.owns (x::xr) (y::yr)).Nodup:=by
   have:=h4.held.nodup (.reg sf.row);simp only[qah,qcg,e2,g3,AV.own,DV.own]at this;rw[if_pos ⟨rfl,by simp⟩]at this;simpa[Tag.ids]using this
  obtain⟨r',A1,s3,s4,s5,s6,s7,s8,s9⟩:=qDf href (A:=v1.A) (a:=a) (sz:=sz) (q:=(v1.c+1)::p) f1 f2 (fun b hb=>by
   obtain⟨t1,_,t3⟩:=h4.held.opn _ b (hloc5 b hb);exact⟨t1,fun hF=>t3 (hF.sub.le (Nat.le_succ _))⟩) hnd5 g7 m3
  simp only[g1,g3];refine⟨.agg [w'.1,w'.2,.sl (.own a sz) r'],Ids.add a A1,by rw[n1,Option.bind_some,s3];rfl,?_,?_,fun b hb=> ?_,fun b hb=> ?_⟩
  ·simp only[DV.fit,DV.fits]
   exact⟨_,rfl,_,_,rfl,n2,_,_,rfl,n3,_,_,rfl,⟨_,_,rfl,s4,.inr ⟨rfl,.inr ⟨by omega,_,_,rfl,s6⟩⟩⟩,rfl⟩
  ·simp only[DV.own,DV.owns,n4,n5]
   rw[if_pos ⟨trivial,by omega⟩];simpa[Tag.ids]using s7
  ·simp only[DV.own,DV.owns,n4,n5]at hb
   rw[if_pos ⟨trivial,by omega⟩]at hb;simp only[Ids.add,Bool.or_eq_true,decide_eq_true_eq];simp[Tag.ids]at hb;rcases hb with rfl|hb
   ·exact .inl rfl
   ·exact .inr (s8 b hb)
  ·have old:∀b,b∈a::DV.owns (x::xr) (y::yr)->Fut p 0 b:=fun b hb=>by
    rcases(h4.am b (h4.held.opn _ b (hloc5 b hb)).1).2 with h|h
    ·simp[Ids.none]at h
    ·exact h
   simp only[Ids.add,Bool.or_eq_true,decide_eq_true_eq]at hb;rcases hb with rfl|hb
   ·exact old b (by simp)
   ·rcases s9 b hb with h|h
    ·exact old b (List.mem_cons_of_mem _ h)
    ·exact h.sub.le (Nat.zero_le _)
 ·rename_i e1
  obtain⟨vb,g1,g2⟩:=h4.regs _ _ e1;simp only[AV.fit,DV.fit]at g2;obtain⟨_,rfl,rfl⟩:=g2;obtain⟨u,A1,k1,k2⟩:=hrest (e:= .normal) rfl h2;exact⟨u,A1,by simp only[g1];exact k1,k2⟩
 ·rename_i g e1 e2
  obtain⟨vb,g1,g2⟩:=h4.regs _ _ e1;simp only[AV.fit,DV.fit]at g2;obtain⟨_,rfl,rfl⟩:=g2;obtain⟨vr,g3,g4⟩:=h4.regs _ _ e2;simp only[AV.fit,DV.fit,DV.fits]at g4;obtain⟨_,rfl,g',ys,rfl,rfl,g6⟩:=g4;obtain⟨u,A1,k1,k2⟩:=hrest (e:= .normal) rfl h2;exact⟨u,A1,by simp only[g1,g3];exact k1,k2⟩
 ·simp at h2
def qCX(g:List DV->Option DV)(gv:Id->List AV->Option (DV×Ids)):Prop:=
 ∀ds v,g ds=some v->∀es p,DV.fits ds es->∃u A1,gv p (es.map .d)=some (u,A1)/\v.fit u/\(v.own u).Nodup/\(∀a,a∈v.own u->A1 a=true)/\∀a,A1 a=true->Fut p 0 a
structure XOK(X:XEnv):Prop where
 code:∀f vf,X.env.code f=some vf->vf.linOK (X.lin f)=true
 nat:∀f g,X.nat f=some g->∃gv,X.env.nat f=some gv/\qCX g gv/\X.lin f=[]
 no:∀f,X.nat f=none->X.env.nat f=none
 spec:∀f sf,X.env.spec f=some sf->sf.pre.linOK (X.lin f)=true/\sf.rest.linOK (X.lin f)=true/\qas (X.lin f) (sf.results.flatMap VRes.vx)=true/\(X.lin f).all (fun j=>decide (sf.np<=j))=true
theorem qx1:∀{cs:List AV} {ds:List DV},qaC cs=some ds->cs=ds.map .d
 | [],ds,h=>by simp[qaC]at h;subst h;rfl
 |v::cs,ds,h=>by
  cases v with
  |d d=>
   simp only[qaC]at h;obtain⟨es,h3,rfl⟩:=Option.map_eq_some_iff.1 h;rw[qx1 h3];rfl
  |_=>simp[qaC]at h
theorem quz{xs vs:List AV}{B Bv:qan}{A A1:Ids}{F:Id->Prop}{p:Id}{v u:DV}{R:Option Res}(hh:Held F (Fut p 0) A (qah (qak 0 xs) B (qak 0 vs) Bv))(hb:qbd B Bv)
 (g2:v.fit u) (g3:(v.own u).Nodup) (g4:∀a,a∈v.own u->A1 a=true) (g5:∀a,A1 a=true->Fut p 0 a) (hR:R=some ⟨.d u,Ids.or A1 A,Bv⟩):
 ∃w Bv' A',R=some ⟨w,A',Bv'⟩/\(AV.d v).fit w/\qbd B Bv'/\Held F (fun _=>False) A' (qah [(0,.d v)] B [(0,w)] Bv')/\∀a,A' a=true->A a=true\/Fut p 0 a:=by
 refine⟨.d u,Bv,Ids.or A1 A,hR,by simp only[AV.fit];exact⟨_,rfl,g2⟩,hb,⟨fun ℓ=> ?_,fun ℓ ℓ' a ha ha'=> ?_,fun ℓ a ha=> ?_,fun a ha=>⟨by simp[Ids.or,(hh.fr a ha).1],id⟩⟩,fun a ha=> ?_⟩
 ·cases ℓ with
  |reg t=>simp only[qah,qbc];split
          ·exact g3
          ·simp
  |box j=>exact hh.nodup (.box j)
 ·have key:∀a j,a∈v.own u->a∉qbQ B Bv j:=fun a j h8 h9=>(hh.opn (.box j) a h9).2.2 (g5 a (g4 a h8))
  cases ℓ with
  |reg t=>
   simp only[qah,qbc]at ha;split at ha
   ·rename_i ht;subst ht
    cases ℓ' with
    |reg t'=>
     simp only[qah,qbc]at ha';split at ha'
     ·rename_i ht;subst ht;rfl
     ·simp at ha'
    |box j=>exact absurd ha' (key a j ha)
   ·simp at ha
  |box j=>
   cases ℓ' with
   |reg t'=>
    simp only[qah,qbc]at ha';split at ha'
    ·exact absurd ha (key a j ha')
    ·simp at ha'
   |box j'=>exact hh.apart (.box j) (.box j') a ha ha'
 ·cases ℓ with
  |reg t=>
   simp only[qah,qbc]at ha;split at ha
   ·have h8:=g4 a ha
    exact⟨by simp[Ids.or,h8],fun hF=>(hh.fr a hF).2 (g5 a h8),id⟩
   ·simp at ha
  |box j=>
   obtain⟨q1,q2,_⟩:=hh.opn (.box j) a ha;exact⟨by simp[Ids.or,q1],q2,id⟩
 ·simp only[Ids.or,Bool.or_eq_true]at ha
  rcases ha with ha|ha
  ·exact .inr (g5 a ha)
  ·exact .inl ha
theorem qyH{X:XEnv}(hX:XOK X):∀n,qcS (qaV X n) (qdG X.env n) X.lin:=by
 intro n
 induction n with
 |zero=>intro f xs B v' B' h;simp[qaV]at h
 |succ n ih=>
  intro f xs B v' B' hx p vs Bv A F hf hb hh hl ham;simp only[qaV]at hx;split at hx
  ·rename_i g hg
   obtain⟨gv,h1,h2,h3⟩:=hX.nat f g hg;obtain⟨ds,h4,h5⟩:=Option.bind_eq_some_iff.1 hx;obtain⟨v,h6,h7⟩:=Option.map_eq_some_iff.1 h5;simp at h7;obtain⟨rfl,rfl⟩:=h7
   obtain⟨es,e1,e2,e3⟩:=qca h4 hf;have hvs:vs=es.map .d:=by
    clear hx hf hh hl e2 e3 h4
    induction vs generalizing es with
    |nil=>simp[qaC]at e1;subst e1;rfl
    |cons u us ih=>
     cases u with
     |d d=>
      simp only[qaC]at e1;obtain⟨es',h3,rfl⟩:=Option.map_eq_some_iff.1 e1;rw[ih es' h3];rfl
     |_=>simp[qaC]at e1
   obtain⟨u,A1,g1,g2,g3,g4,g5⟩:=h2 ds v h6 es p e2;refine quz hh hb g2 g3 g4 g5 ?_;simp only[qdG,h1,e1,Option.bind_some];rw[hvs,g1];rfl
  ·rename_i hg
   split at hx
   ·rename_i hvf
    split at hx
    ·simp at hx
    rename_i sf hs;obtain⟨ds,h4,h5⟩:=Option.bind_eq_some_iff.1 hx;obtain⟨v,h6,h7⟩:=Option.map_eq_some_iff.1 h5;simp at h7;obtain⟨rfl,rfl⟩:=h7
    obtain⟨es,e1,e2,e3⟩:=qca h4 hf;have hxs:=qx1 h4;have hvs:=qx1 e1;obtain⟨l1,l2,l3,l4⟩:=hX.spec f sf hs;have hnp:ds.length=sf.np:=by
     unfold qjF at h6;split at h6
     ·simp at h6
     ·rename_i hn;simpa using hn
    obtain⟨u,A1,g1,g2,g3,g4,g5⟩:=qDe ih (p:=p) e2 l1 l2 l3 (fun j=>by
     rw[<-hxs,<-hvs]
     by_cases hj:(X.lin f).contains j=true
     ·have h8:=List.all_eq_true.1 l4 j (by simpa using hj)
      simp only[decide_eq_true_eq]at h8;rw[qdr];rw[hxs,List.getElem?_eq_none (by simp;omega)]
     ·exact hl j (by simpa using hj)) h6
    refine quz hh hb g2 g3 g4 g5 ?_;simp only[qdG,hX.no f hg,hvf,hs,e1,Option.bind_some,g1];rfl
   ·rename_i vf hvf
    split at hx
    ·simp at hx
    ·rename_i hnp
     split at hx
     case h_2 m hbm=>
      split at hx
      ·simp at hx
      rename_i hBm;obtain⟨⟨e,s1⟩,h1,h2⟩:=Option.bind_eq_some_iff.1 hx;have hlin:=hX.code f vf hvf;simp only[VFn.linOK,Bool.and_eq_true]at hlin;have hlen:=AV.qal hf;obtain⟨hcf,hco⟩:=AV.qbe _ _ hf;have hcb:qbd (qgs B) Bv:=by
       refine⟨by simp[qgs,hb.1],fun i=>⟨fun h=> ?_,fun cs h=> ?_⟩⟩
       ·simp only[qgs,List.getElem?_map]at h
        obtain⟨o,h3,h4⟩:=Option.map_eq_some_iff.1 h;cases o with
        |none=>exact(hb.2 i).1 h3
        |some c=>simp at h4
       ·simp only[qgs,List.getElem?_map]at h
        obtain⟨o,h3,h4⟩:=Option.map_eq_some_iff.1 h;cases o with
        |none=>simp at h4
        |some c=>
         simp only[Option.map_some,Option.some.injEq]at h4;subst h4;obtain⟨ds,h5,h6⟩:=(hb.2 i).2 c h3;exact⟨ds,h5,(AV.qbe _ _ h6).1⟩
      have hre:∀j,qcg (qak 0 (AV.clrs xs)) (qak 0 vs) j=[]:=by
       intro j;rw[qdr,AV.qam,List.getElem?_map];cases xs[j]? with
       |none=>rfl
       |some a=>cases vs[j]? with
        |none=>rfl
        |some b=>simp[AV.qbk]
      have hbo:∀j,qbQ (qgs B) Bv j=[]:=by
       intro j;unfold qbQ;split
       ·rename_i cs ds q1 q2
        have q3:=qbK.1 q1;simp only[qgs,List.getElem?_map]at q3;obtain⟨o,q4,q5⟩:=Option.map_eq_some_iff.1 q3;cases o with
        |none=>simp at q5
        |some c=>
         simp only[Option.map_some,Option.some.injEq]at q5;subst q5;obtain⟨ds',q6,q7⟩:=(hb.2 j).2 c q4;have:=qbK.1 q2;rw[q6]at this;simp only[Option.some.injEq]at this;subst this
         exact(AV.qbe _ _ q7).2
       ·rfl
      have hloc:∀ℓ,qah (qak 0 (AV.clrs xs)) (qgs B) (qak 0 vs) Bv ℓ=[]:=by
       intro ℓ;cases ℓ with
       |reg t=>exact hre t
       |box j=>exact hbo j
      have h0:Rel Ids.none (X.lin f) (fun _=>False) p 0 ⟨qak 0 (AV.clrs xs),qgs B⟩ ⟨qak 0 vs,Bv,Ids.none,0⟩:=by
       refine⟨fun t x ht=> ?_,hcb,⟨fun ℓ=>by rw[hloc];simp,fun ℓ ℓ' a ha=>by rw[hloc]at ha;simp at ha,fun ℓ a ha=>by rw[hloc]at ha;simp at ha,fun a ha=>by simp at ha⟩,fun t _=>hre t,fun t ht=> ?_,fun a ha=>by simp[Ids.none]at ha⟩
       ·simp only[qfa]at ht⊢
        simp only[Nat.zero_le,if_true,Nat.sub_zero]at ht⊢
        exact AV.qb0 hcf ht
       ·simp only[qfa]at ht⊢
        simp only[Nat.zero_le,if_true,Nat.sub_zero]at ht⊢
        rw[List.getElem?_eq_none_iff]at ht⊢
        rw[AV.qcz]at ht;omega
      obtain⟨v1,h3,h4⟩:=qjS (sv:=⟨qak 0 vs,Bv,Ids.none,0⟩) ih n vf.code hlin.1 _ _ _ h0 h1;have hc:(∀id,e≠.exit id)->qdG X.env (n+1) p f vs Bv A=(finish Bv.length p v1 vf.results).map fun q=>⟨q.v,Ids.or q.A A,q.B⟩:=by
       intro hne;rw[qdG];simp only[hX.no f hg,hvf,hbm];rw[if_neg (by rw[<-hlen];exact hnp),if_neg (by rw[<-hb.1];exact hBm),h3];cases e with
       |exit id=>exact absurd rfl (hne id)
       |normal=>rfl
       |ret=>rfl
      have fin:∀{v' B'},qcC B.length s1 vf.results=some (v',B')->(∀id,e≠.exit id)->∃v Bv' A',qdG X.env (n+1) p f vs Bv A=some ⟨v,A',Bv'⟩/\v'.fit v/\qbd B' Bv'/\Held F (fun _=>False) A' (qah [(0,v')] B' [(0,v)] Bv')/\∀a,A' a=true->A a=true\/Fut p 0 a:=by
       intro v' B' h5 he;obtain⟨r,h6,h7⟩:=qh2 h4 hlin.2 h5;have hfut:∀a,r.A a=true->Fut p 0 a:=fun a ha=>by
        rcases h7.am a ha with h8|h8
        ·simp[Ids.none]at h8
        ·exact h8
       refine⟨r.v,r.B,Ids.or r.A A,?_,h7.fit,h7.boxes,⟨h7.held.nodup,h7.held.apart,fun ℓ a ha=> ?_,fun a ha=>⟨by simp[Ids.or,(hh.fr a ha).1],id⟩⟩,fun a ha=> ?_⟩
       ·rw[hc he]
        rw[hb.1]at h6;rw[h6];rfl
       ·obtain⟨q1,_,_⟩:=h7.held.opn ℓ a ha
        exact⟨by simp[Ids.or,q1],fun hF=>(hh.fr a hF).2 (hfut a q1),id⟩
       ·simp only[Ids.or,Bool.or_eq_true]at ha
        rcases ha with ha|ha
        ·exact .inr (hfut a ha)
        ·exact .inl ha
      cases e with
      |exit id=>simp at h2
      |normal=>exact fin h2 (fun id h=>by simp at h)
      |ret=>exact fin h2 (fun id h=>by simp at h)
     rename_i hbn;obtain⟨⟨e,s1⟩,h1,h2⟩:=Option.bind_eq_some_iff.1 hx;have hlin:=hX.code f vf hvf;simp only[VFn.linOK,Bool.and_eq_true]at hlin;have hlen:=AV.qal hf;have h0:Rel A (X.lin f) F p 0 ⟨qak 0 xs,B⟩ ⟨qak 0 vs,Bv,A,0⟩:=by
      refine⟨fun t x ht=> ?_,hb,hh,hl,fun t ht=> ?_,fun a ha=>⟨ham a ha,.inl ha⟩⟩
      ·simp only[qfa]at ht⊢
       simp only[Nat.zero_le,if_true,Nat.sub_zero]at ht⊢
       exact AV.qb0 hf ht
      ·simp only[qfa]at ht⊢
       simp only[Nat.zero_le,if_true,Nat.sub_zero]at ht⊢
       rw[List.getElem?_eq_none_iff]at ht⊢
       omega
     obtain⟨v1,h3,h4⟩:=qjS (sv:=⟨qak 0 vs,Bv,A,0⟩) ih n vf.code hlin.1 _ _ _ h0 h1;have hc:(∀id,e≠.exit id)->qdG X.env (n+1) p f vs Bv A=finish Bv.length p v1 vf.results:=by
      intro hne;rw[qdG];simp only[hX.no f hg,hvf,hbn];rw[if_neg (by rw[<-hlen];exact hnp),h3];cases e with
      |exit id=>exact absurd rfl (hne id)
      |normal=>rfl
      |ret=>rfl
     have fin:∀{v' B'},qcC B.length s1 vf.results=some (v',B')->(∀id,e≠.exit id)->∃v Bv' A',qdG X.env (n+1) p f vs Bv A=some ⟨v,A',Bv'⟩/\v'.fit v/\qbd B' Bv'/\Held F (fun _=>False) A' (qah [(0,v')] B' [(0,v)] Bv')/\∀a,A' a=true->A a=true\/Fut p 0 a:=by
      intro v' B' h5 he;obtain⟨r,h6,h7⟩:=qh2 h4 hlin.2 h5;refine⟨r.v,r.B,r.A,?_,h7.fit,h7.boxes,h7.held,h7.am⟩;rw[hc he,<-hb.1,h6]
     cases e with
     |exit id=>simp at h2
     |normal=>exact fin h2 (fun id h=>by simp at h)
     |ret=>exact fin h2 (fun id h=>by simp at h)
end
end Go.Proofs.Ytfiakfiocdfpbaa.VS
namespace Go.Proofs.Ytfiakfiocdfpbaa.VS
open Classical
def XLe(c c':qaz):Prop:=∀f as B r,c f as B=some r->c' f as B=some r
theorem qto{c c':qaz}(h:XLe c c')(lin:Nat->List Nat)(T:List Nat)(draw:Bool)(L0:Nat)(o:VOper):FLe (xOp c lin T draw L0 o) (xOp c' lin T draw L0 o):=by
 intro s r hr;obtain⟨dst,op,g,af⟩:=o;cases op
 case call iso f args=>
  simp only[xOp]at hr⊢
  split at hr
  ·rename_i k caps vs h1 h2
   split at hr
   ·rename_i hiso
    simp only[hiso,if_true];split at hr
    ·rename_i hk
     split at hr
     ·rename_i hc
      rw[h _ _ _ _ hc];exact hr
     ·simp at hr
    ·simp at hr
   ·rename_i hiso
    simp only[hiso];split at hr
    ·rename_i hd
     rw[if_pos hd];split at hr
     ·rename_i hc
      rw[h _ _ _ _ hc];exact hr
     ·simp at hr
    ·simp at hr
  ·simp at hr
 case callT th f args=>
  simp only[xOp]at hr⊢
  split at hr
  ·split at hr
   ·rename_i hd
    rw[if_pos hd];obtain⟨ds,h1,h2⟩:=Option.bind_eq_some_iff.1 hr;rw[h1];simp only[Option.bind_some];split at h2
    ·rename_i hc
     rw[h _ _ _ _ hc];exact h2
    ·simp at h2
   ·simp at hr
  ·simp at hr
 case callS cc f args=>
  simp only[xOp]at hr⊢
  split at hr
  ·split at hr
   ·simp at hr
   rename_i hb;rw[if_neg hb];obtain⟨ds,h1,hr⟩:=Option.bind_eq_some_iff.1 hr;obtain⟨cs,h2,hr⟩:=Option.bind_eq_some_iff.1 hr;obtain⟨es,h3,hr⟩:=Option.bind_eq_some_iff.1 hr;rw[h1,Option.bind_some,h2,Option.bind_some,h3,Option.bind_some];split at hr
   ·rename_i hc
    rw[h _ _ _ _ hc];exact hr
   ·simp at hr
  ·simp at hr
 all_goals exact hr
theorem qcG{c c':qaz}(h:XLe c c')(lin:Nat->List Nat)(T:List Nat)(draw:Bool)(L0:Nat)(os:List VOper):FLe (qct c lin T draw L0 os) (qct c' lin T draw L0 os):=by
 induction os with
 |nil=>intro s r hr;exact hr
 |cons o os ih=>
  intro s r hr;simp only[qct]at hr⊢
  split at hr
  ·obtain⟨s1,h1,h2⟩:=Option.bind_eq_some_iff.1 hr
   exact Option.bind_eq_some_iff.2 ⟨s1,qto h lin T draw L0 o s s1 h1,ih _ _ h2⟩
  ·exact ih _ _ hr
  ·simp at hr
theorem qiJ{c c':qaz}(h:XLe c c')(lin:Nat->List Nat)(T:List Nat)(draw:Bool)(na:Nat)(live:List Nat)(ops:List VOper):FLe (qdQ c lin T draw na live ops) (qdQ c' lin T draw na live ops):=by
 intro s r hr;unfold qdQ at hr⊢
 split
 ·simp_all
 ·rename_i hd
  simp only[hd]at hr;obtain⟨s1,h1,h2⟩:=Option.map_eq_some_iff.1 hr;exact Option.map_eq_some_iff.2 ⟨s1,qcG h lin T draw _ ops _ _ h1,h2⟩
theorem qtp{c c':qaz}(h:XLe c c')(lin:Nat->List Nat)(T:List Nat)(draw:Bool)(L0:Nat)(fs:List FOper):FLe (xFs c lin T draw L0 fs) (xFs c' lin T draw L0 fs):=by
 induction fs with
 |nil=>intro s r hr;exact hr
 |cons f fs ih=>
  intro s r hr;simp only[xFs]at hr⊢
  obtain⟨s1,h1,h2⟩:=Option.bind_eq_some_iff.1 hr;obtain⟨s2,h3,h4⟩:=Option.bind_eq_some_iff.1 h2;exact Option.bind_eq_some_iff.2 ⟨s1,qcG h lin T draw L0 f.pre _ _ h1,Option.bind_eq_some_iff.2 ⟨s2,h3,ih _ _ h4⟩⟩
theorem qg1{c c':qaz}(h:XLe c c')(lin:Nat->List Nat)(T:List Nat)(draw:Bool)(na:Nat)(live:List Nat)(fs:List FOper):FLe (qcX c lin T draw na live fs) (qcX c' lin T draw na live fs):=by
 intro s r hr;unfold qcX at hr⊢
 split
 ·simp_all
 ·rename_i hd
  simp only[hd]at hr;obtain⟨s1,h1,h2⟩:=Option.map_eq_some_iff.1 hr;exact Option.map_eq_some_iff.2 ⟨s1,qtp h lin T draw _ fs _ _ h1,h2⟩
theorem qeT{f g:XS->Option (Ex×XS)}(h:FLe f g)(L1:Nat)(live:List Nat):∀n m,n<=m->FLe (qdB f L1 live n) (qdB g L1 live m):=by
 intro n
 induction n with
 |zero=>intro m _ s r hr;simp[qdB]at hr
 |succ n ih=>
  intro m hm s r hr;obtain⟨m,rfl⟩:∃k,m=k+1:=⟨m-1,by omega⟩;simp only[qdB]at hr⊢
  obtain⟨s0,h0,hr⟩:=Option.bind_eq_some_iff.1 hr;obtain⟨⟨e,s1⟩,h1,hr⟩:=Option.bind_eq_some_iff.1 hr;refine Option.bind_eq_some_iff.2 ⟨s0,h0,Option.bind_eq_some_iff.2 ⟨(e,s1),h _ _ h1,?_⟩⟩;cases e with
  |normal=>exact ih m (by omega) _ _ hr
  |exit id=>exact hr
  |ret=>exact hr
theorem qbn{c c':qaz}(h:XLe c c')(lin:Nat->List Nat)(T:List Nat){n m:Nat}(hn:n<=m)(vc:VCode):FLe (qa0 c lin T n vc) (qa0 c' lin T m vc):=by
 induction vc with
 |skip=>intro s r hr;exact hr
 |ret=>intro s r hr;exact hr
 |exit id=>intro s r hr;exact hr
 |seq a b iha ihb=>
  intro s r hr;simp only[qa0]at hr⊢
  obtain⟨⟨e,s1⟩,h1,hr⟩:=Option.bind_eq_some_iff.1 hr;refine Option.bind_eq_some_iff.2 ⟨(e,s1),iha _ _ h1,?_⟩;cases e with
  |normal=>exact ihb _ _ hr
  |exit id=>exact hr
  |ret=>exact hr
 |region draw na live ops=>
  intro s r hr;simp only[qa0]at hr⊢
  obtain⟨s1,h1,h2⟩:=Option.map_eq_some_iff.1 hr;exact Option.map_eq_some_iff.2 ⟨s1,qiJ h lin T draw na live ops _ _ h1,h2⟩
 |regionF draw na live fs=>
  intro s r hr;simp only[qa0]at hr⊢
  obtain⟨s1,h1,h2⟩:=Option.map_eq_some_iff.1 hr;exact Option.map_eq_some_iff.2 ⟨s1,qg1 h lin T draw na live fs _ _ h1,h2⟩
 |cond x a b iha ihb=>
  intro s r hr;simp only[qa0]at hr⊢
  split at hr
  ·exact iha _ _ hr
  ·exact ihb _ _ hr
  ·simp at hr
 |block id cc ih=>
  intro s r hr;simp only[qa0]at hr⊢
  obtain⟨s1,h1,h2⟩:=Option.map_eq_some_iff.1 hr;exact Option.map_eq_some_iff.2 ⟨s1,ih _ _ h1,h2⟩
 |loop live cc ih=>
  intro s r hr;simp only[qa0]at hr⊢
  exact qeT ih _ _ n m hn _ _ hr
 |ghost x cc ih=>
  intro s r hr;simp only[qa0]at hr⊢
  obtain⟨s1,h1,h2⟩:=Option.bind_eq_some_iff.1 hr;exact Option.bind_eq_some_iff.2 ⟨s1,h1,ih _ _ h2⟩
 |regionT na live pre tl=>
  intro s r hr;simp only[qa0]at hr⊢
  obtain⟨s1,h1,h2⟩:=Option.map_eq_some_iff.1 hr;refine Option.map_eq_some_iff.2 ⟨s1,?_,h2⟩;unfold qdC at h1⊢
  split
  ·rename_i hd;rw[if_pos hd]at h1;simp at h1
  ·rename_i hd
   rw[if_neg hd]at h1;obtain⟨s2,h3,h4⟩:=Option.bind_eq_some_iff.1 h1;obtain⟨s3,h5,h6⟩:=Option.map_eq_some_iff.1 h4;exact Option.bind_eq_some_iff.2 ⟨s2,qcG h lin T true _ pre _ _ h3,Option.map_eq_some_iff.2 ⟨s3,qcG h lin T false _ tl _ _ h5,h6⟩⟩
theorem qhZ{c c':qaz}(h:XLe c c')(sf:SFn)(x:DV)(xr:List DV):∀r,qh0 c sf x xr=some r->qh0 c' sf x xr=some r:=by
 intro r hr;unfold qh0 at hr⊢
 split at hr
 ·rename_i hc
  rw[if_pos hc];split at hr
  ·rename_i v cs hq
   rw[h _ _ _ _ hq];exact hr
  ·simp at hr
 ·simp at hr
theorem qvn{c c':qaz}(h:XLe c c'){n m:Nat}(hn:n<=m)(lin:Nat->List Nat)(T:List Nat)(sf:SFn)(ds:List DV):∀r,qjF c lin T n sf ds=some r->qjF c' lin T m sf ds=some r:=by
 intro r hr;unfold qjF at hr⊢
 split at hr
 ·simp at hr
 rename_i hlen;rw[if_neg hlen];obtain⟨⟨e,s⟩,h1,h2⟩:=Option.bind_eq_some_iff.1 hr;refine Option.bind_eq_some_iff.2 ⟨(e,s),qbn h lin T hn sf.pre _ _ h1,?_⟩;simp only at h2⊢
 split at h2
 ·rename_i x xr e1 e2
  obtain⟨y,h3,h4⟩:=Option.bind_eq_some_iff.1 h2;obtain⟨q,h5,h6⟩:=Option.map_eq_some_iff.1 h4;exact Option.bind_eq_some_iff.2 ⟨y,h3,Option.map_eq_some_iff.2 ⟨q,qhZ h _ _ _ _ h5,h6⟩⟩
 ·rename_i e1
  obtain⟨q,h5,h6⟩:=Option.bind_eq_some_iff.1 h2;exact Option.bind_eq_some_iff.2 ⟨q,qbn h lin T hn sf.rest _ _ h5,h6⟩
 ·rename_i g e1 e2
  obtain⟨q,h5,h6⟩:=Option.bind_eq_some_iff.1 h2;exact Option.bind_eq_some_iff.2 ⟨q,qbn h lin T hn sf.rest _ _ h5,h6⟩
 ·simp at h2
theorem qrD(X:XEnv):∀n,XLe (qaV X n) (qaV X (n+1)):=by
 intro n
 induction n with
 |zero=>intro f as B r hr;simp[qaV]at hr
 |succ n ih=>
  intro f as B r hr;rw[qaV]at hr⊢
  split
  ·rename_i g hg
   rw[hg]at hr;exact hr
  ·rename_i hg
   simp only[hg]at hr;split
   ·rename_i hf
    simp only[hf]at hr;split
    ·rename_i hs;simp[hs]at hr
    ·rename_i sf hs
     simp only[hs]at hr;obtain⟨ds,h1,h2⟩:=Option.bind_eq_some_iff.1 hr;obtain⟨q,h3,h4⟩:=Option.map_eq_some_iff.1 h2;exact Option.bind_eq_some_iff.2 ⟨ds,h1,Option.map_eq_some_iff.2 ⟨q,qvn ih (Nat.le_succ n) _ _ sf ds _ h3,h4⟩⟩
   ·rename_i vf hf
    simp only[hf]at hr;split at hr
    ·simp at hr
    ·rename_i hnp
     rw[if_neg hnp];split at hr
     ·rename_i hb
      obtain⟨s1,h1,h2⟩:=Option.bind_eq_some_iff.1 hr;exact Option.bind_eq_some_iff.2 ⟨s1,qbn ih _ _ (Nat.le_succ n) vf.code _ _ h1,h2⟩
     ·rename_i m hb
      split at hr
      ·simp at hr
      rename_i hm;rw[if_neg hm];obtain⟨s1,h1,h2⟩:=Option.bind_eq_some_iff.1 hr;exact Option.bind_eq_some_iff.2 ⟨s1,qbn ih _ _ (Nat.le_succ n) vf.code _ _ h1,h2⟩
theorem qbf(X:XEnv){n m:Nat}(h:n<=m):XLe (qaV X n) (qaV X m):=by
 induction h with
 |refl=>intro f as B r hr;exact hr
 |step _ ih=>intro f as B r hr;exact qrD X _ _ _ _ _ (ih _ _ _ _ hr)
noncomputable def qaf(X:XEnv):qaz:=fun f as B=>lim fun n=>qaV X n f as B
noncomputable def qau(X:XEnv)(T:List Nat)(c:VCode)(s:XS):Option (Ex×XS):=lim fun n=>qa0 (qaV X n) X.lin T n c s
theorem qbN{X:XEnv}{f:Nat}{as:List AV}{B:qan}{r:AV×qan}:qaf X f as B=some r↔∃n,qaV X n f as B=some r:=
 quE (fun n m r h hr=>qbf X h _ _ _ _ hr) r
theorem qaA{X:XEnv}{T:List Nat}{c:VCode}{s:XS}{r:Ex×XS}:qau X T c s=some r↔∃n,qa0 (qaV X n) X.lin T n c s=some r:=
 quE (fun n m r h hr=>qbn (qbf X h) _ _ h c _ _ hr) r
theorem qhQ(X:XEnv)(n:Nat):XLe (qaV X n) (qaf X):=fun _ _ _ _ h=>qbN.2 ⟨n,h⟩
theorem qIe(X:XEnv)(T:List Nat)(draw:Bool)(L0:Nat)(o:VOper)(s r:XS)(hr:xOp (qaf X) X.lin T draw L0 o s=some r):∃n,xOp (qaV X n) X.lin T draw L0 o s=some r:=by
 obtain⟨dst,op,g,af⟩:=o;cases op
 case call iso f args=>
  simp only[xOp]at hr⊢
  split at hr
  ·rename_i k caps vs h1 h2
   split at hr
   ·rename_i hiso
    simp only[hiso,if_true];split at hr
    ·rename_i hk
     split at hr
     ·rename_i hc
      obtain⟨n,hn⟩:=qbN.1 hc;exact⟨n,by rw[hn];exact hr⟩
     ·simp at hr
    ·simp at hr
   ·rename_i hiso
    simp only[hiso];split at hr
    ·rename_i hd
     split at hr
     ·rename_i hc
      obtain⟨n,hn⟩:=qbN.1 hc;exact⟨n,by rw[if_pos hd,hn];exact hr⟩
     ·simp at hr
    ·simp at hr
  ·simp at hr
 case callT th f args=>
  simp only[xOp]at hr⊢
  split at hr
  ·split at hr
   ·rename_i hd
    obtain⟨ds,h1,h2⟩:=Option.bind_eq_some_iff.1 hr;split at h2
    ·rename_i hc
     obtain⟨n,hn⟩:=qbN.1 hc;exact⟨n,by rw[if_pos hd,h1];simp only[Option.bind_some];rw[hn];exact h2⟩
    ·simp at h2
   ·simp at hr
  ·simp at hr
 case callS cc f args=>
  simp only[xOp]at hr⊢
  split at hr
  ·split at hr
   ·simp at hr
   rename_i hb;obtain⟨ds,h1,hr⟩:=Option.bind_eq_some_iff.1 hr;obtain⟨cs,h2,hr⟩:=Option.bind_eq_some_iff.1 hr;obtain⟨es,h3,hr⟩:=Option.bind_eq_some_iff.1 hr;split at hr
   ·rename_i hc
    obtain⟨n,hn⟩:=qbN.1 hc;exact⟨n,by rw[if_neg hb,h1,Option.bind_some,h2,Option.bind_some,h3,Option.bind_some,hn];exact hr⟩
   ·simp at hr
  ·simp at hr
 all_goals exact⟨0,hr⟩
theorem qjR(X:XEnv)(T:List Nat)(draw:Bool)(L0:Nat)(os:List VOper):∀s r,qct (qaf X) X.lin T draw L0 os s=some r->∃n,qct (qaV X n) X.lin T draw L0 os s=some r:=by
 induction os with
 |nil=>intro s r hr;exact⟨0,hr⟩
 |cons o os ih=>
  intro s r hr;simp only[qct]at hr⊢
  split at hr
  ·obtain⟨s1,h1,h2⟩:=Option.bind_eq_some_iff.1 hr
   obtain⟨n,hn⟩:=qIe X T draw L0 o s s1 h1;obtain⟨m,hm⟩:=ih _ _ h2;exact⟨Nat.max n m,Option.bind_eq_some_iff.2 ⟨s1,qto (qbf X (Nat.le_max_left n m)) _ _ _ _ _ _ _ hn,qcG (qbf X (Nat.le_max_right n m)) _ _ _ _ _ _ _ hm⟩⟩
  ·exact ih _ _ hr
  ·simp at hr
theorem qjw(X:XEnv)(T:List Nat)(draw:Bool)(na:Nat)(live:List Nat)(ops:List VOper)(s:XS):
 qau X T (.region draw na live ops) s=(qdQ (qaf X) X.lin T draw na live ops s).map fun s'=>(.normal,s'):=by
 refine qc9 fun r=> ?_
 rw[qaA];constructor
 ·rintro⟨n,hn⟩
  simp only[qa0]at hn;obtain⟨s1,h1,h2⟩:=Option.map_eq_some_iff.1 hn;exact Option.map_eq_some_iff.2 ⟨s1,qiJ (qhQ X n) _ _ _ _ _ _ _ _ h1,h2⟩
 ·intro h
  obtain⟨s1,h1,h2⟩:=Option.map_eq_some_iff.1 h;unfold qdQ at h1;split at h1
  ·simp at h1
  ·rename_i hd
   obtain⟨s2,h3,h4⟩:=Option.map_eq_some_iff.1 h1;obtain⟨n,hn⟩:=qjR _ _ _ _ _ _ _ h3;refine⟨n,?_⟩;simp only[qa0];refine Option.map_eq_some_iff.2 ⟨s1,?_,h2⟩;unfold qdQ;rw[if_neg hd];exact Option.map_eq_some_iff.2 ⟨s2,hn,h4⟩
theorem qw4(X:XEnv)(T:List Nat)(s:XS):qau X T .skip s=some (.normal,s):=qaA.2 ⟨0,rfl⟩
theorem qCf(X:XEnv)(T:List Nat)(s:XS):qau X T .ret s=some (.ret,s):=qaA.2 ⟨0,rfl⟩
theorem qw6(X:XEnv)(T:List Nat)(id:Nat)(s:XS):qau X T (.exit id) s=some (.exit id,s):=qaA.2 ⟨0,rfl⟩
def qo6(r:Option (Ex×XS))(k:XS->Option (Ex×XS)):Option (Ex×XS):=
 r.bind fun r=>match r.1 with
  | .normal=>k r.2
  |_=>some r
theorem qd1(X:XEnv)(T:List Nat)(a b:VCode)(s:XS):qau X T (.seq a b) s=qo6 (qau X T a s) (qau X T b):=by
 refine qc9 fun r=> ?_
 unfold qo6;rw[qaA];constructor
 ·rintro⟨n,hn⟩
  simp only[qa0]at hn;obtain⟨⟨e,s1⟩,h1,hr⟩:=Option.bind_eq_some_iff.1 hn;refine Option.bind_eq_some_iff.2 ⟨(e,s1),qaA.2 ⟨n,h1⟩,?_⟩;cases e with
  |normal=>exact qaA.2 ⟨n,hr⟩
  |exit id=>exact hr
  |ret=>exact hr
 ·intro h
  obtain⟨⟨e,s1⟩,h1,hr⟩:=Option.bind_eq_some_iff.1 h;obtain⟨n,hn⟩:=qaA.1 h1;cases e with
  |normal=>
   obtain⟨m,hm⟩:=qaA.1 hr;refine⟨Nat.max n m,?_⟩;simp only[qa0];exact Option.bind_eq_some_iff.2 ⟨_,qbn (qbf X (Nat.le_max_left n m)) _ _ (Nat.le_max_left n m) _ _ _ hn,qbn (qbf X (Nat.le_max_right n m)) _ _ (Nat.le_max_right n m) _ _ _ hm⟩
  |exit id=>exact⟨n,by simp only[qa0];exact Option.bind_eq_some_iff.2 ⟨_,hn,hr⟩⟩
  |ret=>exact⟨n,by simp only[qa0];exact Option.bind_eq_some_iff.2 ⟨_,hn,hr⟩⟩
theorem qw7(X:XEnv)(T:List Nat)(x:VX)(a b:VCode)(s:XS):
 qau X T (.cond x a b) s=match qbT s.r x with
  |some (.d (.bool true))=>qau X T a s
  |some (.d (.bool false))=>qau X T b s
  |_=>none:=by
 unfold qau;split<;>simp only[qa0, *]
 unfold lim;split
 ·rename_i h;obtain⟨n,hn⟩:=h;simp at hn
 ·rfl
theorem qs8(X:XEnv)(T:List Nat)(id:Nat)(c:VCode)(s:XS):
 qau X T (.block id c) s=(qau X T c s).map fun r=>if r.1= .exit id then(.normal,r.2)else r:=by
 refine qc9 fun r=> ?_
 rw[qaA];constructor
 ·rintro⟨n,hn⟩
  simp only[qa0]at hn;obtain⟨s1,h1,h2⟩:=Option.map_eq_some_iff.1 hn;exact Option.map_eq_some_iff.2 ⟨s1,qaA.2 ⟨n,h1⟩,h2⟩
 ·intro h
  obtain⟨s1,h1,h2⟩:=Option.map_eq_some_iff.1 h;obtain⟨n,hn⟩:=qaA.1 h1;exact⟨n,by simp only[qa0];exact Option.map_eq_some_iff.2 ⟨s1,hn,h2⟩⟩
noncomputable def qbj(X:XEnv)(T:List Nat)(L1:Nat)(live:List Nat)(c:VCode)(s:XS):Option (Ex×XS):=lim fun n=>qdB (qa0 (qaV X n) X.lin T n c) L1 live n s
theorem qio{X:XEnv}{T:List Nat}{L1:Nat}{live:List Nat}{c:VCode}{s:XS}{r:Ex×XS}:qbj X T L1 live c s=some r↔∃n,qdB (qa0 (qaV X n) X.lin T n c) L1 live n s=some r:=
 quE (fun n m r h hr=>qeT (qbn (qbf X h) _ _ h c) _ _ n m h _ _ hr) r
theorem qw5(X:XEnv)(T:List Nat)(live:List Nat)(c:VCode)(s:XS):qau X T (.loop live c) s=qbj X T s.B.length live c s:=rfl
theorem qek(X:XEnv)(T:List Nat)(L1:Nat)(live:List Nat)(c:VCode)(s:XS):
 qbj X T L1 live c s=(qag L1 live s).bind fun s0=>qo6 (qau X T c s0) (qbj X T L1 live c):=by
 refine qc9 fun r=> ?_
 unfold qo6;rw[qio];constructor
 ·rintro⟨n,hn⟩
  cases n with
  |zero=>simp[qdB]at hn
  |succ n=>
   simp only[qdB]at hn;obtain⟨s0,h0,hn⟩:=Option.bind_eq_some_iff.1 hn;obtain⟨⟨e,s1⟩,h1,hr⟩:=Option.bind_eq_some_iff.1 hn;refine Option.bind_eq_some_iff.2 ⟨s0,h0,Option.bind_eq_some_iff.2 ⟨(e,s1),qaA.2 ⟨n+1,h1⟩,?_⟩⟩;cases e with
   |normal=>exact qio.2 ⟨n+1,qeT (fun _ _ h=>h) _ _ n (n+1) (Nat.le_succ n) _ _ hr⟩
   |exit id=>exact hr
   |ret=>exact hr
 ·intro h
  obtain⟨s0,h0,h⟩:=Option.bind_eq_some_iff.1 h;obtain⟨⟨e,s1⟩,h1,hr⟩:=Option.bind_eq_some_iff.1 h;obtain⟨n,hn⟩:=qaA.1 h1;have one:∀m,n<=m->qa0 (qaV X m) X.lin T m c s0=some (e,s1):=fun m hm=>qbn (qbf X hm) _ _ hm c _ _ hn
  cases e with
  |normal=>
   obtain⟨m,hm⟩:=qio.1 hr;refine⟨n+m+1,?_⟩;simp only[qdB];refine Option.bind_eq_some_iff.2 ⟨s0,h0,Option.bind_eq_some_iff.2 ⟨(.normal,s1),one _ (by omega),?_⟩⟩;exact qeT (qbn (qbf X (by omega)) _ _ (by omega) c) _ _ m _ (by omega) _ _ hm
  |exit id=>
   refine⟨n+1,?_⟩;simp only[qdB];exact Option.bind_eq_some_iff.2 ⟨s0,h0,Option.bind_eq_some_iff.2 ⟨(.exit id,s1),one _ (by omega),hr⟩⟩
  |ret=>
   refine⟨n+1,?_⟩;simp only[qdB];exact Option.bind_eq_some_iff.2 ⟨s0,h0,Option.bind_eq_some_iff.2 ⟨(.ret,s1),one _ (by omega),hr⟩⟩
theorem qxl(X:XEnv)(f:Nat)(as:List AV)(B:qan)(vf:VFn)(hn:X.nat f=none)(hf:X.env.code f=some vf)(hb:X.env.base f=none)(hnp:as.length=vf.np):
 qaf X f as B=(qau X (X.lin f) vf.code ⟨qak 0 as,B⟩).bind fun r=>
  match r.1 with
  | .exit _=>none
  |_=>qcC B.length r.2 vf.results:=by
 refine qc9 fun r=> ?_
 rw[qbN];constructor
 ·rintro⟨n,h⟩
  cases n with
  |zero=>simp[qaV]at h
  |succ n=>
   rw[qaV]at h;simp only[hn,hf,hb]at h;rw[if_neg (by simp[hnp])]at h;obtain⟨s1,h1,h2⟩:=Option.bind_eq_some_iff.1 h;exact Option.bind_eq_some_iff.2 ⟨s1,qaA.2 ⟨n,h1⟩,h2⟩
 ·intro h
  obtain⟨s1,h1,h2⟩:=Option.bind_eq_some_iff.1 h;obtain⟨n,hk⟩:=qaA.1 h1;refine⟨n+1,?_⟩;rw[qaV];simp only[hn,hf,hb];rw[if_neg (by simp[hnp])];exact Option.bind_eq_some_iff.2 ⟨s1,hk,h2⟩
theorem qxm(X:XEnv)(f:Nat)(as:List AV)(B:qan)(vf:VFn)(hn:X.nat f=none)(hf:X.env.code f=some vf){m:Nat}(hb:X.env.base f=some m)(hm:B.length=m)(hnp:as.length=vf.np):
 qaf X f as B=(qau X (X.lin f) vf.code ⟨qak 0 (AV.clrs as),qgs B⟩).bind fun r=>
  match r.1 with
  | .exit _=>none
  |_=>qcC B.length r.2 vf.results:=by
 refine qc9 fun r=> ?_
 rw[qbN];constructor
 ·rintro⟨n,h⟩
  cases n with
  |zero=>simp[qaV]at h
  |succ n=>
   rw[qaV]at h;simp only[hn,hf,hb]at h;rw[if_neg (by simp[hnp]),if_neg (by simp[hm])]at h;obtain⟨s1,h1,h2⟩:=Option.bind_eq_some_iff.1 h;exact Option.bind_eq_some_iff.2 ⟨s1,qaA.2 ⟨n,h1⟩,h2⟩
 ·intro h
  obtain⟨s1,h1,h2⟩:=Option.bind_eq_some_iff.1 h;obtain⟨n,hk⟩:=qaA.1 h1;refine⟨n+1,?_⟩;rw[qaV];simp only[hn,hf,hb];rw[if_neg (by simp[hnp]),if_neg (by simp[hm])];exact Option.bind_eq_some_iff.2 ⟨s1,hk,h2⟩
theorem qIi(X:XEnv)(T:List Nat)(draw:Bool)(L0:Nat):∀(fs:List FOper) (s r:XS),xFs (qaf X) X.lin T draw L0 fs s=some r->∃n,xFs (qaV X n) X.lin T draw L0 fs s=some r:=by
 intro fs
 induction fs with
 |nil=>intro s r hr;exact⟨0,hr⟩
 |cons f fs ih=>
  intro s r hr;simp only[xFs]at hr⊢
  obtain⟨s1,h1,h2⟩:=Option.bind_eq_some_iff.1 hr;obtain⟨s2,h3,h4⟩:=Option.bind_eq_some_iff.1 h2;obtain⟨n,hn⟩:=qjR _ _ _ _ _ _ _ h1;obtain⟨m,hm⟩:=ih _ _ h4;exact⟨Nat.max n m,Option.bind_eq_some_iff.2 ⟨s1,qcG (qbf X (Nat.le_max_left n m)) _ _ _ _ _ _ _ hn,Option.bind_eq_some_iff.2 ⟨s2,h3,qtp (qbf X (Nat.le_max_right n m)) _ _ _ _ _ _ _ hm⟩⟩⟩
theorem qhM(X:XEnv)(T:List Nat)(draw:Bool)(na:Nat)(live:List Nat)(fs:List FOper)(s:XS):qau X T (.regionF draw na live fs) s=(qcX (qaf X) X.lin T draw na live fs s).map fun s'=>(.normal,s'):=by
 refine qc9 fun r=> ?_
 rw[qaA];constructor
 ·rintro⟨n,hn⟩
  simp only[qa0]at hn;obtain⟨s1,h1,h2⟩:=Option.map_eq_some_iff.1 hn;exact Option.map_eq_some_iff.2 ⟨s1,qg1 (qhQ X n) _ _ _ _ _ _ _ _ h1,h2⟩
 ·intro h
  obtain⟨s1,h1,h2⟩:=Option.map_eq_some_iff.1 h;unfold qcX at h1;split at h1
  ·simp at h1
  ·rename_i hd
   obtain⟨s2,h3,h4⟩:=Option.map_eq_some_iff.1 h1;obtain⟨n,hn⟩:=qIi _ _ _ _ _ _ _ h3;refine⟨n,?_⟩;simp only[qa0];refine Option.map_eq_some_iff.2 ⟨s1,?_,h2⟩;unfold qcX;rw[if_neg hd];exact Option.map_eq_some_iff.2 ⟨s2,hn,h4⟩
theorem qoJ(X:XEnv)(T:List Nat)(na:Nat)(live:List Nat)(pre tl:List VOper)(s:XS):qau X T (.regionT na live pre tl) s=(qdC (qaf X) X.lin T na live pre tl s).map fun s'=>(.normal,s'):=by
 refine qc9 fun r=> ?_
 rw[qaA];constructor
 ·rintro⟨n,hn⟩
  simp only[qa0]at hn;obtain⟨s1,h1,h2⟩:=Option.map_eq_some_iff.1 hn;refine Option.map_eq_some_iff.2 ⟨s1,?_,h2⟩;unfold qdC at h1⊢
  split at h1
  ·simp at h1
  ·rename_i hd
   rw[if_neg hd];obtain⟨s2,h3,h4⟩:=Option.bind_eq_some_iff.1 h1;obtain⟨s3,h5,h6⟩:=Option.map_eq_some_iff.1 h4;exact Option.bind_eq_some_iff.2 ⟨s2,qcG (qhQ X n) _ _ _ _ _ _ _ h3,Option.map_eq_some_iff.2 ⟨s3,qcG (qhQ X n) _ _ _ _ _ _ _ h5,h6⟩⟩
 ·intro h
  obtain⟨s1,h1,h2⟩:=Option.map_eq_some_iff.1 h;unfold qdC at h1;split at h1
  ·simp at h1
  ·rename_i hd
   obtain⟨s2,h3,h4⟩:=Option.bind_eq_some_iff.1 h1;obtain⟨s3,h5,h6⟩:=Option.map_eq_some_iff.1 h4;obtain⟨n,hn⟩:=qjR _ _ _ _ _ _ _ h3;obtain⟨m,hm⟩:=qjR _ _ _ _ _ _ _ h5;refine⟨Nat.max n m,?_⟩;simp only[qa0];refine Option.map_eq_some_iff.2 ⟨s1,?_,h2⟩;unfold qdC;rw[if_neg hd];exact Option.bind_eq_some_iff.2 ⟨s2,qcG (qbf X (Nat.le_max_left n m)) _ _ _ _ _ _ _ hn,Option.map_eq_some_iff.2 ⟨s3,qcG (qbf X (Nat.le_max_right n m)) _ _ _ _ _ _ _ hm,h6⟩⟩
theorem qs7(X:XEnv)(T:List Nat)(x:Gho)(c:VCode)(s:XS):qau X T (.ghost x c) s=(qrt x s).bind (qau X T c):=by
 refine qc9 fun r=> ?_
 rw[qaA];constructor
 ·rintro⟨n,h⟩
  simp only[qa0]at h;obtain⟨s1,h1,h2⟩:=Option.bind_eq_some_iff.1 h;exact Option.bind_eq_some_iff.2 ⟨s1,h1,qaA.2 ⟨n,h2⟩⟩
 ·intro h
  obtain⟨s1,h1,h2⟩:=Option.bind_eq_some_iff.1 h;obtain⟨n,hn⟩:=qaA.1 h2;exact⟨n,by simp only[qa0];exact Option.bind_eq_some_iff.2 ⟨s1,h1,hn⟩⟩
theorem qCt(X:XEnv)(f:Nat)(as:List AV)(B:qan)(g:List DV->Option DV)(hn:X.nat f=some g):
 qaf X f as B=(qaC as).bind fun ds=>(g ds).map fun v=>(.d v,B):=by
 refine qc9 fun r=> ?_
 rw[qbN];constructor
 ·rintro⟨n,h⟩
  cases n with
  |zero=>simp[qaV]at h
  |succ n=>rw[qaV]at h;simpa only[hn]using h
 ·intro h
  exact⟨1,by rw[qaV];simpa only[hn]using h⟩
noncomputable def qnD(X:XEnv)(T:List Nat)(sf:SFn)(ds:List DV):Option DV:=
 if ds.length≠sf.np then none else
  (qau X T sf.pre ⟨qak 0 (ds.map .d),[]⟩).bind fun r=>
   match r.1,lk r.2.r sf.cond,lk r.2.r sf.row with
   | .normal,some (.d (.bool true)),some (.d (.sl (.own [] 0) (x::xr)))=>
    (qhY r.2).bind fun y=>(qh0 (qaf X) sf x xr).map fun q=> .agg [y.1,y.2,.sl U q]
   | .normal,some (.d (.bool false)),_| .normal,some (.d (.bool true)),some (.d (.sl _ []))=>
    (qau X T sf.rest r.2).bind fun r2=>
     match r2.1 with
     | .exit _=>none
     |_=>(qcC 0 r2.2 sf.results).bind fun q=>match q.1 with
      | .d v=>some v
      |_=>none
   |_,_,_=>none
theorem qxP(X:XEnv)(sf:SFn)(x:DV)(xr:List DV):∀r,qh0 (qaf X) sf x xr=some r->∃n,qh0 (qaV X n) sf x xr=some r:=by
 intro r hr;unfold qh0 at hr⊢
 split at hr
 ·rename_i hc
  split at hr
  ·rename_i v cs hq
   obtain⟨n,hn⟩:=qbN.1 hq;exact⟨n,by rw[if_pos hc,hn];exact hr⟩
  ·simp at hr
 ·simp at hr
theorem qmG{X:XEnv}{T:List Nat}{sf:SFn}{ds:List DV}{r:DV}:qnD X T sf ds=some r↔∃n,qjF (qaV X n) X.lin T n sf ds=some r:=by
 constructor
 ·intro hr
  unfold qnD at hr;split at hr
  ·simp at hr
  rename_i hlen;obtain⟨⟨e,s⟩,h1,h2⟩:=Option.bind_eq_some_iff.1 hr;obtain⟨n,hn⟩:=qaA.1 h1;have two:∀m,∀{q:Ex×XS},qa0 (qaV X m) X.lin T m sf.rest s=some q->qa0 (qaV X (Nat.max n m)) X.lin T (Nat.max n m) sf.rest s=some q:=fun m q hq=>qbn (qbf X (Nat.le_max_right n m)) _ _ (Nat.le_max_right n m) _ _ _ hq
  have one:∀m,qa0 (qaV X (Nat.max n m)) X.lin T (Nat.max n m) sf.pre ⟨qak 0 (ds.map .d),[]⟩=some (e,s):=fun m=>qbn (qbf X (Nat.le_max_left n m)) _ _ (Nat.le_max_left n m) _ _ _ hn
  simp only at h2;split at h2
  ·rename_i x xr e1 e2
   obtain⟨y,h3,h4⟩:=Option.bind_eq_some_iff.1 h2;obtain⟨q,h5,h6⟩:=Option.map_eq_some_iff.1 h4;obtain⟨m,hm⟩:=qxP X _ _ _ _ h5;refine⟨Nat.max n m,?_⟩;unfold qjF;rw[if_neg hlen,one m];simp only[Option.bind_some,e1,e2];exact Option.bind_eq_some_iff.2 ⟨y,h3,Option.map_eq_some_iff.2 ⟨q,qhZ (qbf X (Nat.le_max_right n m)) _ _ _ _ hm,h6⟩⟩
  ·rename_i e1
   obtain⟨q,h5,h6⟩:=Option.bind_eq_some_iff.1 h2;obtain⟨m,hm⟩:=qaA.1 h5;refine⟨Nat.max n m,?_⟩;unfold qjF;rw[if_neg hlen,one m];simp only[Option.bind_some,e1];exact Option.bind_eq_some_iff.2 ⟨q,two m hm,h6⟩
  ·rename_i g e1 e2
   obtain⟨q,h5,h6⟩:=Option.bind_eq_some_iff.1 h2;obtain⟨m,hm⟩:=qaA.1 h5;refine⟨Nat.max n m,?_⟩;unfold qjF;rw[if_neg hlen,one m];simp only[Option.bind_some,e1,e2];exact Option.bind_eq_some_iff.2 ⟨q,two m hm,h6⟩
  ·simp at h2
 ·rintro⟨n,hr⟩
  unfold qjF at hr;unfold qnD;split at hr
  ·simp at hr
  rename_i hlen;rw[if_neg hlen];obtain⟨⟨e,s⟩,h1,h2⟩:=Option.bind_eq_some_iff.1 hr;refine Option.bind_eq_some_iff.2 ⟨(e,s),qaA.2 ⟨n,h1⟩,?_⟩;simp only at h2⊢
  split at h2
  ·rename_i x xr e1 e2
   obtain⟨y,h3,h4⟩:=Option.bind_eq_some_iff.1 h2;obtain⟨q,h5,h6⟩:=Option.map_eq_some_iff.1 h4
   try simp only[e1,e2]
   exact Option.bind_eq_some_iff.2 ⟨y,h3,Option.map_eq_some_iff.2 ⟨q,qhZ (qhQ X n) _ _ _ _ h5,h6⟩⟩
  ·rename_i e1
   obtain⟨q,h5,h6⟩:=Option.bind_eq_some_iff.1 h2
   try simp only[e1]
   exact Option.bind_eq_some_iff.2 ⟨q,qaA.2 ⟨n,h5⟩,h6⟩
  ·rename_i g e1 e2
   obtain⟨q,h5,h6⟩:=Option.bind_eq_some_iff.1 h2
   try simp only[e1,e2]
   exact Option.bind_eq_some_iff.2 ⟨q,qaA.2 ⟨n,h5⟩,h6⟩
  ·simp at h2
theorem qxk(X:XEnv)(f:Nat)(as:List AV)(B:qan)(sf:SFn)(hn:X.nat f=none)(hf:X.env.code f=none)(hs:X.env.spec f=some sf):
 qaf X f as B=(qaC as).bind fun ds=>(qnD X (X.lin f) sf ds).map fun v=>(.d v,B):=by
 refine qc9 fun r=> ?_
 rw[qbN];constructor
 ·rintro⟨n,h⟩
  cases n with
  |zero=>simp[qaV]at h
  |succ n=>
   rw[qaV]at h;simp only[hn,hf,hs]at h;obtain⟨ds,h1,h2⟩:=Option.bind_eq_some_iff.1 h;obtain⟨q,h3,h4⟩:=Option.map_eq_some_iff.1 h2;exact Option.bind_eq_some_iff.2 ⟨ds,h1,Option.map_eq_some_iff.2 ⟨q,qmG.2 ⟨n,h3⟩,h4⟩⟩
 ·intro h
  obtain⟨ds,h1,h2⟩:=Option.bind_eq_some_iff.1 h;obtain⟨q,h3,h4⟩:=Option.map_eq_some_iff.1 h2;obtain⟨n,hk⟩:=qmG.1 h3;refine⟨n+1,?_⟩;rw[qaV];simp only[hn,hf,hs];exact Option.bind_eq_some_iff.2 ⟨ds,h1,Option.map_eq_some_iff.2 ⟨q,hk,h4⟩⟩
theorem qE7{X:XEnv}(hX:XOK X){f:Nat}{xs vs:List DV}(hc:DV.clrs xs=xs)(hf:DV.fits xs vs){d:DV}{B':qan}(hd:d.clr=d)(h:qaf X f (xs.map .d) []=some (.d d,B')):
 ∃u A Bv,qxn X.env [] f (vs.map .d) [] Ids.none=some ⟨.d u,A,Bv⟩/\d.fit u:=by
 obtain⟨n,hn⟩:=qbN.1 h;have h0:AV.fits (xs.map .d) (vs.map .d):=AV.qf5 hf;have hre:∀j,qcg (qak 0 (xs.map AV.d)) (qak 0 (vs.map AV.d)) j=[]:=by
  intro j;rw[qdr];split
  ·rename_i a b ha hb
   have:=AV.qcs ha hb;rw[AV.qgK,<-hc,DV.qdJ]at this;exact List.sublist_nil.1 this
  ·rfl
 have hloc:∀ℓ,qah (qak 0 (xs.map AV.d)) [] (qak 0 (vs.map AV.d)) [] ℓ=[]:=by
  intro ℓ;cases ℓ with
  |reg t=>exact hre t
  |box j=>simp[qah,qbQ,qa6]
 obtain⟨v,Bv,A',h1,h2,_⟩:=qyH hX n f _ _ _ _ hn [] (vs.map .d) [] Ids.none (fun _=>False) h0 ⟨rfl,by simp⟩
  ⟨fun ℓ=>by rw[hloc];simp,fun ℓ ℓ' a ha=>by rw[hloc]at ha;simp at ha,fun ℓ a ha=>by rw[hloc]at ha;simp at ha,fun a ha=>by simp at ha⟩ (fun j _=>hre j) (fun a ha=>by simp[Ids.none]at ha)
 simp only[AV.fit]at h2;obtain⟨y,rfl,h3⟩:=h2;exact⟨y,A',Bv,qnf.2 ⟨n,h1⟩,h3⟩
end Go.Proofs.Ytfiakfiocdfpbaa.VS
namespace Go.Proofs.Ytfiakfiocdfpbaa.VS
open Classical
def qId(b:Option Bool)(c:qaz)(lin:Nat->List Nat)(T:List Nat)(d:Bool)(L:Nat)(o:VOper)(os:List VOper)(s:XS):Option XS:=
 match b with
 |some true=>(xOp c lin T d L o s).bind (qct c lin T d L os)
 |some false=>qct c lin T d L os (qbs T s o.dst .und)
 |none=>none
def qLB(r:Option XS)(c:qaz)(lin:Nat->List Nat)(T:List Nat)(d:Bool)(L:Nat)(os:List VOper):Option XS:=r.bind (qct c lin T d L os)
def qdD(live:List Nat)(r:Option XS):Option (Ex×XS):=r.map fun s'=>(.normal,⟨keep s'.r live,s'.B⟩)
def qtn(id:Nat)(r:Option (Ex×XS)):Option (Ex×XS):=r.map fun r=>if r.1= .exit id then(.normal,r.2)else r
noncomputable def qIj(v:Option AV)(X:XEnv)(T:List Nat)(a b:VCode)(s:XS):Option (Ex×XS):=
 match v with
 |some (.d (.bool true))=>qau X T a s
 |some (.d (.bool false))=>qau X T b s
 |_=>none
def qLC(L:Nat)(rs:List VRes)(r:Option (Ex×XS)):Option (AV×qan):=
 r.bind fun r=>match r.1 with
  | .exit _=>none
  |_=>qcC L r.2 rs
def qkd(T:List Nat)(s:XS)(dst:Option Nat)(v:Option AV):Option XS:=v.map fun v=>qbs T s dst v
def qeA(T:List Nat)(s:XS)(dst:Option Nat)(v:Option AV):Option XS:=v.map fun v=>qbs T s dst v.clr
def qDg(T:List Nat)(s:XS)(dst:Option Nat)(v:Option DV):Option XS:=v.map fun v=>qbs T s dst (.d v)
def qH3(T:List Nat)(s:XS)(dst:Option Nat)(B:Option qan):Option XS:=B.map fun B=>qbs T ⟨s.r,B⟩ dst .und
def qSR(T:List Nat)(dst:Option Nat)(s:XS)(v:Option (List DV)):Option XS:=v.map fun xs=>qbs T s dst (.d (.sl U xs))
def qLz(T:List Nat)(dst:Option Nat)(s:XS)(a b:VX)(v:Option AV):Option XS:=
 match v with
 |some (.d (.bool true))=>(qbT s.r a).map fun v=>qbs T (qd5 T dst s [a]) dst v
 |some (.d (.bool false))=>(qbT s.r b).map fun v=>qbs T (qd5 T dst s [b]) dst v
 |_=>none
def qSU(T:List Nat)(dst:Option Nat)(sz bytes:Nat)(x y:VX)(s:XS)(v w:Option AV):Option XS:=
 match v,w with
 |some (.d v),some (.d w)=>(qaS sz bytes v w).map fun u=>qbs T ⟨qbD T s.r (if qce T dst then [x,y]else [x]),s.B⟩ dst (.d u)
 |_,_=>none
def qST(T:List Nat)(L:Nat)(dst:Option Nat)(k:Nat)(x:VX)(s:XS)(v:Option AV):Option XS:=
 v.bind fun v=>if qb6 s.B (L+k)/\v.cells.all AV.isCell/\v.safe (L+k)then some (qbs T ⟨qeW T s.r x,s.B.set (L+k) (some v.cells)⟩ dst (.ptr (L+k) 0))else none
def qQe(T:List Nat)(dst:Option Nat)(sz n:Nat)(g:Tag)(xs:List DV)(k:Nat)(s:XS)(e:Option DV):Option XS:=
 e.bind fun e=>if e.cells.length=sz/\sz≠0 then some (qbs T (if T.contains n then⟨(n,.d (.sl g (xs.set k e.clr)))::s.r,s.B⟩else s) dst (.ep e.cells))else none
def xTk(T:List Nat)(dst:Option Nat)(sz n:Nat)(s:XS)(v w:Option AV):Option XS:=
 match v,w with
 |some (.d (.sl g xs)),some (.d (.int _ k))=>if 0<=k then qQe T dst sz n g xs k.toNat s (xs[k.toNat]?)else none
 |_,_=>none
def qD1(T:List Nat)(d:Bool)(L:Nat)(dst:Option Nat)(agg:Bool)(sz:Nat)(x:VX)(s:XS)(a:Option AV):Option XS:=
 match a with
 |some (.ep cs)=>(cut agg sz cs).map fun v=>qbs T (qd5 T dst s [x]) dst (.d v)
 |some (.ptr b off)=>if d/\L<=b then none else(qae s.B agg sz b off).map fun v=>qbs T (if qce T dst then⟨s.r,qcy s.B b off (if agg then sz else 1)⟩else s) dst v
 |_=>none
def qF2(T:List Nat)(d:Bool)(L:Nat)(dst:Option Nat)(init:Bool)(sz:Nat)(x:VX)(s:XS)(a v:Option AV):Option XS:=
 match a,v with
 |some (.ptr b off),some v=>if qbI d init L b then none else(qbx s.B sz b off v).map fun B=>qbs T ⟨qeW T s.r x,B⟩ dst .und
 |_,_=>none
def qyM(T:List Nat)(d:Bool)(L:Nat)(dst:Option Nat)(sz:Nat)(x:VX)(av:List Nat)(s:XS)(a v:Option AV):Option XS:=
 match a,v with
 |some (.ptr b off),some v=>if qbI d false L b|| !qc8 s.r b av then none else(qbx s.B sz b off v).map fun B=>qbs T ⟨qeW T s.r x,B⟩ dst .und
 |_,_=>none
def qTA(b:Nat):Option AV->Bool
 |some (.ptr b' _)=>b' !=b
 |_=>false
theorem qwL(r:List (Nat×AV))(b:Nat):qc8 r b []=true:=_root_.id rfl
theorem qsU(r:List (Nat×AV))(b t:Nat)(av:List Nat):qc8 r b (t::av)=(qTA b (lk r t)&&qc8 r b av):=by
 unfold qc8;simp only[List.all_cons];congr 1
theorem qFm(b b' off:Nat):qTA b (some (.ptr b' off))=(b' !=b):=_root_.id rfl
def qLD(T:List Nat)(dst:Option Nat)(n i:Nat)(s:XS)(v:Option AV):Option XS:=
 match v with
 |some (.ag true vs)=>(vs[i]?).map fun v=>qbs T s dst v.clr
 |some (.d (.tup vs))=>(vs[i]?).map fun v=>qbs T (if qce T dst&&T.contains n then⟨(n,.d (.tup (vs.set i v.clr)))::s.r,s.B⟩else s) dst (.d v)
 |_=>none
def xMk(T:List Nat)(d:Bool)(L:Nat)(dst:Option Nat)(k sz bytes:Nat)(z:DV)(s:XS)(v:Option AV):Option XS:=
 match v with
 |some (.d (.int _ n))=>
  if d=false/\qb6 s.B (L+k)/\0<=n/\n.toNat*bytes<=140737488355328/\n<9223372036854775808/\z.cells.length=sz/\z.cells.all DV.isCell then
   some (qbs T ⟨s.r,s.B.set (L+k) (some (((List.replicate n.toNat z.cn).flatMap DV.cells).map .d))⟩ dst (.bsl [] (isAgg z) (L+k) sz n.toNat))else none
 |_=>none
def qOZ(c:qaz)(T:List Nat)(dst:Option Nat)(s:XS)(f:Option AV)(vs:Option (List AV)):Option XS:=
 match f,vs with
 |some (.fn k caps),some vs=>
  match qaC vs,caps with
  |some _,[]=>
   match c k (qb1 [] 0 vs) []with
   |some (.d v,_)=>some (qbs T s dst (.d v))
   |_=>none
  |_,_=>none
 |_,_=>none
def qIf(T:List Nat)(dst:Option Nat)(s:XS)(ds:Option (List DV))(r:Option (AV×qan)):Option XS:=
 match ds with
 |some _=>
  match r with
  |some (.d v,_)=>some (qbs T s dst (.d v))
  |_=>none
 |none=>none
def xN2(T:List Nat)(dst:Option Nat)(s:XS)(xs:List VX)(b:Bool)(r:Option (AV×qan)):Option XS:=
 if b then
  match r with
  |some (v,B)=>some (qbs T ⟨qbD T s.r xs,B⟩ dst v)
  |none=>none
 else none
def xN(c:qaz)(lin:Nat->List Nat)(T:List Nat)(dst:Option Nat)(s:XS)(args:List VX)(f:Option AV)(vs:Option (List AV)):Option XS:=
 match f,vs with
 |some (.fn k caps),some vs=>xN2 T dst s (qa8 (lin k) 0 args) (qas T (qa8 (lin k) 0 args)) (c k (qb1 (lin k) 0 vs++caps) s.B)
 |_,_=>none
def xT2(T:List Nat)(dst:Option Nat)(thaw:Bool)(s:XS)(r:Option (AV×qan)):Option XS:=
 match r with
 |some (.d v,_)=>qeX T thaw s dst v
 |_=>none
def xT1(c:qaz)(T:List Nat)(dst:Option Nat)(thaw:Bool)(s:XS)(k:Nat)(ds:Option (List DV)):Option XS:=ds.bind fun ds=>xT2 T dst thaw s (c k (qb1 [] 0 (ds.map .d)) [])
def xT(c:qaz)(T:List Nat)(d:Bool)(dst:Option Nat)(thaw:Bool)(s:XS)(f:Option AV)(vs:Option (List AV)):Option XS:=
 match f,vs with
 |some (.fn k []),some vs=>if d=false\/thaw=false then xT1 c T dst thaw s k (qem (AV.frz s.B) vs)else none
 |_,_=>none
def qTz(d:Option DV)(ds:Option (List DV)):Option (List DV):=d.bind fun d=>ds.map (d::·)
def qCe(v:Option AV)(vs:Option (List AV)):Option (List AV):=match v,vs with|some v,some vs=>some (v::vs)|_,_=>none
def qKg(v:DV)(vs:Option (List DV)):Option (List DV):=vs.map (v::·)
def dO(a:Option DV):Option AV:=a.map .d
def qO2(v:Option AV):Option AV:=match v with|some (.ptr i o)=>some (.ptr i o)|some (.ep cs)=>some (.ep cs)|some (.fn f c)=>some (.fn f c)|_=>none
def qTD(op:BinOp)(x y:Option AV):Option AV:=match x,y with|some (.d a),some (.d b)=>(qbG op a b).map .d|_,_=>none
def qBT(neg:Bool)(ks:List Nat)(x y:Option AV):Option AV:=match x,y with|some (.d (.agg a)),some (.d (.agg b))=>(qbv ks a b).map fun e=> .d (.bool (if neg then !e else e))|_,_=>none
def qTC(neg:Bool)(x y:Option AV):Option AV:=match x,y with|some (.d (.bool a)),some (.d (.bool b))=>some (.d (.bool (if neg then !(a==b)else(a==b))))|_,_=>none
def qTB(x:Option AV):Option AV:=match x with|some (.d (.bool b))=>some (.d (.bool !b))|_=>none
def qOy(k:IntKind)(x:Option AV):Option AV:=match x with|some (.d (.int _ n))=>some (.d (.int k (k.wrap n)))|_=>none
def qOx(x:Option AV):Option AV:=match x with|some (.d (.int _ n))=>some (.d (.str (Utf8.encode n)))|_=>none
def qHw(x:Option AV):Option AV:=match x with|some (.d (.sl _ xs))=>(bytesOf xs).map fun bs=> .d (.str ⟨bs.toArray⟩)|_=>none
def qHv(x i:Option AV):Option AV:=match x,i with|some (.d (.str s)),some (.d (.int _ n))=>if 0<=n then(qlZ s n.toNat).map fun b=> .d (.int .u8 b)else none|_,_=>none
def qBV(sz:Nat)(x i:Option AV):Option AV:=
 match x,i with
 |some (.d (.sl _ xs)),some (.d (.int _ n))=>if 0<=n then(xs[n.toNat]?).bind fun e=>if e.cells.length=sz/\sz≠0 then some (.ep e.cells)else none else none
 |some (.bsl _ _ b sz' m),some (.d (.int _ n))=>if sz'=sz/\0<=n/\n<m then some (.ptr b (n.toNat*sz))else none
 |some (.tsl _ b sz' m),some (.d (.int _ n))=>if sz'=sz/\0<=n/\n<m then some (.ptr b (n.toNat*sz))else none
 |_,_=>none
def qKb(sz:Nat)(e:Option DV):Option AV:=e.bind fun e=>if e.cells.length=sz/\sz≠0 then some (.ep e.cells)else none
def qR7(sz m:Nat)(x i:Option AV):Option AV:=
 match x,i with
 |some (.ptr b o),some (.d (.int _ n))=>if 0<=n/\n<m then some (.ptr b (o+n.toNat*sz))else none
 |some (.ep cs),some (.d (.int _ n))=>if 0<=n/\n<m/\n.toNat*sz<=cs.length then some (.ep (cs.drop (n.toNat*sz)))else none
 |_,_=>none
def qBS(off:Nat)(x:Option AV):Option AV:=match x with|some (.ptr b o)=>some (.ptr b (o+off))|some (.ep cs)=>if off<=cs.length then some (.ep (cs.drop off))else none|_=>none
def qK5(str:Bool)(x:Option AV):Option AV:=
 match str,x with
 |true,some (.d (.str s))=>some (.d (.int .i64 s.size))
 |false,some (.d (.sl _ xs))=>some (.d (.int .i64 xs.length))
 |false,some (.bsl _ _ _ _ n)=>some (.d (.int .i64 n))
 |false,some (.tsl _ _ _ n)=>some (.d (.int .i64 n))
 |_,_=>none
def qR6(x y:Option AV):Option AV:=match x,y with|some (.d (.int k a)),some (.d (.int k' b))=>if k=k' then some (.d (.int k (if b>a then b else a)))else none|_,_=>none
def quV(str:Bool)(sz:Nat)(x:Option AV)(lo hi:Option (Option AV)):Option AV:=
 match str,x,lo,hi with
 |true,some (.d (.str s)),some lo,some hi=>(qbW s.size hi).bind fun h=>(qbV h lo).map fun l=> .d (.str (s.extract l h))
 |false,some (.d (.sl g xs)),some lo,some hi=>if xs.all (fun e=>e.cells.length=sz)then(qbW xs.length hi).bind fun h=>(qbV h lo).map fun l=> .d (.sl (if g= .nil then .nil else .sub) ((xs.take h).drop l))else none
 |_,_,_,_=>none
def qBU(g:VX->Option AV)(cs:List DV)(off size:Nat)(r:List (Nat×Nat×VX))(v:Option AV):Option (List DV):=
 match v with
 |some (.d v)=>if v.cells.length=size/\off+size<=cs.length/\v.cells.all DV.isCell then qaJ g (splice cs off v.cells) r else none
 |_=>none
def qR5(g:VX->Option AV)(sz:Nat)(cs:List DV)(i:Nat)(r:List (Nat×VX))(v:Option AV):Option (List DV):=
 match v with
 |some (.d v)=>if v.cells.length=sz/\i<cs.length/\v.cells.all DV.isCell then qay g sz (cs.set i v) r else none
 |_=>none
def qQf(T:List Nat)(dst:Option Nat)(s:XS)(b:Nat)(q:Option (AV×qan)):Option XS:=
 match q with
 |some (.d v,[some cs'])=>(qaC cs').map fun _=>qbs T ⟨s.r,s.B.set b (some (AV.clrs cs'))⟩ dst (.d v)
 |_=>none
def xCS(c:qaz)(T:List Nat)(dst:Option Nat)(s:XS)(f:Option AV)(as:Option (List AV))(q:Option AV):Option XS:=
 match f,as,q with
 |some (.fn k []),some (.ptr b off::vs),some (.ptr b' _)=>if b≠b' then none else(qaC vs).bind fun _=>(qa6 s.B b).bind fun cs=>(qaC cs).bind fun _=>qQf T dst s b (c k (.ptr 0 off::qb1 [] 0 vs) [some (AV.clrs cs)])
 |_,_,_=>none
def qF3(T:List Nat)(d:Bool)(L:Nat)(dst:Option Nat)(agg:Bool)(sz:Nat)(s:XS)(a q:Option AV):Option XS:=
 match a,q with
 |some (.ptr b off),some (.ptr b' _)=>if b=b'\/(d/\L<=b)then none else qkd T (if qce T dst then⟨s.r,qcy s.B b off (if agg then sz else 1)⟩else s) dst (qae s.B agg sz b off)
 |_,_=>none
def xTl(c:qaz)(lin:Nat->List Nat)(T:List Nat)(L:Nat)(live:List Nat)(tl:List VOper)(o:Option XS):Option (Ex×XS):=
 match o with
 |some s=>qdD live (qct c lin T false L tl s)
 |none=>none
theorem qSQ(c:qaz)(lin:Nat->List Nat)(T:List Nat)(L:Nat)(live:List Nat)(tl:List VOper)(s:XS):xTl c lin T L live tl (some s)=qdD live (qct c lin T false L tl s):=_root_.id rfl
theorem qxH(X:XEnv)(T:List Nat)(na:Nat)(live:List Nat)(pre tl:List VOper)(h:qfs pre=true)(r:List (Nat×AV))(B:qan):
 qau X T (.regionT na live pre tl) ⟨r,B⟩=xTl (qaf X) X.lin T B.length live tl (qct (qaf X) X.lin T true B.length pre ⟨r,B++List.replicate na none⟩):=by
 rw[qoJ];unfold qdC;rw[if_neg (by rw[h];simp)];simp only;cases qct (qaf X) X.lin T true B.length pre ⟨r,B++List.replicate na none⟩with
 |none=>rfl
 |some s=>
  simp only[Option.bind_some,qSQ];cases qct (qaf X) X.lin T false B.length tl s<;>rfl
def qSV(T:List Nat)(d:Bool)(dst:Option Nat)(sz bytes:Nat)(x v:VX)(t9:Nat)(s:XS)(a b c e:Option AV):Option XS:=
 match a,b,c,e with
 |some (.d (.sl g xs)),some (.d (.sl _ [z])),some (.d (.int _ n)),some (.d w)=>
  if d=false/\n=xs.length/\z.cells.length=sz/\z.cells.all DV.isCell=true/\w.cells.length=sz/\w.cells.all DV.isCell=true/\lk s.r t9=none then
   (qaS sz bytes (.sl g xs) (.sl .sub [w])).map fun u=>qbs T ⟨qbD T s.r (if qce T dst then [x,v]else [x]),s.B⟩ dst (.d u)
  else none
 |_,_,_,_=>none
theorem qPW(c:qaz)(lin:Nat->List Nat)(T:List Nat)(d:Bool)(L:Nat)(o:VOper)(os:List VOper)(s:XS):qct c lin T d L (o::os) s=qId (qcH s.r o.guard) c lin T d L o os s:=_root_.id rfl
theorem qPY(c:qaz)(lin:Nat->List Nat)(T:List Nat)(d:Bool)(L:Nat)(s:XS):qct c lin T d L [] s=some s:=_root_.id rfl
theorem qLc(c:qaz)(lin:Nat->List Nat)(T:List Nat)(d:Bool)(L:Nat)(o:VOper)(os:List VOper)(s:XS):qId (some true) c lin T d L o os s=qLB (xOp c lin T d L o s) c lin T d L os:=_root_.id rfl
theorem qHQ(c:qaz)(lin:Nat->List Nat)(T:List Nat)(d:Bool)(L:Nat)(o:VOper)(os:List VOper)(s:XS):qId (some false) c lin T d L o os s=qct c lin T d L os (qbs T s o.dst .und):=_root_.id rfl
theorem qLg(s:XS)(c:qaz)(lin:Nat->List Nat)(T:List Nat)(d:Bool)(L:Nat)(os:List VOper):qLB (some s) c lin T d L os=qct c lin T d L os s:=_root_.id rfl
theorem qC8(X:XEnv)(T:List Nat)(na:Nat)(live:List Nat)(ops:List VOper)(r:List (Nat×AV))(B:qan):
 qau X T (.region false na live ops) ⟨r,B⟩=qdD live (qct (qaf X) X.lin T false B.length ops ⟨r,B++List.replicate na none⟩):=by
 rw[qjw];simp[qdQ,qdD,Function.comp_def]
theorem qa1(X:XEnv)(T:List Nat)(na:Nat)(live:List Nat)(ops:List VOper)(h:qfs ops=true)(r:List (Nat×AV))(B:qan):
 qau X T (.region true na live ops) ⟨r,B⟩=qdD live (qct (qaf X) X.lin T true B.length ops ⟨r,B++List.replicate na none⟩):=by
 rw[qjw];simp[qdQ,qdD,Function.comp_def,h]
theorem qP3(live:List Nat)(r:List (Nat×AV))(B:qan):qdD live (some ⟨r,B⟩)=some (.normal,⟨keep r live,B⟩):=_root_.id rfl
theorem qxL(X:XEnv)(T:List Nat)(id:Nat)(c:VCode)(s:XS):qau X T (.block id c) s=qtn id (qau X T c s):=qs8 X T id c s
theorem qxG(id:Nat)(e:Ex)(s:XS):qtn id (some (e,s))=some (if e= .exit id then(.normal,s)else(e,s)):=_root_.id rfl
theorem qLm(X:XEnv)(T:List Nat)(x:VX)(a b:VCode)(s:XS):qau X T (.cond x a b) s=qIj (qbT s.r x) X T a b s:=by rw[qw7];rfl
theorem qHT(X:XEnv)(T:List Nat)(a b:VCode)(s:XS):qIj (some (.d (.bool true))) X T a b s=qau X T a s:=_root_.id rfl
theorem qC9(X:XEnv)(T:List Nat)(a b:VCode)(s:XS):qIj (some (.d (.bool false))) X T a b s=qau X T b s:=_root_.id rfl
theorem qap(X:XEnv)(f:Nat)(as:List AV)(B:qan)(vf:VFn)(hn:X.nat f=none)(hf:X.env.code f=some vf)(hnp:as.length=vf.np)(hb:X.env.base f=none:=by first|rfl|assumption):
 qaf X f as B=qLC B.length vf.results (qau X (X.lin f) vf.code ⟨qak 0 as,B⟩):=qxl X f as B vf hn hf hb hnp
theorem qxK(X:XEnv)(f:Nat)(as:List AV)(B:qan)(vf:VFn)(hn:X.nat f=none)(hf:X.env.code f=some vf)(hnp:as.length=vf.np){m:Nat}(hb:X.env.base f=some m)(hm:B.length=m):
 qaf X f as B=qLC B.length vf.results (qau X (X.lin f) vf.code ⟨qak 0 (AV.clrs as),qgs B⟩):=qxm X f as B vf hn hf hb hm hnp
theorem qrx(X:XEnv)(T:List Nat)(x:Gho)(c:VCode)(s:XS):qau X T (.ghost x c) s=(qrt x s).bind (qau X T c):=qs7 X T x c s
theorem qPU(L:Nat)(rs:List VRes)(s:XS):qLC L rs (some (.ret,s))=qcC L s rs:=_root_.id rfl
theorem qLf(L:Nat)(rs:List VRes)(s:XS):qLC L rs (some (.normal,s))=qcC L s rs:=_root_.id rfl
theorem qiI(s:XS)(k:XS->Option (Ex×XS)):qo6 (some (.normal,s)) k=k s:=_root_.id rfl
theorem qo5(s:XS)(k:XS->Option (Ex×XS)):qo6 (some (.ret,s)) k=some (.ret,s):=_root_.id rfl
theorem qvt(id:Nat)(s:XS)(k:XS->Option (Ex×XS)):qo6 (some (.exit id,s)) k=some (.exit id,s):=_root_.id rfl
section
variable (c:qaz) (lin:Nat->List Nat) (T:List Nat) (d:Bool) (L:Nat) (dst:Option Nat) (g:Option (Nat×Bool)) (af:List Nat) (s:XS)
theorem qLh(x:VX):xOp c lin T d L ⟨dst,.move x,g,af⟩ s=qkd T (qd5 T dst s [x]) dst (qbT s.r x):=_root_.id rfl
theorem qHW(z:List DV)(ps:List (Nat×Nat×VX)):xOp c lin T d L ⟨dst,.build z ps,g,af⟩ s=qkd T (qd5 T dst s (ps.map fun q=>q.2.2)) dst ((qaJ (qbT s.r) (z.map DV.cn1) ps).map fun cs=> .d (.agg cs)):=by
 simp only[xOp,qkd,Option.map_map];rfl
theorem qvj(x:VX):xOp c lin T d L ⟨dst,.nilCheck x,g,af⟩ s=qeA T s dst (evP s.r (.nilCheck x)):=_root_.id rfl
theorem qP5(op:BinOp)(x y:VX):xOp c lin T d L ⟨dst,.bin op x y,g,af⟩ s=qeA T s dst (evP s.r (.bin op x y)):=_root_.id rfl
theorem qHR(neg:Bool)(ks:List Nat)(x y:VX):xOp c lin T d L ⟨dst,.eqAgg neg ks x y,g,af⟩ s=qeA T s dst (evP s.r (.eqAgg neg ks x y)):=_root_.id rfl
theorem qP2(neg:Bool)(x y:VX):xOp c lin T d L ⟨dst,.eqB neg x y,g,af⟩ s=qeA T s dst (evP s.r (.eqB neg x y)):=_root_.id rfl
theorem qPX(x:VX):xOp c lin T d L ⟨dst,.not x,g,af⟩ s=qeA T s dst (evP s.r (.not x)):=_root_.id rfl
theorem qLl(k:Conv)(x:VX):xOp c lin T d L ⟨dst,.conv k x,g,af⟩ s=qeA T s dst (evP s.r (.conv k x)):=_root_.id rfl
theorem qHP(x y:VX):xOp c lin T d L ⟨dst,.index x y,g,af⟩ s=qeA T s dst (evP s.r (.index x y)):=_root_.id rfl
theorem qrw(sz:Nat)(n:Nat)(y:VX):xOp c lin T d L ⟨dst,.indexAddr sz none (.t n) y,g,af⟩ s=if qce T dst then xTk T dst sz n s (lk s.r n) (qbT s.r y)else qeA T s dst (evP s.r (.indexAddr sz none (.t n) y)):=by
 simp only[xOp,qeB];cases hl:qce T dst with
 |true=>rfl
 |false=>rfl
theorem qoV(sz m:Nat)(x y:VX):xOp c lin T d L ⟨dst,.indexAddr sz (some m) x y,g,af⟩ s=qeA T s dst (evP s.r (.indexAddr sz (some m) x y)):=by
 simp only[xOp,qeB];cases hl:qce T dst<;>cases x<;>rfl
theorem qoU(sz:Nat)(v:AV)(y:VX):xOp c lin T d L ⟨dst,.indexAddr sz none (.c v) y,g,af⟩ s=qeA T s dst (evP s.r (.indexAddr sz none (.c v) y)):=by
 simp only[xOp,qeB];cases hl:qce T dst<;>rfl
theorem qry(off:Nat)(x:VX):xOp c lin T d L ⟨dst,.fieldAddr off x,g,af⟩ s=qeA T s dst (evP s.r (.fieldAddr off x)):=_root_.id rfl
theorem qHM(str:Bool)(sz:Nat)(x:VX)(lo hi:Option VX):xOp c lin T d L ⟨dst,.slice str sz x lo hi,g,af⟩ s=qeA T s dst (evP s.r (.slice str sz x lo hi)):=_root_.id rfl
theorem qvk(f:Nat)(cs:List VX):xOp c lin T d L ⟨dst,.makeFunc f cs,g,af⟩ s=qeA T s dst (evP s.r (.makeFunc f cs)):=_root_.id rfl
theorem qP0(str:Bool)(x:VX):xOp c lin T d L ⟨dst,.len str x,g,af⟩ s=qeA T s dst (evP s.r (.len str x)):=_root_.id rfl
theorem qPZ(x y:VX):xOp c lin T d L ⟨dst,.max x y,g,af⟩ s=qeA T s dst (evP s.r (.max x y)):=_root_.id rfl
theorem qLd(v:AV):qeA T s dst (some v)=some (qbs T s dst v.clr):=_root_.id rfl
theorem qPV(v:AV):qkd T s dst (some v)=some (qbs T s dst v):=_root_.id rfl
theorem qLb(r:List (Nat×AV))(B:qan)(n:Nat)(v:AV):qbs T ⟨r,B⟩ (some n) v=⟨(n,if T.contains n then v else v.clr)::r,B⟩:=_root_.id rfl
theorem qru(v:AV):qbs T s none v=s:=_root_.id rfl
theorem qLj(r:List (Nat×AV))(B:qan)(xs:List VX):qd5 T dst ⟨r,B⟩ xs=if qce T dst then⟨qbD T r xs,B⟩else⟨r,B⟩:=_root_.id rfl
theorem qHX(k:Nat)(z:List DV):xOp c lin T d L ⟨dst,.alloc k z,g,af⟩ s=if qb6 s.B (L+k)/\z.all DV.isCell then some (qbs T ⟨s.r,s.B.set (L+k) (some (z.map fun z=> .d z.cn1))⟩ dst (.ptr (L+k) 0))else none:=_root_.id rfl
theorem qDb(z:List DV):xOp c lin T d L ⟨dst,.allocE z,g,af⟩ s=if d=false/\z.all DV.isCell then some (qbs T ⟨s.r,s.B++[some (z.map fun z=>AV.d z.cn1)]⟩ dst (.ptr s.B.length 0))else none:=_root_.id rfl
theorem qLe(x a b:VX):xOp c lin T d L ⟨dst,.pick x a b,g,af⟩ s=qLz T dst s a b (qbT s.r x):=_root_.id rfl
theorem qDa(sz bytes:Nat)(x y:VX):xOp c lin T d L ⟨dst,.append sz bytes x y,g,af⟩ s=qSU T dst sz bytes x y s (qbT s.r x) (qbT s.r y):=_root_.id rfl
theorem qP4(k:Nat)(x:VX):xOp c lin T d L ⟨dst,.box k x,g,af⟩ s=qST T L dst k x s (qbT s.r x):=_root_.id rfl
theorem qLi(agg:Bool)(sz:Nat)(a:VX):xOp c lin T d L ⟨dst,.load agg sz a,g,af⟩ s=qD1 T d L dst agg sz a s (qbT s.r a):=_root_.id rfl
theorem qC7(sz:Nat)(a x:VX)(av:List Nat):xOp c lin T d L ⟨dst,.storeN sz a x av,g,af⟩ s=qyM T d L dst sz x av s (qbT s.r a) (qbT s.r x):=_root_.id rfl
theorem qHL(init:Bool)(sz:Nat)(a x:VX):xOp c lin T d L ⟨dst,.store init sz a x,g,af⟩ s=qF2 T d L dst init sz x s (qbT s.r a) (qbT s.r x):=_root_.id rfl
theorem qxJ(n i:Nat):xOp c lin T d L ⟨dst,.extract (.t n) i,g,af⟩ s=qLD T dst n i s (lk s.r n):=_root_.id rfl
theorem qrv(k sz bytes:Nat)(z:DV)(x:VX):xOp c lin T d L ⟨dst,.makeSlice k sz bytes z x,g,af⟩ s=xMk T d L dst k sz bytes z s (qbT s.r x):=_root_.id rfl
theorem qoW(sz:Nat)(z:DV)(len:Nat)(ps:List (Nat×VX)):xOp c lin T d L ⟨dst,.buildSlice sz z len ps,g,af⟩ s=if z.cells.length=sz/\z.cells.all DV.isCell/\len*sz<=16777216/\len<=16777216 then qSR T dst (qd5 T dst s (ps.map fun q=>q.2)) (qay (qbT s.r) sz (List.replicate len z.cn) ps)else none:=_root_.id rfl
theorem qP1(f:VX)(args:List VX):xOp c lin T d L ⟨dst,.call true f args,g,af⟩ s=qOZ c T dst s (qbT s.r f) (qeU s.r args):=by
 simp only[xOp,qOZ,if_true]<;>rfl
theorem qHN(f:VX)(args:List VX):xOp c lin T d L ⟨dst,.call false f args,g,af⟩ s=xN c lin T dst s args (qbT s.r f) (qeU s.r args):=by
 simp only[xOp,xN,xN2,Bool.false_eq_true,if_false]<;>rfl
theorem qHU(th:Bool)(f:VX)(args:List VX):xOp c lin T d L ⟨dst,.callT th f args,g,af⟩ s=xT c T d dst th s (qbT s.r f) (qeU s.r args):=by
 simp only[xOp,xT,xT1];cases h1:qbT s.r f with
 |none=>rfl
 |some a=>
  cases a with
  |fn k caps=>
   cases caps with
   |nil=>
    cases h2:qeU s.r args with
    |none=>rfl
    |some vs=>
     simp only;split
     ·cases qem (AV.frz s.B) vs with
      |none=>rfl
      |some ds=>
       show(match c k (qb1 [] 0 (ds.map .d)) []with|some (.d v,_)=>qeX T th s dst v|_=>none)=xT2 T dst th s (c k (qb1 [] 0 (ds.map .d)) []);generalize c k (qb1 [] 0 (ds.map .d)) []=q;cases q with
       |none=>rfl
       |some q=>obtain⟨v,B⟩:=q;cases v<;>rfl
     ·rfl
   |cons _ _=>cases qeU s.r args<;>rfl
  |_=>cases qeU s.r args<;>rfl
theorem qxM(sz bytes:Nat)(x y ix v:VX)(t9:Nat):xOp c lin T d L ⟨dst,.append1 sz bytes x y ix v t9,g,af⟩ s=qSV T d dst sz bytes x v t9 s (qbT s.r x) (qbT s.r y) (qbT s.r ix) (qbT s.r v):=_root_.id rfl
theorem qQo(sz bytes:Nat)(x v:VX)(t9:Nat)(gg gy:Tag)(xs:List DV)(z w:DV)(k:IntKind)(n:Int):qSV T d dst sz bytes x v t9 s (some (.d (.sl gg xs))) (some (.d (.sl gy [z]))) (some (.d (.int k n))) (some (.d w))=
 if d=false/\n=xs.length/\z.cells.length=sz/\z.cells.all DV.isCell=true/\w.cells.length=sz/\w.cells.all DV.isCell=true/\lk s.r t9=none then
  (qaS sz bytes (.sl gg xs) (.sl .sub [w])).map fun u=>qbs T ⟨qbD T s.r (if qce T dst then [x,v]else [x]),s.B⟩ dst (.d u)
 else none:=_root_.id rfl
theorem qHV(cc:Nat)(f:VX)(args:List VX):xOp c lin T d L ⟨dst,.callS cc f args,g,af⟩ s=xCS c T dst s (qbT s.r f) (qeU s.r args) (lk s.r cc):=_root_.id rfl
theorem qHO(agg:Bool)(sz:Nat)(a:VX)(cc:Nat):xOp c lin T d L ⟨dst,.loadS agg sz a cc,g,af⟩ s=qF3 T d L dst agg sz s (qbT s.r a) (lk s.r cc):=_root_.id rfl
theorem qTU(k b off o':Nat)(vs:List AV):xCS c T dst s (some (.fn k [])) (some (.ptr b off::vs)) (some (.ptr b o'))=(qaC vs).bind fun _=>(qa6 s.B b).bind fun cs=>(qaC cs).bind fun _=>qQf T dst s b (c k (.ptr 0 off::qb1 [] 0 vs) [some (AV.clrs cs)]):=by simp only[xCS,ne_eq,not_true_eq_false,if_false]
theorem qQp(r:List (Nat×AV))(B:qan)(b:Nat)(v:DV)(cs:List AV):qQf T dst ⟨r,B⟩ b (some (.d v,[some cs]))=(qaC cs).map fun _=>qbs T ⟨r,B.set b (some (AV.clrs cs))⟩ dst (.d v):=_root_.id rfl
theorem qIm(agg:Bool)(sz b off b' o':Nat):qF3 T d L dst agg sz s (some (.ptr b off)) (some (.ptr b' o'))=if b=b'\/(d/\L<=b)then none else qkd T (if qce T dst then⟨s.r,qcy s.B b off (if agg then sz else 1)⟩else s) dst (qae s.B agg sz b off):=_root_.id rfl
theorem w_T(k:Nat)(th:Bool)(vs:List AV):xT c T false dst th s (some (.fn k [])) (some vs)=xT1 c T dst th s k (qem (AV.frz s.B) vs):=by simp only[xT,true_or,if_true]
theorem qTR(k:Nat)(vs:List AV):xT c T true dst false s (some (.fn k [])) (some vs)=xT1 c T dst false s k (qem (AV.frz s.B) vs):=by simp only[xT,or_true,if_true]
theorem qTT(k:Nat)(th:Bool)(ds:List DV):xT1 c T dst th s k (some ds)=xT2 T dst th s (c k (qb1 [] 0 (ds.map .d)) []):=_root_.id rfl
theorem qTS(th:Bool)(v:DV)(B:qan):xT2 T dst th s (some (.d v,B))=qeX T th s dst v:=_root_.id rfl
theorem qLN(v:DV):qeX T false s dst v=if v.allUT then some (qbs T s dst (.d v))else none:=by simp[qeX]
theorem qLM(r:List (Nat×AV))(B:qan)(v:DV):qeX T true ⟨r,B⟩ dst v=if v.allUT then some (qbs T ⟨r,B++(v.clr.thaw B.length).2⟩ dst (v.clr.thaw B.length).1)else none:=by simp[qeX]
theorem qLI(a b:VX)(v:Bool):qLz T dst s a b (some (.d (.bool v)))=if v then qkd T (qd5 T dst s [a]) dst (qbT s.r a)else qkd T (qd5 T dst s [b]) dst (qbT s.r b):=by cases v<;>rfl
theorem qQn(sz bytes:Nat)(x y:VX)(v w:DV):qSU T dst sz bytes x y s (some (.d v)) (some (.d w))=qDg T ⟨qbD T s.r (if qce T dst then [x,y]else [x]),s.B⟩ dst (qaS sz bytes v w):=_root_.id rfl
theorem qQm(k:Nat)(x:VX)(v:AV):qST T L dst k x s (some v)=if qb6 s.B (L+k)/\v.cells.all AV.isCell/\v.safe (L+k)then some (qbs T ⟨qeW T s.r x,s.B.set (L+k) (some v.cells)⟩ dst (.ptr (L+k) 0))else none:=_root_.id rfl
theorem qyP(agg:Bool)(sz:Nat)(x:VX)(cs:List DV):qD1 T d L dst agg sz x s (some (.ep cs))=if qce T dst then qkd T (qd5 T dst s [x]) dst ((cut agg sz cs).map .d)else qeA T s dst ((cut agg sz cs).map .d):=by
 simp only[qD1,qeA,qkd,Option.map_map];cases hl:qce T dst with
 |true=>rfl
 |false=>
  simp only[Bool.false_eq_true,if_false];cases cut agg sz cs with
  |none=>rfl
  |some v=>
   simp only[Option.map_some,Function.comp,qd5,hl,Bool.false_eq_true,if_false];cases dst with
   |none=>rfl
   |some n=>
    simp only[qce]at hl;simp only[qbs,hl,Bool.false_eq_true,if_false,AV.clr,DV.qg0]
theorem qTO(sz n:Nat)(g:Tag)(xs:List DV)(kd:IntKind)(k:Int):xTk T dst sz n s (some (.d (.sl g xs))) (some (.d (.int kd k)))=if 0<=k then qQe T dst sz n g xs k.toNat s (xs[k.toNat]?)else none:=_root_.id rfl
theorem qQi(sz n:Nat)(g:Tag)(xs:List DV)(k:Nat)(e:DV):qQe T dst sz n g xs k s (some e)=if e.cells.length=sz/\sz≠0 then some (qbs T (if T.contains n then⟨(n,.d (.sl g (xs.set k e.clr)))::s.r,s.B⟩else s) dst (.ep e.cells))else none:=_root_.id rfl
theorem qLJ(agg:Bool)(sz b off:Nat)(x:VX):qD1 T d L dst agg sz x s (some (.ptr b off))=if d/\L<=b then none else qkd T (if qce T dst then⟨s.r,qcy s.B b off (if agg then sz else 1)⟩else s) dst (qae s.B agg sz b off):=_root_.id rfl
theorem qD2(sz:Nat)(x:VX)(av:List Nat)(b off:Nat)(v:AV):qyM T d L dst sz x av s (some (.ptr b off)) (some v)=if qbI d false L b|| !qc8 s.r b av then none else qH3 T ⟨qeW T s.r x,s.B⟩ dst (qbx s.B sz b off v):=_root_.id rfl
theorem qIl(init:Bool)(sz:Nat)(x:VX)(b off:Nat)(v:AV):qF2 T d L dst init sz x s (some (.ptr b off)) (some v)=if qbI d init L b then none else qH3 T ⟨qeW T s.r x,s.B⟩ dst (qbx s.B sz b off v):=_root_.id rfl
theorem qLG(r:List (Nat×AV))(B B':qan):qH3 T ⟨r,B⟩ dst (some B')=some (qbs T ⟨r,B'⟩ dst .und):=_root_.id rfl
theorem qQl(n i:Nat)(vs:List DV):qLD T dst n i s (some (.d (.tup vs)))=qDg T (if qce T dst&&T.contains n then⟨(n,.d (.tup (vs.set i ((vs[i]?).getD (.bool false)).clr)))::s.r,s.B⟩else s) dst (vs[i]?):=by
 simp only[qLD,qDg];cases hv:vs[i]? with
 |none=>rfl
 |some v=>simp
theorem qLL(n i:Nat)(vs:List AV):qLD T dst n i s (some (.ag true vs))=qeA T s dst (vs[i]?):=by
 simp only[qLD,qeA]
theorem qTQ(k sz bytes:Nat)(z:DV)(kk:IntKind)(n:Int):xMk T d L dst k sz bytes z s (some (.d (.int kk n)))=if d=false/\qb6 s.B (L+k)/\0<=n/\n.toNat*bytes<=140737488355328/\n<9223372036854775808/\z.cells.length=sz/\z.cells.all DV.isCell then
 some (qbs T ⟨s.r,s.B.set (L+k) (some (((List.replicate n.toNat z.cn).flatMap DV.cells).map .d))⟩ dst (.bsl [] (isAgg z) (L+k) sz n.toNat))else none:=_root_.id rfl
theorem qQj(xs:List DV):qSR T dst s (some xs)=some (qbs T s dst (.d (.sl U xs))):=_root_.id rfl
theorem qQk(k:Nat)(vs:List AV):qOZ c T dst s (some (.fn k [])) (some vs)=qIf T dst s (qaC vs) (c k (qb1 [] 0 vs) []):=by
 simp only[qOZ,qIf];cases qaC vs<;>rfl
theorem qLK(ds:List DV)(v:DV)(B:qan):qIf T dst s (some ds) (some (.d v,B))=some (qbs T s dst (.d v)):=_root_.id rfl
theorem w_n(args:List VX)(k:Nat)(caps vs:List AV):xN c lin T dst s args (some (.fn k caps)) (some vs)=xN2 T dst s (qa8 (lin k) 0 args) (qas T (qa8 (lin k) 0 args)) (c k (qb1 (lin k) 0 vs++caps) s.B):=_root_.id rfl
theorem qTP(xs:List VX)(r:List (Nat×AV))(B0:qan)(v:AV)(B:qan):xN2 T dst ⟨r,B0⟩ xs true (some (v,B))=some (qbs T ⟨qbD T r xs,B⟩ dst v):=_root_.id rfl
theorem qLH(v:DV):qDg T s dst (some v)=some (qbs T s dst (.d v)):=_root_.id rfl
end
theorem qmq(r:List (Nat×AV))(x:VX):evP r (.nilCheck x)=qO2 (x.get r):=_root_.id rfl
theorem qR4(r:List (Nat×AV))(op:BinOp)(x y:VX):evP r (.bin op x y)=qTD op (x.get r) (y.get r):=_root_.id rfl
theorem qJ9(r:List (Nat×AV))(neg:Bool)(ks:List Nat)(x y:VX):evP r (.eqAgg neg ks x y)=qBT neg ks (x.get r) (y.get r):=_root_.id rfl
theorem qR3(r:List (Nat×AV))(neg:Bool)(x y:VX):evP r (.eqB neg x y)=qTC neg (x.get r) (y.get r):=_root_.id rfl
theorem qR0(r:List (Nat×AV))(x:VX):evP r (.not x)=qTB (x.get r):=_root_.id rfl
theorem qOw(r:List (Nat×AV))(k:IntKind)(x:VX):evP r (.conv (.kind k) x)=qOy k (x.get r):=_root_.id rfl
theorem qOv(r:List (Nat×AV))(x:VX):evP r (.conv .rune x)=qOx (x.get r):=_root_.id rfl
theorem qKa(r:List (Nat×AV))(x:VX):evP r (.conv .bytes x)=qHw (x.get r):=_root_.id rfl
theorem qJ8(r:List (Nat×AV))(x y:VX):evP r (.index x y)=qHv (x.get r) (y.get r):=_root_.id rfl
theorem qsW(r:List (Nat×AV))(sz:Nat)(x y:VX):evP r (.indexAddr sz none x y)=qBV sz (x.get r) (y.get r):=_root_.id rfl
theorem qwU(r:List (Nat×AV))(sz m:Nat)(x y:VX):evP r (.indexAddr sz (some m) x y)=qR7 sz m (x.get r) (y.get r):=_root_.id rfl
theorem qsX(r:List (Nat×AV))(off:Nat)(x:VX):evP r (.fieldAddr off x)=qBS off (x.get r):=_root_.id rfl
theorem qwT(r:List (Nat×AV))(f:Nat)(cs:List VX):evP r (.makeFunc f cs)=(qfP r cs).map fun vs=> .fn f vs:=_root_.id rfl
theorem qR2(r:List (Nat×AV))(str:Bool)(x:VX):evP r (.len str x)=qK5 str (x.get r):=by
 cases str<;>simp only[evP,qK5]<;>(cases h:x.get r with
  |none=>rfl
  |some v=>cases v with
   |d w=>cases w<;>rfl
   |_=>rfl)
theorem qR1(r:List (Nat×AV))(x y:VX):evP r (.max x y)=qR6 (x.get r) (y.get r):=_root_.id rfl
theorem qJ7(r:List (Nat×AV))(str:Bool)(sz:Nat)(x:VX)(lo hi:Option VX):evP r (.slice str sz x lo hi)=quV str sz (x.get r) (qhy r lo) (qhy r hi):=by
 cases str<;>simp only[evP,quV]<;>(cases h:x.get r with
  |none=>rfl
  |some v=>cases v with
   |d w=>cases w<;>cases qhy r lo<;>cases qhy r hi<;>rfl
   |_=>rfl)
theorem qOh(i o:Nat):qO2 (some (.ptr i o))=some (.ptr i o):=_root_.id rfl
theorem qOg(cs:List DV):qO2 (some (.ep cs))=some (.ep cs):=_root_.id rfl
theorem qOf(f:Nat)(c:List AV):qO2 (some (.fn f c))=some (.fn f c):=_root_.id rfl
theorem qRY(op:BinOp)(a b:DV):qTD op (some (.d a)) (some (.d b))=dO (qbG op a b):=_root_.id rfl
theorem qT3(a:DV):dO (some a)=some (.d a):=_root_.id rfl
theorem qJ0(neg:Bool)(ks:List Nat)(a b:List DV):qBT neg ks (some (.d (.agg a))) (some (.d (.agg b)))=(qbv ks a b).map fun e=> .d (.bool (if neg then !e else e)):=_root_.id rfl
theorem qRX(neg:Bool)(a b:Bool):qTC neg (some (.d (.bool a))) (some (.d (.bool b)))=some (.d (.bool (if neg then !(a==b)else(a==b)))):=_root_.id rfl
theorem qRU(b:Bool):qTB (some (.d (.bool b)))=some (.d (.bool !b)):=_root_.id rfl
theorem qOm(k k':IntKind)(n:Int):qOy k (some (.d (.int k' n)))=some (.d (.int k (k.wrap n))):=_root_.id rfl
theorem qOe(k':IntKind)(n:Int):qOx (some (.d (.int k' n)))=some (.d (.str (Utf8.encode n))):=_root_.id rfl
theorem qJ2(g:Tag)(xs:List DV):qHw (some (.d (.sl g xs)))=(bytesOf xs).map fun bs=> .d (.str ⟨bs.toArray⟩):=_root_.id rfl
theorem qJY(s:ByteArray)(k:IntKind)(n:Int):qHv (some (.d (.str s))) (some (.d (.int k n)))=if 0<=n then(qlZ s n.toNat).map fun b=> .d (.int .u8 b)else none:=_root_.id rfl
theorem qOo(sz:Nat)(g:Tag)(xs:List DV)(k:IntKind)(n:Int):qBV sz (some (.d (.sl g xs))) (some (.d (.int k n)))=if 0<=n then qKb sz (xs[n.toNat]?)else none:=by
 simp only[qBV,qKb]
theorem qOl(sz:Nat)(e:DV):qKb sz (some e)=if e.cells.length=sz/\sz≠0 then some (.ep e.cells)else none:=_root_.id rfl
theorem qJ4(sz:Nat)(id:Id)(a:Bool)(b s' m:Nat)(k:IntKind)(n:Int):qBV sz (some (.bsl id a b s' m)) (some (.d (.int k n)))=if s'=sz/\0<=n/\n<m then some (.ptr b (n.toNat*sz))else none:=_root_.id rfl
theorem qJ3(sz:Nat)(a:Bool)(b s' m:Nat)(k:IntKind)(n:Int):qBV sz (some (.tsl a b s' m)) (some (.d (.int k n)))=if s'=sz/\0<=n/\n<m then some (.ptr b (n.toNat*sz))else none:=_root_.id rfl
theorem qRZ(sz m b o:Nat)(k:IntKind)(n:Int):qR7 sz m (some (.ptr b o)) (some (.d (.int k n)))=if 0<=n/\n<m then some (.ptr b (o+n.toNat*sz))else none:=_root_.id rfl
theorem qOn(sz m:Nat)(cs:List DV)(k:IntKind)(n:Int):qR7 sz m (some (.ep cs)) (some (.d (.int k n)))=if 0<=n/\n<m/\n.toNat*sz<=cs.length then some (.ep (cs.drop (n.toNat*sz)))else none:=_root_.id rfl
theorem qJZ(off b o:Nat):qBS off (some (.ptr b o))=some (.ptr b (o+off)):=_root_.id rfl
theorem qFp(off:Nat)(cs:List DV):qBS off (some (.ep cs))=if off<=cs.length then some (.ep (cs.drop off))else none:=_root_.id rfl
theorem qRW(s:ByteArray):qK5 true (some (.d (.str s)))=some (.d (.int .i64 s.size)):=_root_.id rfl
theorem qOj(g:Tag)(xs:List DV):qK5 false (some (.d (.sl g xs)))=some (.d (.int .i64 xs.length)):=_root_.id rfl
theorem qOi(a:Bool)(i s n:Nat):qK5 false (some (.tsl a i s n))=some (.d (.int .i64 n)):=_root_.id rfl
theorem qB0(a:Bool)(i s n:Nat)(r:List AV):qaC (.tsl a i s n::r)=none:=_root_.id rfl
theorem qw0(v:DV):qKg v none=none:=_root_.id rfl
theorem qxt(cs:List AV):ql2 cs none=if cs.all AV.plainT then some (.ag false cs)else none:=_root_.id rfl
theorem qwu(k:IntKind)(n:Int):(AV.d (.int k n)).plainT=true:=_root_.id rfl
theorem qsy(b:Bool):(AV.d (.bool b)).plainT=true:=_root_.id rfl
theorem qws(b:ByteArray):(AV.d (.str b)).plainT=true:=_root_.id rfl
theorem qwt(g:Tag):(AV.d (.sl g [])).plainT=true:=_root_.id rfl
theorem qwr(a:Bool)(i s n:Nat):(AV.tsl a i s n).plainT=true:=_root_.id rfl
theorem qu3(a:Bool)(i s n:Nat):(AV.tsl a i s n).clr= .tsl a i s n:=by simp only[AV.clr]
theorem qKq(t:Bool)(cs:List AV):(AV.ag t cs).clr= .ag t (AV.clrs cs):=by simp only[AV.clr]
theorem qxs(cs:List AV)(ds:List DV):ql2 cs (some ds)=some (.d (.agg ds)):=_root_.id rfl
theorem qFh(f:AV->Option DV):qem f []=some []:=_root_.id rfl
theorem qBw(f:AV->Option DV)(v:AV)(r:List AV):qem f (v::r)=qTz (f v) (qem f r):=_root_.id rfl
theorem qBv(d:DV)(ds:List DV):qTz (some d) (some ds)=some (d::ds):=_root_.id rfl
theorem qRQ(B:qan)(v:DV):AV.frz B (.d v)=some v:=by
 unfold AV.frz;cases B.length<;>simp only[AV.frzC]
theorem qOk(id:Id)(a:Bool)(i s n:Nat):qK5 false (some (.bsl id a i s n))=some (.d (.int .i64 n)):=_root_.id rfl
theorem qRV(k:IntKind)(a b:Int):qR6 (some (.d (.int k a))) (some (.d (.int k b)))=some (.d (.int k (if b>a then b else a))):=by simp[qR6]
theorem qFo(sz:Nat)(s:ByteArray)(lo hi:Option AV):quV true sz (some (.d (.str s))) (some lo) (some hi)=(qbW s.size hi).bind fun h=>(qbV h lo).map fun l=> .d (.str (s.extract l h)):=_root_.id rfl
theorem qJX(sz:Nat)(g:Tag)(xs:List DV)(lo hi:Option AV):quV false sz (some (.d (.sl g xs))) (some lo) (some hi)=if xs.all (fun e=>e.cells.length=sz)then(qbW xs.length hi).bind fun h=>(qbV h lo).map fun l=> .d (.sl (if g= .nil then .nil else .sub) ((xs.take h).drop l))else none:=_root_.id rfl
theorem qBp(r:List (Nat×AV)):qhy r none=some none:=_root_.id rfl
theorem qBo(r:List (Nat×AV))(x:VX):qhy r (some x)=(x.get r).map some:=_root_.id rfl
theorem qJR(n:Nat):qbW n none=some n:=_root_.id rfl
theorem qJt(n:Nat):qbV n none=some 0:=_root_.id rfl
theorem qN3(n:Nat)(k:IntKind)(h:Int):qbW n (some (.d (.int k h)))=if 0<=h/\h.toNat<=n then some h.toNat else none:=_root_.id rfl
theorem qNK(n:Nat)(k:IntKind)(h:Int):qbV n (some (.d (.int k h)))=if 0<=h/\h.toNat<=n then some h.toNat else none:=_root_.id rfl
theorem qFg(r:List (Nat×AV)):qfP r []=some []:=_root_.id rfl
theorem qBj(r:List (Nat×AV))(x:VX)(xs:List VX):qfP r (x::xs)=qCe (x.get r) (qfP r xs):=by simp only[qfP,qCe];cases x.get r<;>cases qfP r xs<;>rfl
theorem qwY(v:AV)(vs:List AV):qCe (some v) (some vs)=some (v::vs):=_root_.id rfl
theorem qLs(r:List (Nat×AV))(n:Nat):qbT r (.t n)=lk r n:=_root_.id rfl
theorem qLt(r:List (Nat×AV))(v:DV):qbT r (.c (.d v))=some (.d v.cn):=_root_.id rfl
theorem qH4(r:List (Nat×AV))(f:Nat):qbT r (.c (.fn f []))=some (.fn f []):=by simp[qbT,AV.clr,AV.clrs]
theorem qxY(r:List (Nat×AV)):qbT r (.c .nilp)=some .nilp:=by simp[qbT,AV.clr]
theorem qvs(T:List Nat)(r:List (Nat×AV)):qbD T r []=r:=_root_.id rfl
theorem qrC(T:List Nat)(r:List (Nat×AV))(x:VX)(xs:List VX):qbD T r (x::xs)=qbD T (qeW T r x) xs:=_root_.id rfl
theorem qH5(T:List Nat)(r:List (Nat×AV))(v:AV):qeW T r (.c v)=r:=_root_.id rfl
theorem qxZ(T:List Nat)(r:List (Nat×AV))(n:Nat)(h:T.contains n=false):qeW T r (.t n)=r:=by simp only[qeW,h];simp
theorem qx0(T:List Nat)(r:List (Nat×AV))(n:Nat)(h:T.contains n=true)(v:AV)(hv:lk r n=some v):qeW T r (.t n)=(n,v.clr)::r:=by simp only[qeW,h,hv];simp
theorem qwH(T:List Nat):qce T none=false:=_root_.id rfl
theorem qwG(T:List Nat)(d:Nat):qce T (some d)=T.contains d:=_root_.id rfl
theorem qOI(k:IntKind)(n:Int):(DV.int k n).cn= .int k n:=by simp[DV.cn,DV.cn1,DV.clr]
theorem qKi(b:Bool):(DV.bool b).cn= .bool b:=by simp[DV.cn,DV.cn1,DV.clr]
theorem qOG(s:ByteArray):(DV.str s).cn= .str s:=by simp[DV.cn,DV.cn1,DV.clr]
theorem qOH:(DV.sl .nil []).cn= .sl U []:=by simp[DV.cn,DV.cn1]
theorem qOJ(cs:List DV):(DV.agg cs).cn= .agg (cs.map DV.cn1):=_root_.id rfl
theorem qKl(k:IntKind)(n:Int):(DV.int k n).cn1= .int k n:=by simp[DV.cn1,DV.clr]
theorem qFy(b:Bool):(DV.bool b).cn1= .bool b:=by simp[DV.cn1,DV.clr]
theorem qKj(s:ByteArray):(DV.str s).cn1= .str s:=by simp[DV.cn1,DV.clr]
theorem qKk:(DV.sl .nil []).cn1= .sl U []:=by simp[DV.cn1]
theorem qs9(k:IntKind)(n:Int):(DV.int k n).clr= .int k n:=by simp[DV.clr]
theorem qFA(b:Bool):(DV.bool b).clr= .bool b:=by simp[DV.clr]
theorem qCm(s:ByteArray):(DV.str s).clr= .str s:=by simp[DV.clr]
theorem qHE(g:Tag)(xs:List DV):(DV.sl g xs).clr= .sl .sub (xs.map DV.clr):=by simp[DV.clr,DV.qam]
theorem qKn(xs:List DV):(DV.agg xs).clr= .agg (xs.map DV.clr):=by simp[DV.clr,DV.qam]
theorem qKm(xs:List DV):(DV.tup xs).clr= .tup (xs.map DV.clr):=by simp[DV.clr,DV.qam]
theorem qOM(v:DV):(AV.d v).clr= .d v.clr:=by simp[AV.clr]
theorem qFC(i o:Nat):(AV.ptr i o).clr= .ptr i o:=by simp[AV.clr]
theorem qKp(cs:List DV):(AV.ep cs).clr= .ep (cs.map DV.clr):=by simp[AV.clr,DV.qam]
theorem qKo(f:Nat)(cs:List AV):(AV.fn f cs).clr= .fn f (cs.map AV.clr):=by simp[AV.clr,AV.qam]
theorem qCn:AV.nilp.clr= .nilp:=by simp[AV.clr]
theorem qFD(id:Id)(a:Bool)(i sz n:Nat):(AV.bsl id a i sz n).clr= .bsl id a i sz n:=by simp[AV.clr]
theorem qFB:AV.und.clr= .und:=by simp[AV.clr]
theorem qxT(LP:List Nat)(j:Nat):qb1 LP j []=[]:=_root_.id rfl
theorem qvp(LP:List Nat)(j:Nat)(v:AV)(r:List AV):qb1 LP j (v::r)=(if LP.contains j then v else v.clr)::qb1 LP (j+1) r:=_root_.id rfl
theorem qrB(LP:List Nat)(j:Nat):qa8 LP j []=[]:=_root_.id rfl
theorem qiH(j:Nat):∀xs:List VX,qa8 [] j xs=[]
 | []=>rfl
 |x::xs=>by simp[qa8,qiH (j+1) xs]
theorem qo1(LP:List Nat)(j:Nat)(v:VX)(r:List VX):qa8 LP j (v::r)=if LP.contains j then v::qa8 LP (j+1) r else qa8 LP (j+1) r:=_root_.id rfl
theorem qxX(r:List (Nat×AV)):qeU r []=some []:=_root_.id rfl
theorem qvr(r:List (Nat×AV))(x:VX)(xs:List VX):qeU r (x::xs)=qCe (qbT r x) (qeU r xs):=by simp only[qeU,qCe];cases qbT r x<;>cases qeU r xs<;>rfl
theorem qB2:qaC []=some []:=_root_.id rfl
theorem qwW(v:DV)(r:List AV):qaC (.d v::r)=qKg v (qaC r):=_root_.id rfl
theorem qwZ(v:DV)(r:List DV):qKg v (some r)=some (v::r):=_root_.id rfl
theorem qJx(T:List Nat):qas T []=true:=_root_.id rfl
theorem qmt(g:VX->Option AV)(cs:List DV):qaJ g cs []=some cs:=_root_.id rfl
theorem ql0(g:VX->Option AV)(cs:List DV)(off size:Nat)(x:VX)(r:List (Nat×Nat×VX)):qaJ g cs ((off,size,x)::r)=qBU g cs off size r (g x):=by
 simp only[qaJ,qBU]<;>rfl
theorem qJ1(g:VX->Option AV)(cs:List DV)(off size:Nat)(r:List (Nat×Nat×VX))(v:DV):qBU g cs off size r (some (.d v))=if v.cells.length=size/\off+size<=cs.length/\v.cells.all DV.isCell then qaJ g (splice cs off v.cells) r else none:=_root_.id rfl
theorem qq7(g:VX->Option AV)(sz:Nat)(cs:List DV):qay g sz cs []=some cs:=_root_.id rfl
theorem qoL(g:VX->Option AV)(sz:Nat)(cs:List DV)(i:Nat)(x:VX)(r:List (Nat×VX)):qay g sz cs ((i,x)::r)=qR5 g sz cs i r (g x):=by
 simp only[qay,qR5]<;>rfl
theorem qRT(g:VX->Option AV)(sz:Nat)(cs:List DV)(i:Nat)(r:List (Nat×VX))(v:DV):qR5 g sz cs i r (some (.d v))=if v.cells.length=sz/\i<cs.length/\v.cells.all DV.isCell then qay g sz (cs.set i v) r else none:=_root_.id rfl
def xFr(t:Nat)(live:List Nat)(s:XS)(v:Option AV):Option XS:=
 match v with
 |some (.d (.sl (.own [] 0) (x::xs)))=>
  if live.contains t=false/\qck ((x::xs).flatMap DV.cells) (keep s.r live)=true/\qa2 ((x::xs).flatMap DV.cells) s.B=true/\DV.xrests ((x::xs).flatMap DV.cells) ((x::xs).flatMap DV.cells)=true then
   some ⟨(t,.tsl (qba x) s.B.length x.cells.length (xs.length+1))::keep s.r live,s.B++[some (((x::xs).flatMap DV.cells).map .d)]⟩
  else none
 |_=>none
theorem qN9(t:Nat)(live:List Nat)(s:XS):qrt (.focR t live) s=xFr t live s (lk s.r t):=_root_.id rfl
theorem qJV(t:Nat)(live:List Nat)(r:List (Nat×AV))(B:qan)(x:DV)(xs:List DV):xFr t live ⟨r,B⟩ (some (.d (.sl U (x::xs))))=
 if live.contains t=false/\qck ((x::xs).flatMap DV.cells) (keep r live)=true/\qa2 ((x::xs).flatMap DV.cells) B=true/\DV.xrests ((x::xs).flatMap DV.cells) ((x::xs).flatMap DV.cells)=true then
  some ⟨(t,.tsl (qba x) B.length x.cells.length (xs.length+1))::keep r live,B++[some (((x::xs).flatMap DV.cells).map .d)]⟩
 else none:=_root_.id rfl
def xFc(off:Nat)(live:List Nat)(s:XS)(j o:Nat)(cs:List AV)(v:Option AV):Option XS:=
 match v with
 |some (.d (.sl (.own [] 0) (x::xs)))=>
  if qb6 s.B j=true/\qck ((x::xs).flatMap DV.cells) (keep s.r live)=true/\
   qa2 ((x::xs).flatMap DV.cells) (s.B.set (j+1) (some (cs.set (o+off) (.tsl (qba x) j x.cells.length (xs.length+1)))))=true/\DV.xrests ((x::xs).flatMap DV.cells) ((x::xs).flatMap DV.cells)=true then
   some ⟨keep s.r live,(s.B.set (j+1) (some (cs.set (o+off) (.tsl (qba x) j x.cells.length (xs.length+1))))).set j (some (((x::xs).flatMap DV.cells).map .d))⟩
  else none
 |_=>none
def qSS(off:Nat)(live:List Nat)(s:XS)(v:Option AV):Option XS:=
 match v with
 |some (.ptr (j+1) o)=>(qa6 s.B (j+1)).bind fun cs=>xFc off live s j o cs (cs[o+off]?)
 |_=>none
theorem qHr(t off:Nat)(live:List Nat)(s:XS):qrt (.focC t off live) s=qSS off live s (lk s.r t):=_root_.id rfl
theorem qBs(off:Nat)(live:List Nat)(s:XS)(j o:Nat):qSS off live s (some (.ptr (j+1) o))=(qa6 s.B (j+1)).bind fun cs=>xFc off live s j o cs (cs[o+off]?):=_root_.id rfl
theorem qBr(off:Nat)(live:List Nat)(r:List (Nat×AV))(B:qan)(j o:Nat)(cs:List AV)(x:DV)(xs:List DV):xFc off live ⟨r,B⟩ j o cs (some (.d (.sl U (x::xs))))=
 if qb6 B j=true/\qck ((x::xs).flatMap DV.cells) (keep r live)=true/\
  qa2 ((x::xs).flatMap DV.cells) (B.set (j+1) (some (cs.set (o+off) (.tsl (qba x) j x.cells.length (xs.length+1)))))=true/\DV.xrests ((x::xs).flatMap DV.cells) ((x::xs).flatMap DV.cells)=true then
  some ⟨keep r live,(B.set (j+1) (some (cs.set (o+off) (.tsl (qba x) j x.cells.length (xs.length+1))))).set j (some (((x::xs).flatMap DV.cells).map .d))⟩
 else none:=_root_.id rfl
def xFz(t L:Nat)(live:List Nat)(s:XS)(v:Option AV):Option XS:=
 match v with
 |some v=>if live.contains t=false/\qad L (keep s.r live)=true/\L<=s.B.length then(v.frz (qcu L s.B)).map fun d=>⟨(t,.d d.clr)::keep s.r live,s.B.take L⟩else none
 |none=>none
theorem qN8(t L:Nat)(live:List Nat)(s:XS):qrt (.frzR t L live) s=xFz t L live s (lk s.r t):=_root_.id rfl
theorem qJU(t L:Nat)(live:List Nat)(r:List (Nat×AV))(B:qan)(v:AV):xFz t L live ⟨r,B⟩ (some v)=if live.contains t=false/\qad L (keep r live)=true/\L<=B.length then(v.frz (qcu L B)).map fun d=>⟨(t,.d d.clr)::keep r live,B.take L⟩else none:=_root_.id rfl
def xFb(t L:Nat)(live:List Nat)(s:XS)(v:Option AV):Option XS:=
 match v with
 |some (.ptr i 0)=>
  if L<=i/\live.contains t=false/\qad L (keep s.r live)=true/\L<=s.B.length then
   (qa6 s.B i).bind fun cs=>(qem (AV.frzC (qcu L s.B) s.B.length) cs).bind fun ds=>
    if ds.all DV.isCell then some ⟨(t,.ptr L 0)::keep s.r live,s.B.take L++[some (ds.map fun d=> .d d.clr)]⟩else none
  else none
 |_=>none
theorem qHq(t L:Nat)(live:List Nat)(s:XS):qrt (.frzB t L live) s=xFb t L live s (lk s.r t):=_root_.id rfl
theorem qBq(t L:Nat)(live:List Nat)(r:List (Nat×AV))(B:qan)(i:Nat):xFb t L live ⟨r,B⟩ (some (.ptr i 0))=
 if L<=i/\live.contains t=false/\qad L (keep r live)=true/\L<=B.length then
  (qa6 B i).bind fun cs=>(qem (AV.frzC (qcu L B) B.length) cs).bind fun ds=>
   if ds.all DV.isCell then some ⟨(t,.ptr L 0)::keep r live,B.take L++[some (ds.map fun d=> .d d.clr)]⟩else none
 else none:=_root_.id rfl
theorem qnv(rs:List DV):qck rs []=true:=_root_.id rfl
theorem qmg(rs:List DV)(t:Nat)(v:AV)(r:List (Nat×AV)):qck rs ((t,v)::r)=(v.xrest rs&&qck rs r):=_root_.id rfl
theorem qnw(rs:List DV):qa2 rs []=true:=_root_.id rfl
theorem qmi(rs:List DV)(B:qan):qa2 rs (none::B)=qa2 rs B:=by simp only[qa2,List.all_cons,Bool.true_and]
def qbA(rs:List DV)(cs:List AV):Bool:=cs.all (AV.xrest rs)
theorem qoK(rs:List DV):qbA rs []=true:=_root_.id rfl
theorem qms(rs:List DV)(v:AV)(cs:List AV):qbA rs (v::cs)=(v.xrest rs&&qbA rs cs):=_root_.id rfl
theorem qmh(rs:List DV)(cs:List AV)(B:qan):qa2 rs (some cs::B)=(qbA rs cs&&qa2 rs B):=_root_.id rfl
theorem qFT(rs:List DV)(v:DV):AV.xrest rs (.d v)=v.xrest rs:=_root_.id rfl
theorem qxz(rs:List DV)(i o:Nat):AV.xrest rs (.ptr i o)=true:=_root_.id rfl
theorem qxy(rs:List DV)(a:Bool)(i sz n:Nat):AV.xrest rs (.tsl a i sz n)=true:=_root_.id rfl
theorem qxx(rs:List DV):AV.xrest rs .und=true:=_root_.id rfl
theorem qoY(rs:List DV)(k:IntKind)(n:Int):DV.xrest rs (.int k n)=true:=by simp only[DV.xrest]
theorem qvo(rs:List DV)(b:Bool):DV.xrest rs (.bool b)=true:=by simp only[DV.xrest]
theorem qxQ(rs:List DV)(s:ByteArray):DV.xrest rs (.str s)=true:=by simp only[DV.xrest]
theorem qo0(rs cs:List DV):DV.xrest rs (.agg cs)=DV.xrests rs cs:=by simp only[DV.xrest]
theorem qxS(rs xs:List DV):DV.xrest rs (.sl U xs)=DV.xrests rs xs:=by simp only[DV.xrest,decide_true,Bool.or_true,Bool.true_and]
theorem qxR(rs:List DV)(g:Tag):DV.xrest rs (.sl g [])=true:=by simp[DV.xrest,DV.xrests]
theorem qh1(rs:List DV):DV.xrests rs []=true:=by simp only[DV.xrests]
theorem qgL(rs:List DV)(v:DV)(r:List DV):DV.xrests rs (v::r)=(v.xrest rs&&DV.xrests rs r):=by simp only[DV.xrests]
attribute [simp] qoK qms qN9 qJV qHr qBs qBr qN8 qJU qHq qBq qnv qmg qnw qmi qmh qFT qxz qxy qxx qoY qvo qxQ qo0 qxS qxR qh1 qgL
theorem qlY:qgs []=[]:=_root_.id rfl
theorem qiz(cs:List AV)(B:qan):qgs (some cs::B)=some (AV.clrs cs)::qgs B:=_root_.id rfl
theorem qxc(B:qan):qgs (none::B)=none::qgs B:=_root_.id rfl
theorem qCl:AV.clrs []=[]:=by simp only[AV.clrs]
theorem qw9(v:AV)(r:List AV):AV.clrs (v::r)=v.clr::AV.clrs r:=by simp only[AV.clrs]
attribute [simp] qSQ qxM qQo qHV qHO qTU qQp qIm qrx qlY qiz qxc qCl qw9
def xFB(c:qaz)(lin:Nat->List Nat)(T:List Nat)(d:Bool)(L:Nat)(fs:List FOper)(o:Option XS):Option XS:=o.bind (xFs c lin T d L fs)
def xFA(c:qaz)(lin:Nat->List Nat)(T:List Nat)(d:Bool)(L:Nat)(f:FOper)(fs:List FOper)(o:Option XS):Option XS:=o.bind fun s=>xFB c lin T d L fs (qvv T f s)
def qQc(T:List Nat)(a d3 sz:Nat)(ok:Bool)(s:XS)(v:Option AV)(lo hi:Option (Option AV)):Option XS:=
 match v,lo,hi with
 |some (.d (.sl g xs)),some lo,some hi=>
  if ok=true/\xs.all (fun e=>e.cells.length=sz)then
   (qbW xs.length hi).bind fun h=>(qbV h lo).map fun l=>qbs T ⟨(a,.d (.sl g (qcE xs l h)))::s.r,s.B⟩ (some d3) (.d (.sl .sub ((xs.take h).drop l)))
  else none
 |_,_,_=>none
def qyL(T:List Nat)(d4 sz:Nat)(s:XS)(b off:Nat)(cs:List AV)(g:Tag)(xs:List DV)(k:Nat)(e:Option DV):Option XS:=
 match e with
 |some (.agg es)=>if es.length=sz then some (qbs T ⟨s.r,s.B.set b (some (cs.set off (.d (.sl g (xs.set k (DV.agg es).clr)))))⟩ (some d4) (.d (.agg es)))else none
 |_=>none
def qD0(T:List Nat)(d4 sz:Nat)(s:XS)(b off:Nat)(cs:List AV)(k:Nat)(v:Option AV):Option XS:=
 match v with
 |some (.d (.sl g xs))=>qyL T d4 sz s b off cs g xs k (xs[k]?)
 |_=>none
def qQd(T:List Nat)(d4 sz:Nat)(ok:Bool)(s:XS)(v w:Option AV):Option XS:=
 match v,w with
 |some (.ptr b off),some (.d (.int _ k))=>if ok=true/\0<=k/\sz≠0 then(qa6 s.B b).bind fun cs=>qD0 T d4 sz s b off cs k.toNat (cs[off]?)else none
 |_,_=>none
theorem qTI(c:qaz)(lin:Nat->List Nat)(T:List Nat)(d:Bool)(L:Nat)(f:FOper)(fs:List FOper)(s:XS):xFs c lin T d L (f::fs) s=xFA c lin T d L f fs (qct c lin T d L f.pre s):=_root_.id rfl
theorem qLk(c:qaz)(lin:Nat->List Nat)(T:List Nat)(d:Bool)(L:Nat)(s:XS):xFs c lin T d L [] s=some s:=_root_.id rfl
theorem qTK(c:qaz)(lin:Nat->List Nat)(T:List Nat)(d:Bool)(L:Nat)(f:FOper)(fs:List FOper)(s:XS):xFA c lin T d L f fs (some s)=xFB c lin T d L fs (qvv T f s):=_root_.id rfl
theorem qTJ(c:qaz)(lin:Nat->List Nat)(T:List Nat)(d:Bool)(L:Nat)(fs:List FOper)(s:XS):xFB c lin T d L fs (some s)=xFs c lin T d L fs s:=_root_.id rfl
theorem qPS(T:List Nat)(o:VOper)(s:XS):qvv T (.one o) s=some s:=_root_.id rfl
theorem qPR(T:List Nat)(d1 a d2:Nat)(b:VX)(d3 sz:Nat)(lo hi:Option VX)(f1 f2 f3:List Nat)(s:XS):qvv T (.sl d1 a d2 b d3 sz lo hi f1 f2 f3) s=qQc T a d3 sz (decide (T.contains a=true/\T.contains d3=true/\d1≠a/\d2≠a/\d1≠d2)) s (lk s.r a) (qhy s.r lo) (qhy s.r hi):=by
 simp only[qvv,qQc,decide_eq_true_eq];rfl
theorem qQg(T:List Nat)(a d3 sz:Nat)(ok:Bool)(s:XS)(g:Tag)(xs:List DV)(lo hi:Option AV):qQc T a d3 sz ok s (some (.d (.sl g xs))) (some lo) (some hi)=if ok=true/\xs.all (fun e=>e.cells.length=sz)then
 (qbW xs.length hi).bind fun h=>(qbV h lo).map fun l=>qbs T ⟨(a,.d (.sl g (qcE xs l h)))::s.r,s.B⟩ (some d3) (.d (.sl .sub ((xs.take h).drop l)))
 else none:=_root_.id rfl
theorem qPT(T:List Nat)(d1 q d2:Nat)(b:VX)(d3 sz d4:Nat)(f1 f2 f3 f4:List Nat)(s:XS):qvv T (.el d1 q d2 b d3 sz d4 f1 f2 f3 f4) s=qQd T d4 sz (decide (T.contains d4=true/\d1≠q/\d2≠q/\d3≠q/\d1≠d2/\d3≠d2)) s (lk s.r q) (lk s.r d2):=by
 simp only[qvv,qQd,qD0,qyL,decide_eq_true_eq];rfl
theorem qQh(T:List Nat)(d4 sz:Nat)(ok:Bool)(s:XS)(b off:Nat)(kd:IntKind)(k:Int):qQd T d4 sz ok s (some (.ptr b off)) (some (.d (.int kd k)))=if ok=true/\0<=k/\sz≠0 then(qa6 s.B b).bind fun cs=>qD0 T d4 sz s b off cs k.toNat (cs[off]?)else none:=_root_.id rfl
theorem qLF(T:List Nat)(d4 sz:Nat)(s:XS)(b off:Nat)(cs:List AV)(k:Nat)(g:Tag)(xs:List DV):qD0 T d4 sz s b off cs k (some (.d (.sl g xs)))=qyL T d4 sz s b off cs g xs k (xs[k]?):=_root_.id rfl
theorem qLE(T:List Nat)(d4 sz:Nat)(s:XS)(b off:Nat)(cs:List AV)(g:Tag)(xs:List DV)(k:Nat)(es:List DV):qyL T d4 sz s b off cs g xs k (some (.agg es))=if es.length=sz then some (qbs T ⟨s.r,s.B.set b (some (cs.set off (.d (.sl g (xs.set k (DV.agg es).clr)))))⟩ (some d4) (.d (.agg es)))else none:=_root_.id rfl
theorem qxI(X:XEnv)(T:List Nat)(na:Nat)(live:List Nat)(fs:List FOper)(r:List (Nat×AV))(B:qan):
 qau X T (.regionF false na live fs) ⟨r,B⟩=qdD live (xFs (qaf X) X.lin T false B.length fs ⟨r,B++List.replicate na none⟩):=by
 rw[qhM];simp[qcX,qdD,Function.comp_def]
theorem qHS(X:XEnv)(T:List Nat)(na:Nat)(live:List Nat)(fs:List FOper)(h:qfs (qhB fs)=true)(r:List (Nat×AV))(B:qan):
 qau X T (.regionF true na live fs) ⟨r,B⟩=qdD live (xFs (qaf X) X.lin T true B.length fs ⟨r,B++List.replicate na none⟩):=by
 rw[qhM];simp[qcX,qdD,Function.comp_def,h]
attribute [simp] qTI qLk qTK qTJ qPS qPR qQg qPT qQh qLF qLE qxI FOper.pre
attribute [simp] qd1 qCf qw6 qw4 qw5 qPW qPY qLc qHQ qLg qC8 qP3 qxL qxG qLm qHT qC9 qPU qLf qiI qo5 qvt qLh qHW qvj qP5 qHR qP2 qPX qLl qHP qrw qoV qoU qTO qQi qry qHM qvk qP0 qPZ qLd qPV qLb qru qLj qHX qDa qP4 qLi qC7 qHL qxJ qLe qrv qoW qP1 qHN qHU qDb qxs qB0 qw0 qxt qwu qsy qws qwt qwr qu3 qKq qLI qQn qQm qyP qLJ qIl qD2 qwL qsU qFm qyG qLG qQl qTQ qQj qQk qLK w_n qTP qLH w_T qTR qTT qTS qLN qLM qLL qFh qBw qBv qRQ qJ3 qOi qmq qR4 qJ9 qR3 qR0 qOw qOv qKa qJ8 qsW qwU qsX qwT qR2 qR1 qJ7 qOh qOg qOf qRY qT3 qJ0 qRX qRU qOm qOe qJ2 qJY qOo qOl qJ4 qRZ qOn qJZ qFp qRW qOj qOk qRV qFo qJX qBp qBo qJR qJt qN3 qNK qFg qBj qwY qLs qLt qH4 qxY qvs qrC qH5 qxZ qx0 qwH qwG qOI qKi qOG qOH qOJ qKl qFy qKj qKk qs9 qFA qCm qHE qKn qKm qOM qFC qKp qKo qCn qFD qFB qxT qvp qrB qiH qo1 qxX qvr qB2 qwW qwZ qJx qmt ql0 qJ1 qq7 qoL qRT qcC qeV qny qgM qmy qbx qb6 qa6 qbI qcy qae
theorem qkg(q:Ex×XS)(k:XS->Option (Ex×XS))(h:q.1≠.normal):qo6 (some q) k=some q:=by
 obtain⟨e,s'⟩:=q;cases e with
 |normal=>exact absurd rfl h
 |exit id=>rfl
 |ret=>rfl
def qIg{β γ:Type}(L:Nat)(live:List Nat)(st:β->Nat->XS)(R:γ->Ex×XS)(i:Nat)(o:Option (Ex×XS)):β⊕γ->Prop
 | .inl a'=>∃s',o=some (.normal,s')/\qag L live s'=some (st a' (i+1))
 | .inr r=>(R r).1≠.normal/\o=some (R r)
theorem qho{X:XEnv}{T:List Nat}{L:Nat}{live:List Nat}{b:VCode}{β γ:Type}{n:Nat}{st:β->Nat->XS}{step:β->Nat->β⊕γ}{F:β->Ex×XS}{R:γ->Ex×XS}(Inv:β->Nat->Prop)
 (hend:∀a,Inv a n->(F a).1≠.normal/\qau X T b (st a n)=some (F a))
 (hstep:∀a i,i<n->Inv a i->qIg L live st R i (qau X T b (st a i)) (step a i)/\∀a',step a i= .inl a'->Inv a' (i+1)):
 ∀(k:Nat) (a:β) (i:Nat) (s:XS),i+k=n->Inv a i->qag L live s=some (st a i)->qbj X T L live b s=some (match runN step k a i with| .inl a'=>F a'| .inr r=>R r)
 |0,a,i,s,hk,hi,hs=>by
  have:i=n:=by omega
  subst this;obtain⟨h1,h2⟩:=hend a hi;rw[qek,hs];simp only[Option.bind_some,h2,runN];exact qkg _ _ h1
 |k+1,a,i,s,hk,hi,hs=>by
  obtain⟨h,hinv⟩:=hstep a i (by omega) hi;rw[qek,hs];simp only[Option.bind_some,runN];generalize step a i=q at h hinv;cases q with
  |inl a'=>
   obtain⟨s',h1,h2⟩:=h;have h3:=qho Inv hend hstep k a' (i+1) s' (by omega) (hinv a' rfl) h2;rw[h1];exact h3
  |inr r=>
   obtain⟨h1,h2⟩:=h;rw[h2];exact qkg _ _ h1
theorem qat{X:XEnv}{T:List Nat}{L:Nat}{live:List Nat}{b:VCode}{β γ:Type}{n:Nat}{st:β->Nat->XS}{step:β->Nat->β⊕γ}{F:β->Ex×XS}{R:γ->Ex×XS}
 (hend:∀a,(F a).1≠.normal/\qau X T b (st a n)=some (F a))
 (hstep:∀a i,i<n->qIg L live st R i (qau X T b (st a i)) (step a i)) (k:Nat) (a:β) (i:Nat) (s:XS) (hk:i+k=n) (hs:qag L live s=some (st a i)):
 qbj X T L live b s=some (match runN step k a i with| .inl a'=>F a'| .inr r=>R r):=
 qho (fun _ _=>True) (fun a _=>hend a) (fun a i hi _=>⟨hstep a i hi,fun _ _=>trivial⟩) k a i s hk trivial hs
theorem qa7{X:XEnv}{T:List Nat}{L:Nat}{live:List Nat}{b:VCode}{s s0 s':XS}(h:qag L live s=some s0)(hb:qau X T b s0=some (.normal,s')):qbj X T L live b s=qbj X T L live b s':=by
 rw[qek,h];simp only[Option.bind_some,hb];rfl
theorem qaL{X:XEnv}{T:List Nat}{L:Nat}{live:List Nat}{b:VCode}{s s0:XS}{q:Ex×XS}(h:qag L live s=some s0)(hb:qau X T b s0=some q)(hq:q.1≠.normal):qbj X T L live b s=some q:=by
 rw[qek,h];simp only[Option.bind_some,hb];exact qkg _ _ hq
end Go.Proofs.Ytfiakfiocdfpbaa.VS
