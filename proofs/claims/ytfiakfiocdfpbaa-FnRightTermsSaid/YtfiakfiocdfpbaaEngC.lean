/- The engine, part 5: a call of the program answers what an evaluator of values without memory answers, for the functions whose code is the one that the evaluator is given. -/
import Derived.Test.YtfiakfiocdfpbaaEngE
set_option linter.unusedSimpArgs false
set_option linter.unusedVariables false
namespace Go.Proofs.Ytfiakfiocdfpbaa.VS
open Classical
section
variable {A0:Ids} {T:List Nat} {F:Id->Prop} {p:Id} {sx:XS} {sv:St}
structure Back(F:Id->Prop)(p:Id)(A0:Ids)(v':AV)(B':qak)(r:Res):Prop where
 fit:v'.fit r.v
 boxes:qa5 B' r.B
 held:Held F (fun _=>False) r.A (qab [(0,v')] B' [(0,r.v)] r.B)
 am:∀a,r.A a=true->A0 a=true\/Fut p 0 a
theorem Rel.back{k:Nat}(h:Rel A0 T F p k sx sv){B' Bv':qak}(hb:qa5 B' Bv')(hbo:∀j,(qbD B' Bv' j).Sublist (qbD sx.B sv.B j)){v' u:AV}(hf:v'.fit u){A':Ids}
 (hnd:(v'.own u).Nodup) (hin:∀a,a∈v'.own u->A' a=true/\¬F a/\∀j,a∉qbD B' Bv' j) (hA:∀a,sv.A a=true->A' a=true) (ham:∀a,A' a=true->A0 a=true\/Fut p 0 a):
 Back F p A0 v' B' ⟨u,A',Bv'⟩:=by
 refine⟨hf,hb,⟨fun ℓ=> ?_,fun ℓ ℓ' a ha ha'=> ?_,fun ℓ a ha=> ?_,fun a ha=>⟨hA a (h.held.fr a ha).1,id⟩⟩,ham⟩
 ·cases ℓ with
  |reg t=>simp only[qab,qa4];split
          ·exact hnd
          ·simp
  |box j=>exact(h.held.nodup (.box j)).sublist (hbo j)
 ·cases ℓ with
  |reg t=>
   simp only[qab,qa4]at ha;split at ha
   ·rename_i ht;subst ht
    cases ℓ' with
    |reg t'=>
     simp only[qab,qa4]at ha';split at ha'
     ·rename_i ht;subst ht;rfl
     ·simp at ha'
    |box j=>exact absurd ha' ((hin a ha).2.2 j)
   ·simp at ha
  |box j=>
   cases ℓ' with
   |reg t'=>
    simp only[qab,qa4]at ha';split at ha'
    ·exact absurd ha ((hin a ha').2.2 j)
    ·simp at ha'
   |box j'=>
    have:=h.held.apart (.box j) (.box j') a ((hbo j).subset ha) ((hbo j').subset ha');exact this
 ·cases ℓ with
  |reg t=>
   simp only[qab,qa4]at ha;split at ha
   ·exact⟨(hin a ha).1,(hin a ha).2.1,id⟩
   ·simp at ha
  |box j=>
   obtain⟨q1,q2,_⟩:=h.held.opn (.box j) a ((hbo j).subset ha);exact⟨hA a q1,q2,id⟩
theorem qaR(B Bv:qak)(n j:Nat):(qbD (B.take n) (Bv.take n) j).Sublist (qbD B Bv j):=by
 simp only[qbD,qe4]
 by_cases hj:j<n
 ·simp[hj]
 ·simp[hj]
theorem qBF{k:Nat}(h:Rel A0 T F p k sx sv){r:VRes}{v:AV}(hr:qkm sx r=some v):∃u,qiQ sv r=some u/\v.fit u/\∀a,a∈v.own u->∃t,r= .tmp t/\T.contains t=true/\a∈qbX sx.r sv.r t:=by
 cases r with
 |tmp t=>
  simp only[qkm]at hr;obtain⟨u,h1,h2⟩:=h.regs t v hr;refine⟨u,h1,h2,fun a ha=>⟨t,rfl,?_,?_⟩⟩
  ·cases ht:T.contains t with
   |true=>rfl
   |false=>
    have:=h.nl t ht;unfold qbX at this;rw[hr,h1]at this;simp only at this
    rw[this]at ha;simp at ha
  ·unfold qbX;rw[hr,h1];exact ha
 |cell t agg sz=>
  simp only[qkm]at hr;split at hr
  ·rename_i i off h1
   obtain⟨w,h2,rfl⟩:=Option.map_eq_some_iff.1 hr;obtain⟨u,cs,ds,h3,h4,_⟩:=qec h.boxes h2;obtain⟨x,h5,h6⟩:=h.regs t _ h1;simp only[AV.fit]at h6;subst h6
   exact⟨u,by simp only[qiQ,h5,h3],AV.qbW _ _ h4,fun a ha=>by rw[AV.qbb]at ha;simp at ha⟩
  ·simp at hr
theorem qfT{k:Nat}(h:Rel A0 T F p k sx sv):∀(rs:List VRes) (vs:List AV),qan T (rs.flatMap VRes.vx)=true->qfF sx rs=some vs->∃us,qeD sv rs=some us/\AV.fits vs us/\(AV.owns vs us).Nodup/\
 (∀a,a∈AV.owns vs us->∃t,VX.t t∈rs.flatMap VRes.vx/\T.contains t=true/\a∈qbX sx.r sv.r t)/\(∀a,a∈AV.owns vs us->sv.A a=true/\¬F a/\∀j,a∉qbD sx.B sv.B j)
 | [],vs,_,hx=>by simp[qfF]at hx;subst hx;exact⟨[],rfl,by simp[AV.fits],by simp[AV.owns],by simp[AV.owns],by simp[AV.owns]⟩
 |r::rs,vs,hd,hx=>by
  simp only[qfF]at hx;obtain⟨v,h1,h2⟩:=Option.bind_eq_some_iff.1 hx;obtain⟨vs',h3,rfl⟩:=Option.map_eq_some_iff.1 h2;obtain⟨u,h4,h5,h6⟩:=qBF h h1;have hd2:qan T (rs.flatMap VRes.vx)=true:=by
   cases r with
   |tmp t=>exact(qbr (by simpa[VRes.vx]using hd)).2
   |cell t a s=>simpa[VRes.vx]using hd
  obtain⟨us,g1,g2,g3,g4,g5⟩:=qfT h rs vs' hd2 h3;refine⟨u::us,by simp[qeD,h4,g1],by simp only[AV.fits];exact⟨_,_,rfl,h5,g2⟩,?_,fun a ha=> ?_,fun a ha=> ?_⟩
  ·simp only[AV.owns]
   rw[List.nodup_append];refine⟨?_,g3,fun a ha b hb he=> ?_⟩
   ·cases r with
    |tmp t=>
     have:=h.held.nodup (.reg t);simp only[qab,qbX]at this;simp only[qkm]at h1;simp only[qiQ]at h4
     rw[h1,h4]at this;exact this
    |cell t ag s=>
     have:v.own u=[]:=List.eq_nil_iff_forall_not_mem.2 fun a ha=>by obtain⟨t',h7,_⟩:=h6 a ha;simp at h7
     rw[this];simp
   ·subst he
    obtain⟨t,rfl,ht,h7⟩:=h6 a ha;obtain⟨t',h8,ht',h9⟩:=g4 a hb;have:=h.held.apart (.reg t) (.reg t') a h7 h9;simp at this;subst this
    exact(qbr (by simpa[VRes.vx]using hd)).1 t rfl ht h8
  ·simp only[AV.owns,List.mem_append]at ha
   rcases ha with ha|ha
   ·obtain⟨t,rfl,ht,h7⟩:=h6 a ha
    exact⟨t,by simp[VRes.vx],ht,h7⟩
   ·obtain⟨t,h8,h9⟩:=g4 a ha
    exact⟨t,by simp only[List.flatMap_cons,List.mem_append];exact .inr h8,h9⟩
  ·simp only[AV.owns,List.mem_append]at ha
   rcases ha with ha|ha
   ·obtain⟨t,rfl,ht,h7⟩:=h6 a ha
    obtain⟨q1,q2,q3⟩:=h.held.opn (.reg t) a h7;exact⟨q1,q2,fun j hj=>by have:=h.held.apart (.reg t) (.box j) a h7 hj;simp at this⟩
   ·exact g5 a ha
theorem qkb(h:Rel A0 T F p sv.c sx sv){L:Nat}{rs:List VRes}(hd:qan T (rs.flatMap VRes.vx)=true){v':AV}{B':qak}(hx:qdZ L sx rs=some (v',B')):
 ∃r,finish L p sv rs=some r/\Back F p A0 v' B' r:=by
 have ham:∀a,sv.A a=true->A0 a=true\/Fut p 0 a:=fun a ha=>(h.am a ha).2
 have many:∀vs ds,qfF sx rs=some vs->qay vs=some ds->∃us es,qeD sv rs=some us/\AV.fits vs us/\qay us=some es/\us=es.map .d/\Back F p A0 (.d (.tup ds)) (sx.B.take L) ⟨.d (.tup es),sv.A,sv.B.take L⟩:=by
  intro vs ds h1 h2;obtain⟨us,g1,g2,g3,g4,g5⟩:=qfT h rs vs hd h1;obtain⟨es,e1,e2,e3⟩:=qbT h2 g2;have hus:us=es.map .d:=by
   clear g1 g2 g3 g4 g5 e2 e3
   induction us generalizing es with
   |nil=>simp[qay]at e1;subst e1;rfl
   |cons u us ih=>
    cases u with
    |d d=>
     simp only[qay]at e1;obtain⟨es',h3,rfl⟩:=Option.map_eq_some_iff.1 e1;rw[ih es' h3];rfl
    |_=>simp[qay]at e1
  refine⟨us,es,g1,g2,e1,hus,h.back (h.boxes.take L) (qaR _ _ L) (by simp only[AV.fit,DV.fit];exact⟨_,rfl,_,rfl,e2⟩) (by simp only[AV.own,DV.own];rw[<-e3];exact g3) (fun a ha=> ?_) (fun a ha=>ha) ham⟩;simp only[AV.own,DV.own]at ha;rw[<-e3]at ha;obtain⟨q1,q2,q3⟩:=g5 a ha;exact⟨q1,q2,fun j hj=>q3 j ((qaR _ _ L j).subset hj)⟩
 unfold qdZ at hx;split at hx
 ·rename_i v h1
  simp at hx;obtain⟨rfl,rfl⟩:=hx
  obtain⟨us,g1,g2,g3,g4,g5⟩:=qfT h rs _ hd h1;simp only[AV.fits]at g2;obtain⟨u,_,rfl,hfu,rfl⟩:=g2;simp only[AV.fit]at hfu;obtain⟨y,rfl,hfy⟩:=hfu;simp only[AV.owns,List.append_nil]at g3 g5;refine⟨_,by unfold finish;rw[g1],h.back (h.boxes.take L) (qaR _ _ L) (by simp only[AV.fit];exact⟨_,rfl,hfy⟩) g3 (fun a ha=> ?_) (fun a ha=>ha) ham⟩;obtain⟨q1,q2,q3⟩:=g5 a ha;exact⟨q1,q2,fun j hj=>q3 j ((qaR _ _ L j).subset hj)⟩
 ·rename_i i off h1
  simp at hx;obtain⟨rfl,rfl⟩:=hx
  obtain⟨us,g1,g2,g3,g4,g5⟩:=qfT h rs _ hd h1;simp only[AV.fits]at g2;obtain⟨u,_,rfl,hfu,rfl⟩:=g2;simp only[AV.fit]at hfu;subst hfu;exact⟨_,by unfold finish;rw[g1],h.back h.boxes (fun j=>List.Sublist.refl _) (by simp[AV.fit]) (by simp[AV.own]) (by simp[AV.own]) (fun a ha=>ha) ham⟩
 ·rename_i id agg i sz n h1
  split at hx
  ·rename_i hc
   obtain⟨cs,h2,h3⟩:=Option.bind_eq_some_iff.1 hx;obtain⟨bs,h4,h5⟩:=Option.bind_eq_some_iff.1 h2;split at h3
   ·rename_i hlen
    obtain⟨xs,h6,h7⟩:=Option.map_eq_some_iff.1 h3;simp at h7;obtain⟨rfl,rfl⟩:=h7
    obtain⟨us,g1,g2,g3,g4,g5⟩:=qfT h rs _ hd h1;simp only[AV.fits]at g2;obtain⟨u,_,rfl,hfu,rfl⟩:=g2;simp only[AV.fit]at hfu;obtain⟨id',rfl⟩:=hfu;obtain⟨ds,q1,q2⟩:=h.boxes.get h4;obtain⟨es,q3,q4,q5⟩:=qbT h5 q2;obtain⟨ys,q6,q7,q8,q9,q10⟩:=qfq agg sz n cs es xs q4 h6;have hbo:qbD sx.B sv.B i=DV.owns cs es:=by unfold qbD;rw[h4,q1];exact q5
    have hnb:∀a,a∈DV.owns xs ys->a∈qab sx.r sx.B sv.r sv.B (.box i):=fun a ha=>by simp only[qab];rw[hbo];exact q9.subset ha
    have hnf:¬sv.A (sv.c::p)=true:=fun ha=>(h.am _ ha).1 (Fut.self p _)
    refine⟨⟨.d (.sl (.own (sv.c::p) sz) ys),Ids.add (sv.c::p) sv.A,sv.B.take L⟩,?_,?_⟩
    ·unfold finish
     rw[g1];simp only;rw[if_pos hc,q1];simp only[Option.bind_some,q3];rw[if_pos (by rw[<-DV.qai q4];exact hlen),q6];rfl
    ·refine h.back (h.boxes.take L) (qaR _ _ L) ?_ ?_ (fun a ha=> ?_) (fun a ha=>by simp[Ids.add,ha]) (fun a ha=> ?_)
     ·simp only[AV.fit,DV.fit]
      refine⟨_,rfl,_,_,rfl,q7,.inr ⟨rfl,?_⟩⟩
      by_cases hn:xs.length=0
      ·exact .inl ⟨hn,.inr ⟨_,_,rfl⟩⟩
      ·exact .inr ⟨hn,_,_,rfl,q8⟩
     ·simp only[AV.own,DV.own]
      rw[List.nodup_append];refine⟨by split<;>simp[Tag.ids],((h.held.nodup (.box i)).sublist (by simp only[qab];rw[hbo];exact q9)),fun a ha b hb he=> ?_⟩;split at ha<;>simp[Tag.ids]at ha
      subst ha;subst he
      exact hnf (h.held.opn _ _ (hnb _ hb)).1
     ·simp only[AV.own,DV.own,List.mem_append]at ha
      rcases ha with ha|ha
      ·split at ha<;>simp[Tag.ids]at ha
       subst ha;refine⟨by simp[Ids.add],fun hF=>hnf (h.held.fr _ hF).1,fun j hj=> ?_⟩;exact hnf (h.held.opn (.box j) _ ((qaR _ _ L j).subset hj)).1
      ·obtain⟨z1,z2,_⟩:=h.held.opn _ a (hnb a ha)
       refine⟨by simp[Ids.add,z1],z2,fun j hj=> ?_⟩;have:=h.held.apart (.box i) (.box j) a (hnb a ha) ((qaR _ _ L j).subset hj);simp at this;subst this
       simp only[qbD,qe4]at hj;rw[if_neg (by omega)]at hj;simp at hj
     ·simp only[Ids.add,Bool.or_eq_true,decide_eq_true_eq]at ha
      rcases ha with rfl|ha
      ·exact .inr ((Fut.self p _).le (Nat.zero_le _))
      ·exact ham a ha
   ·simp at h3
  ·simp at hx
 ·simp at hx
 ·rename_i vs hn1 hn2 hn3 hn4 h1
  obtain⟨ds,h2,h3⟩:=Option.map_eq_some_iff.1 hx;simp at h3;obtain⟨rfl,rfl⟩:=h3
  obtain⟨us,es,g1,g2,g3,g4,g5⟩:=many vs ds h1 h2;refine⟨_,?_,g5⟩;unfold finish;rw[g1]
  match us,g2 with
  | [],_=>simp at g4;simp[qay]at g3;subst g3;rfl
  | [u],g2=>
   have hl:=AV.qai g2
   match vs,hl with
   | [x],_=>exact absurd rfl (hn4 x)
  |u::u'::us,_=>simp only[g3,Option.map_some]
 ·simp at hx
theorem qgU(h:Rel A0 T F p sv.c sx sv){L:Nat}{rs:List VRes}(hd:qan T (rs.flatMap VRes.vx)=true){v':AV}{B':qak}(hx:qcg L sx rs=some (v',B')):
 ∃r,finish L p sv rs=some r/\Back F p A0 v' B' r:=by
 unfold qcg at hx;split at hx
 ·rename_i t agg sz
  unfold qk8 at hx;split at hx
  ·rename_i i off h1
   split at hx
   ·rename_i hL
    split at hx
    ·rename_i v h2
     simp at hx;obtain⟨rfl,rfl⟩:=hx
     obtain⟨u,cs,ds,h3,h4,h5,h6,h7,h8,h9⟩:=qec h.boxes h2;obtain⟨x,g1,g2⟩:=h.regs t _ h1;simp only[AV.fit]at g2;subst g2
     have h4':=h4;simp only[AV.fit]at h4';obtain⟨y,rfl,hy⟩:=h4';have hbo:qbD sx.B sv.B i=AV.owns cs ds:=by unfold qbD;rw[h5,h6]
     have hsub:((AV.d v).own (.d y)).Sublist (AV.owns cs ds):=by
      rw[h8,AV.qbx (AV.qai h7) off];refine List.Sublist.trans ?_ (List.sublist_append_right _ _);rw[AV.qbx (a:=cs.drop off) (c:=ds.drop off) (by simp[AV.qai h7]) (if agg=true then sz else 1)];exact List.sublist_append_left _ _
     refine⟨_,by unfold finish;simp only[qeD,qiQ,g1,h3,Option.bind_some,Option.map_some],h.back (h.boxes.take L) (qaR _ _ L) h4 ((h.held.nodup (.box i)).sublist (by simp only[qab];rw[hbo];exact hsub)) (fun a ha=> ?_) (fun a ha=>ha) (fun a ha=>(h.am a ha).2)⟩;have ha2:a∈qab sx.r sx.B sv.r sv.B (.box i):=by simp only[qab];rw[hbo];exact hsub.subset ha
     obtain⟨q1,q2,_⟩:=h.held.opn _ a ha2;refine⟨q1,q2,fun j hj=> ?_⟩;have:=h.held.apart (.box i) (.box j) a ha2 ((qaR _ _ L j).subset hj);simp at this;subst this
     simp only[qbD,qe4]at hj;rw[if_neg (by omega)]at hj;simp at hj
    ·simp at hx
   ·simp at hx
  ·simp at hx
 ·rename_i t1 g1 z1 t2 g2 z2 t3
  unfold qtj at hx;split at hx
  ·rename_i i1 o1 i2 o2 b e1 e2 e3
   split at hx
   ·rename_i hL
    obtain⟨hL1,hL2,hne⟩:=hL;split at hx
    ·rename_i v1 v2 l1 l2
     simp at hx;obtain⟨rfl,rfl⟩:=hx
     have one:∀(t i off:Nat) (g:Bool) (z:Nat) (v:DV),lk sx.r t=some (.ptr i off)->qae sx.B g z i off=some (.d v)->∃y,qiQ sv (.cell t g z)=some (.d y)/\v.fit y/\(v.own y).Sublist (qbD sx.B sv.B i):=by
      intro t i off g z v q1 q2;obtain⟨u,cs,ds,h3,h4,h5,h6,h7,h8,h9⟩:=qec h.boxes q2;obtain⟨x,r1,r2⟩:=h.regs t _ q1;simp only[AV.fit]at r2;subst r2
      have h4':=h4;simp only[AV.fit]at h4';obtain⟨y,rfl,hy⟩:=h4';have hbo:qbD sx.B sv.B i=AV.owns cs ds:=by unfold qbD;rw[h5,h6]
      have hsub:((AV.d v).own (.d y)).Sublist (AV.owns cs ds):=by
       rw[h8,AV.qbx (AV.qai h7) off];refine List.Sublist.trans ?_ (List.sublist_append_right _ _);rw[AV.qbx (a:=cs.drop off) (c:=ds.drop off) (by simp[AV.qai h7]) (if g=true then z else 1)];exact List.sublist_append_left _ _
      exact⟨y,by simp only[qiQ,r1,h3],hy,by rw[hbo];exact hsub⟩
     obtain⟨y1,a1,a2,a3⟩:=one t1 i1 o1 g1 z1 v1 e1 l1;obtain⟨y2,b1,b2,b3⟩:=one t2 i2 o2 g2 z2 v2 e2 l2;obtain⟨x,c1,c2⟩:=h.regs t3 _ e3;simp only[AV.fit]at c2;obtain⟨y3,rfl,c3⟩:=c2;have hy3:y3= .bool b:=by simpa only[DV.fit]using c3
     subst hy3;have hown:DV.owns [v1,v2,.bool b] [y1,y2,.bool b]=v1.own y1++(v2.own y2++[]):=by simp only[DV.owns,DV.own,List.append_nil]
     have good:∀i a,L<=i->a∈qbD sx.B sv.B i->sv.A a=true/\¬F a/\∀j,a∉qbD (sx.B.take L) (sv.B.take L) j:=fun i a hi ha=>by
      have ha2:a∈qab sx.r sx.B sv.r sv.B (.box i):=ha;obtain⟨q1,q2,_⟩:=h.held.opn _ a ha2;refine⟨q1,q2,fun j hj=> ?_⟩;have:=h.held.apart (.box i) (.box j) a ha2 ((qaR _ _ L j).subset hj);simp at this;subst this
      simp only[qbD,qe4]at hj;rw[if_neg (by omega)]at hj;simp at hj
     have hr3:qiQ sv (.tmp t3)=some (.d (.bool b)):=c1;refine⟨⟨.d (.tup [y1,y2,.bool b]),sv.A,sv.B.take L⟩,by unfold finish;simp only[qeD,a1,b1,hr3,Option.bind_some,Option.map_some,qay],h.back (h.boxes.take L) (qaR _ _ L) ?_ ?_ (fun a ha=> ?_) (fun a ha=>ha) (fun a ha=>(h.am a ha).2)⟩
     ·simp only[AV.fit,DV.fit,DV.fits]
      exact⟨_,rfl,_,rfl,_,_,rfl,a2,_,_,rfl,b2,_,_,rfl,rfl,rfl⟩
     ·simp only[AV.own,DV.own,hown,List.append_nil]
      rw[List.nodup_append];refine⟨(h.held.nodup (.box i1)).sublist a3,(h.held.nodup (.box i2)).sublist b3,fun q hq q' hq' he=> ?_⟩;subst he;have:=h.held.apart (.box i1) (.box i2) q (a3.subset hq) (b3.subset hq');simp at this;exact hne this
     ·simp only[AV.own,DV.own,hown,List.append_nil,List.mem_append]at ha
      rcases ha with ha|ha
      ·exact good i1 a hL1 (a3.subset ha)
      ·exact good i2 a hL2 (b3.subset ha)
    ·simp at hx
   ·simp at hx
  ·simp at hx
 ·exact qkb h hd hx
theorem qgw{x v:DV}(h:x.fit v):v.flat=x.flat:=by
 cases x<;>simp only[DV.fit]at h
 case agg cs=>obtain⟨ds,rfl,h1⟩:=h;rfl
 case sl g xs=>
  obtain⟨g',ys,rfl,h1,h2⟩:=h;cases xs with
  |nil=>simp only[DV.fits]at h1;subst h1;rfl
  |cons x r=>simp only[DV.fits]at h1;obtain⟨y,ys',rfl,_,_⟩:=h1;rfl
 case tup cs=>obtain⟨ds,rfl,h1⟩:=h;rfl
 all_goals subst h;rfl
theorem qq0{sx:XS}{sv:St}{k:Nat}(h:Rel A0 T F p k sx sv){y:DV×DV}(hy:qgQ sx=some y):
 ∃y',qku sv=some y'/\y.1.fit y'.1/\y.2.fit y'.2/\y.1.own y'.1=[]/\y.2.own y'.2=[]:=by
 unfold qgQ at hy;split at hy
 ·rename_i x0 x1 x2 z0 z1 z2 e1 e2 e3
  split at hy
  ·rename_i hc
   simp only[Option.some.injEq]at hy;subst hy
   obtain⟨v3,g1,g2⟩:=h.regs 3 _ e1;obtain⟨v4,g3,g4⟩:=h.regs 4 _ e2;simp only[AV.fit]at g2 g4;subst g2;subst g4
   have hb:=h.boxes;rw[e3]at hb;obtain⟨c0,b1,b2⟩:=(hb.2 0).2 _ rfl;obtain⟨c1,b3,b4⟩:=(hb.2 1).2 _ rfl;simp only[AV.fits,AV.fit]at b2 b4;obtain⟨_,_,rfl,⟨w0,rfl,f0⟩,_,_,rfl,⟨w1,rfl,f1⟩,w2,_,rfl,_,rfl⟩:=b2;obtain⟨_,_,rfl,⟨u0,rfl,q0⟩,_,_,rfl,⟨u1,rfl,q1⟩,_,_,rfl,⟨u2,rfl,q2⟩,rfl⟩:=b4;have hB:sv.B=[some [.d w0,.d w1,w2],some [.d u0,.d u1,.d u2]]:=by
    have hl:=hb.1
    match hs:sv.B,hl with
    | [m,n],_=>
     rw[hs]at b1 b3;simp at b1 b3;subst b1;subst b3;rfl
   refine⟨(w0,w1),?_,DV.qbW _ _ f0,DV.qbW _ _ f1,DV.qbb _ _,DV.qbb _ _⟩;unfold qku;rw[g1,g3,hB];simp only;rw[qgw f0,qgw f1,qgw q0,qgw q1,qgw q2,DV.qdd f0,DV.qdd f1,if_pos hc]
  ·simp at hy
 ·simp at hy
theorem qfy:∀{xs vs:List DV},DV.fits xs vs->DV.fits (xs.flatMap DV.cells) (vs.flatMap DV.cells)/\DV.owns (xs.flatMap DV.cells) (vs.flatMap DV.cells)=DV.owns xs vs
 | [],vs,h=>by simp only[DV.fits]at h;subst h;simp[DV.fits,DV.owns]
 |x::xs,vs,h=>by
  simp only[DV.fits]at h;obtain⟨v,vs,rfl,h1,h2⟩:=h;obtain⟨q1,q2⟩:=qfy h2;simp only[List.flatMap_cons];exact⟨DV.qaT (DV.qaP h1) q1,by rw[DV.qaL (DV.qai (DV.qaP h1)),DV.qcF h1,q2];simp only[DV.owns]⟩
theorem qxa{X:qar}{V:qap}{lin:Nat->List Nat}(href:qcv X V lin){sf:SFn}{A:Ids}{a:Id}{sz:Nat}{x y:DV}{xr yr:List DV}{q:Id}
 (h1:x.fit y) (h2:DV.fits xr yr) (hA:∀b,b∈a::DV.owns (x::xr) (y::yr)->A b=true/\¬Fut q 0 b) (hnd:(a::DV.owns (x::xr) (y::yr)).Nodup)
 (hsz:∀e:DV,e∈y::yr->e.cells.length=sz) {r:List DV} (hx:qgS X sf x xr=some r):
 ∃r' A1,qli V q sf A a y yr=some (r',Ids.add a A1)/\DV.fits r r'/\r.length=xr.length+1/\(∀e:DV,e∈r'->e.cells.length=sz)/\(a::DV.owns r r').Nodup/\(∀b,b∈DV.owns r r'->A1 b=true)/\(∀b,A1 b=true->b∈DV.owns (x::xr) (y::yr)\/Fut q 0 b):=by
 unfold qgS at hx;split at hx
 ·rename_i hu
  have hf:DV.fits (x::xr) (y::yr):=by simp only[DV.fits];exact⟨_,_,rfl,h1,h2⟩
  obtain⟨l,hl1,hl2⟩:=qdn _ _ hf hu;obtain⟨c1,c2⟩:=qfy hf;rw[List.nodup_cons]at hnd;split at hx
  ·rename_i v cs hcall
   obtain⟨es,d1,hx⟩:=Option.bind_eq_some_iff.1 hx;split at hx
   ·rename_i hlen
    have hfa:AV.fits [AV.tsl true 0 x.cells.length (xr.length+1),.fn sf.cmp []] [AV.tsl true 0 y.cells.length (yr.length+1),.fn sf.cmp []]:=by
     simp only[AV.fits,AV.fit];rw[DV.qbd h1,<-DV.qai h2];exact⟨_,_,rfl,rfl,_,_,rfl,⟨_,rfl,rfl,by simp[AV.owns]⟩,rfl⟩
    have hre:∀j,qbX (qah 0 [AV.tsl true 0 x.cells.length (xr.length+1),.fn sf.cmp []]) (qah 0 [AV.tsl true 0 y.cells.length (yr.length+1),.fn sf.cmp []]) j=[]:=by
     intro j;rw[qcQ]
     match j with
     |0=>simp[AV.own]
     |1=>simp[AV.own]
     |j+2=>simp
    have hbx:∀j,qbD [some (((x::xr).flatMap DV.cells).map AV.d)] [some (((y::yr).flatMap DV.cells).map AV.d)] j=if j=0 then DV.owns (x::xr) (y::yr)else []:=by
     intro j;unfold qbD qa1
     match j with
     |0=>simp only[List.getElem?_cons_zero,if_true];show AV.owns _ _=_;rw[AV.qfD,c2]
     |j+1=>simp
    have hlo:∀ℓ b,b∈qab (qah 0 [AV.tsl true 0 x.cells.length (xr.length+1),.fn sf.cmp []]) [some (((x::xr).flatMap DV.cells).map AV.d)] (qah 0 [AV.tsl true 0 y.cells.length (yr.length+1),.fn sf.cmp []]) [some (((y::yr).flatMap DV.cells).map AV.d)] ℓ->ℓ= .box 0/\b∈DV.owns (x::xr) (y::yr):=by
     intro ℓ b hb;cases ℓ with
     |reg t=>simp only[qab,hre]at hb;simp at hb
     |box j=>
      simp only[qab,hbx]at hb;split at hb
      ·rename_i hj;subst hj;exact⟨rfl,hb⟩
      ·simp at hb
    obtain⟨u,Bv',A1,hV,_,hbf,hh,hnm⟩:=href _ _ _ _ _ hcall q _ [some (((y::yr).flatMap DV.cells).map AV.d)] (fun b=>l.contains b) (fun _=>False) hfa
     ⟨rfl,fun i=>by
      match i with
      |0=>exact⟨by simp,fun cs hc=>by simp at hc;subst hc;exact⟨_,rfl,by have:=AV.qe6 c1;simpa using this⟩⟩
      |i+1=>exact⟨by simp,fun cs hc=>by simp at hc⟩⟩
     ⟨fun ℓ=>by
      cases ℓ with
      |reg t=>simp only[qab,hre];simp
      |box j=>simp only[qab,hbx];split
              ·exact hnd.2
              ·simp,
      fun ℓ ℓ' b hb hb'=>by rw[(hlo ℓ b hb).1,(hlo ℓ' b hb').1],
      fun ℓ b hb=>⟨by simpa using hl2.mem_iff.2 (hlo ℓ b hb).2,id,(hA b (List.mem_cons_of_mem _ (hlo ℓ b hb).2)).2⟩,fun b hb=>by simp at hb⟩
     (fun j _=>hre j) (fun b hb=>by
      have:b∈l:=by simpa using hb
      exact(hA b (List.mem_cons_of_mem _ (hl2.mem_iff.1 this))).2)
    obtain⟨ds,e1,e2⟩:=(hbf.2 0).2 cs rfl;have hBv:Bv'=[some ds]:=by
     have hl:=hbf.1
     match Bv',hl with
     | [m],_=>simp at e1;subst e1;rfl
    subst hBv;obtain⟨es',d2,d3,d4⟩:=qbT d1 e2;obtain⟨r',k1,k2,k3,k4,k5⟩:=qfq _ _ _ _ _ _ d3 hx;have hown:∀b,b∈DV.owns r r'->A1 b=true:=fun b hb=>(hh.opn (.box 0) b (by simp only[qab,qbD,qa1];simp only[List.getElem?_cons_zero];show b∈AV.owns _ _;rw[d4];exact k4.subset hb)).1
    have hnd':(DV.owns r r').Nodup:=by
     have:=hh.nodup (.box 0);simp only[qab,qbD,qa1,List.getElem?_cons_zero]at this;have h':(AV.owns cs ds).Nodup:=this;rw[d4]at h';exact h'.sublist k4
    have hA1:∀b,A1 b=true->b∈DV.owns (x::xr) (y::yr)\/Fut q 0 b:=fun b hb=>(hnm b hb).imp_left fun h=>hl2.mem_iff.1 (by simpa using h)
    refine⟨r',A1,?_,k2,k5,fun e he=>by rw[k3 e he,<-DV.qbd h1];exact hsz y (by simp),?_,hown,hA1⟩
    ·unfold qli
     rw[hl1,Option.bind_some,if_pos ⟨(hA a (by simp)).1,List.all_eq_true.2 fun b hb=>(hA b (List.mem_cons_of_mem _ (hl2.mem_iff.1 hb))).1,by
      have:¬a∈l:=fun hm=>hnd.1 (hl2.mem_iff.1 hm)
      simpa using this⟩,hV]
     simp only[d2,Option.bind_some];rw[DV.qbd h1,<-DV.qai h2,if_pos (by rw[<-DV.qai d3];exact hlen),k1];rfl
    ·rw[List.nodup_cons]
     refine⟨fun hm=> ?_,hnd'⟩;rcases hA1 a (hown a hm)with h3|h3
     ·exact hnd.1 h3
     ·exact(hA a (by simp)).2 h3
   ·simp at hx
  ·simp at hx
 ·simp at hx
theorem qw9{X:qar}{V:qap}{lin:Nat->List Nat}(href:qcv X V lin){T:List Nat}{n:Nat}{sf:SFn}{p:Id}{ds es:List DV}(hf:DV.fits ds es)
 (hlin1:sf.pre.linOK T=true) (hlin2:sf.rest.linOK T=true) (hlin3:qan T (sf.results.flatMap VRes.vx)=true)
 (hz:∀j,qbX (qah 0 (ds.map .d)) (qah 0 (es.map .d)) j=[]) {v:DV} (hx:qid X lin T n sf ds=some v):
 ∃u A1,qmC V n p sf es=some (u,A1)/\v.fit u/\(v.own u).Nodup/\(∀a,a∈v.own u->A1 a=true)/\∀a,A1 a=true->Fut p 0 a:=by
 unfold qid at hx;split at hx
 ·simp at hx
 rename_i hlen;have hvf:=AV.qe6 hf;have hloc:∀ℓ,qab (qah 0 (ds.map AV.d)) [] (qah 0 (es.map AV.d)) [] ℓ=[]:=by
  intro ℓ;cases ℓ with
  |reg t=>exact hz t
  |box j=>simp[qab,qbD,qa1]
 have h0:Rel Ids.none T (fun _=>False) p (⟨qah 0 (es.map .d),[],Ids.none,0⟩:St).c ⟨qah 0 (ds.map .d),[]⟩ ⟨qah 0 (es.map .d),[],Ids.none,0⟩:=by
  refine⟨fun t x ht=> ?_,⟨rfl,by simp⟩,⟨fun ℓ=>by rw[hloc];simp,fun ℓ ℓ' a ha=>by rw[hloc]at ha;simp at ha,fun ℓ a ha=>by rw[hloc]at ha;simp at ha,fun a ha=>by simp at ha⟩,fun j _=>hz j,fun t ht=> ?_,fun a ha=>by simp[Ids.none]at ha⟩
  ·simp only[qed]at ht⊢
   simp only[Nat.zero_le,if_true,Nat.sub_zero]at ht⊢
   exact AV.qbM hvf ht
  ·simp only[qed]at ht⊢
   simp only[Nat.zero_le,if_true,Nat.sub_zero]at ht⊢
   rw[List.getElem?_eq_none_iff]at ht⊢
   have:=AV.qai hvf;omega
 obtain⟨⟨e,s1⟩,h1,h2⟩:=Option.bind_eq_some_iff.1 hx;obtain⟨v1,h3,h4⟩:=qig href n sf.pre hlin1 _ _ _ _ h0 h1;have hlen':¬es.length≠sf.np:=by rw[<-DV.qai hf];exact hlen
 have hrest:∀{e:Ex},(e= .normal)->((qaV X lin T n sf.rest s1).bind fun r2=>match r2.1 with
  | .exit _=>none
  |_=>(qcg 0 r2.2 sf.results).bind fun q=>match q.1 with
   | .d v=>some v
   |_=>none)=some v->∃u A1,((qaE V p n sf.rest v1).bind fun r2=>match r2.1 with
  | .exit _=>none
  |_=>(finish 0 p r2.2 sf.results).bind fun q=>match q.v with
   | .d v=>some (v,q.A)
   |_=>none)=some (u,A1)/\v.fit u/\(v.own u).Nodup/\(∀a,a∈v.own u->A1 a=true)/\∀a,A1 a=true->Fut p 0 a:=by
  intro _ _ hr;obtain⟨⟨e2,s2⟩,r1,r2⟩:=Option.bind_eq_some_iff.1 hr;obtain⟨v2,r3,r4⟩:=qig href n sf.rest hlin2 _ _ _ _ h4 r1;have key:((qcg 0 s2 sf.results).bind fun q=>match q.1 with
   | .d v=>some v
   |_=>none)=some v->∃u A1,((finish 0 p v2 sf.results).bind fun q=>match q.v with
   | .d v=>some (v,q.A)
   |_=>none)=some (u,A1)/\v.fit u/\(v.own u).Nodup/\(∀a,a∈v.own u->A1 a=true)/\∀a,A1 a=true->Fut p 0 a:=by
   intro hk;obtain⟨⟨w,B'⟩,k1,k2⟩:=Option.bind_eq_some_iff.1 hk;obtain⟨⟨w',Aw,Bw⟩,k3,k4⟩:=qgU r4 hlin3 k1;split at k2
   ·rename_i d hd
    simp only at hd;subst hd
    simp only[Option.some.injEq]at k2;subst k2
    have k5:=k4.fit;simp only[AV.fit]at k5;obtain⟨u,rfl,k6⟩:=k5;refine⟨u,Aw,by rw[k3];rfl,k6,?_,fun a ha=> ?_,fun a ha=> ?_⟩
    ·have:=k4.held.nodup (.reg 0)
     simp only[qab,qa4]at this;simpa[AV.own]using this
    ·exact(k4.held.opn (.reg 0) a (by simp only[qab,qa4];simpa[AV.own]using ha)).1
    ·rcases k4.am a ha with h|h
     ·simp[Ids.none]at h
     ·exact h
   ·simp at k2
  rw[r3,Option.bind_some];cases e2 with
  |exit id=>simp at r2
  |normal=>exact key r2
  |ret=>exact key r2
 unfold qmC;rw[if_neg hlen',h3,Option.bind_some];simp only at h2⊢
 split at h2
 ·rename_i x xr e1 e2
  obtain⟨vb,g1,g2⟩:=h4.regs _ _ e1;simp only[AV.fit,DV.fit]at g2;obtain⟨_,rfl,rfl⟩:=g2;obtain⟨vr,g3,g4⟩:=h4.regs _ _ e2;have g4':=g4;simp only[AV.fit,DV.fit]at g4;obtain⟨_,rfl,g',ys,rfl,g5,g6⟩:=g4;rcases g6 with g6|⟨_,g6⟩
  ·exact absurd g6 (by decide)
  rcases g6 with⟨g6,_⟩|⟨_,a,sz,rfl,g7⟩
  ·simp at g6
  have g5':=g5;simp only[DV.fits]at g5;obtain⟨y,yr,rfl,f1,f2⟩:=g5;obtain⟨w,m1,m2⟩:=Option.bind_eq_some_iff.1 h2;obtain⟨q,m3,m4⟩:=Option.map_eq_some_iff.1 m2;subst m4;obtain⟨w',n1,n2,n3,n4,n5⟩:=qq0 h4 m1;have hloc5:∀b,b∈a::DV.owns (x::xr) (y::yr)->b∈qab s1.r s1.B v1.r v1.B (.reg sf.row):=by
   intro b hb;simp only[qab,qbX,e2,g3,AV.own,DV.own];rw[if_pos ⟨rfl,by simp⟩];simpa[Tag.ids]using hb
  have hnd5:(a::DV.owns (x::xr) (y::yr)).Nodup:=by
   have:=h4.held.nodup (.reg sf.row);simp only[qab,qbX,e2,g3,AV.own,DV.own]at this;rw[if_pos ⟨rfl,by simp⟩]at this;simpa[Tag.ids]using this
  obtain⟨r',A1,s3,s4,s5,s6,s7,s8,s9⟩:=qxa href (A:=v1.A) (a:=a) (sz:=sz) (q:=(v1.c+1)::p) f1 f2 (fun b hb=>by
   obtain⟨t1,_,t3⟩:=h4.held.opn _ b (hloc5 b hb);exact⟨t1,fun hF=>t3 (hF.sub.le (Nat.le_succ _))⟩) hnd5 g7 m3
  simp only[g1,g3];refine⟨.agg [w'.1,w'.2,.sl (.own a sz) r'],Ids.add a A1,by rw[n1,Option.bind_some,s3];rfl,?_,?_,fun b hb=> ?_,fun b hb=> ?_⟩
  ·simp only[DV.fit,DV.fits]
   exact⟨_,rfl,_,_,rfl,n2,_,_,rfl,n3,_,_,rfl,⟨_,_,rfl,s4,.inr ⟨rfl,.inr ⟨by omega,_,_,rfl,s6⟩⟩⟩,rfl⟩
  ·simp only[DV.own,DV.owns,n4,n5]
   rw[if_pos ⟨trivial,by omega⟩];simpa[Tag.ids]using s7
  ·simp only[DV.own,DV.owns,n4,n5]at hb
   rw[if_pos ⟨trivial,by omega⟩]at hb;simp only[Ids.add,Bool.or_eq_true,decide_eq_true_eq];simp[Tag.ids]at hb;rcases hb with rfl|hb
   ·exact .inl rfl
   ·exact .inr (s8 b hb)
  ·have old:∀b,b∈a::DV.owns (x::xr) (y::yr)->Fut p 0 b:=fun b hb=>by
    rcases(h4.am b (h4.held.opn _ b (hloc5 b hb)).1).2 with h|h
    ·simp[Ids.none]at h
    ·exact h
   simp only[Ids.add,Bool.or_eq_true,decide_eq_true_eq]at hb;rcases hb with rfl|hb
   ·exact old b (by simp)
   ·rcases s9 b hb with h|h
    ·exact old b (List.mem_cons_of_mem _ h)
    ·exact h.sub.le (Nat.zero_le _)
 ·rename_i e1
  obtain⟨vb,g1,g2⟩:=h4.regs _ _ e1;simp only[AV.fit,DV.fit]at g2;obtain⟨_,rfl,rfl⟩:=g2;obtain⟨u,A1,k1,k2⟩:=hrest (e:= .normal) rfl h2;exact⟨u,A1,by simp only[g1];exact k1,k2⟩
 ·rename_i g e1 e2
  obtain⟨vb,g1,g2⟩:=h4.regs _ _ e1;simp only[AV.fit,DV.fit]at g2;obtain⟨_,rfl,rfl⟩:=g2;obtain⟨vr,g3,g4⟩:=h4.regs _ _ e2;simp only[AV.fit,DV.fit,DV.fits]at g4;obtain⟨_,rfl,g',ys,rfl,rfl,g6⟩:=g4;obtain⟨u,A1,k1,k2⟩:=hrest (e:= .normal) rfl h2;exact⟨u,A1,by simp only[g1,g3];exact k1,k2⟩
 ·simp at h2
def qAJ(g:List DV->Option DV)(gv:Id->List AV->Option (DV×Ids)):Prop:=
 ∀ds v,g ds=some v->∀es p,DV.fits ds es->∃u A1,gv p (es.map .d)=some (u,A1)/\v.fit u/\(v.own u).Nodup/\(∀a,a∈v.own u->A1 a=true)/\∀a,A1 a=true->Fut p 0 a
structure XOK(X:XEnv):Prop where
 code:∀f vf,X.env.code f=some vf->vf.linOK (X.lin f)=true
 nat:∀f g,X.nat f=some g->∃gv,X.env.nat f=some gv/\qAJ g gv/\X.lin f=[]
 no:∀f,X.nat f=none->X.env.nat f=none
 spec:∀f sf,X.env.spec f=some sf->sf.pre.linOK (X.lin f)=true/\sf.rest.linOK (X.lin f)=true/\qan (X.lin f) (sf.results.flatMap VRes.vx)=true/\(X.lin f).all (fun j=>decide (sf.np<=j))=true
theorem qsU:∀{cs:List AV} {ds:List DV},qay cs=some ds->cs=ds.map .d
 | [],ds,h=>by simp[qay]at h;subst h;rfl
 |v::cs,ds,h=>by
  cases v with
  |d d=>
   simp only[qay]at h;obtain⟨es,h3,rfl⟩:=Option.map_eq_some_iff.1 h;rw[qsU h3];rfl
  |_=>simp[qay]at h
theorem qp2{xs vs:List AV}{B Bv:qak}{A A1:Ids}{F:Id->Prop}{p:Id}{v u:DV}{R:Option Res}(hh:Held F (Fut p 0) A (qab (qah 0 xs) B (qah 0 vs) Bv))(hb:qa5 B Bv)
 (g2:v.fit u) (g3:(v.own u).Nodup) (g4:∀a,a∈v.own u->A1 a=true) (g5:∀a,A1 a=true->Fut p 0 a) (hR:R=some ⟨.d u,Ids.or A1 A,Bv⟩):
 ∃w Bv' A',R=some ⟨w,A',Bv'⟩/\(AV.d v).fit w/\qa5 B Bv'/\Held F (fun _=>False) A' (qab [(0,.d v)] B [(0,w)] Bv')/\∀a,A' a=true->A a=true\/Fut p 0 a:=by
 refine⟨.d u,Bv,Ids.or A1 A,hR,by simp only[AV.fit];exact⟨_,rfl,g2⟩,hb,⟨fun ℓ=> ?_,fun ℓ ℓ' a ha ha'=> ?_,fun ℓ a ha=> ?_,fun a ha=>⟨by simp[Ids.or,(hh.fr a ha).1],id⟩⟩,fun a ha=> ?_⟩
 ·cases ℓ with
  |reg t=>simp only[qab,qa4];split
          ·exact g3
          ·simp
  |box j=>exact hh.nodup (.box j)
 ·have key:∀a j,a∈v.own u->a∉qbD B Bv j:=fun a j h8 h9=>(hh.opn (.box j) a h9).2.2 (g5 a (g4 a h8))
  cases ℓ with
  |reg t=>
   simp only[qab,qa4]at ha;split at ha
   ·rename_i ht;subst ht
    cases ℓ' with
    |reg t'=>
     simp only[qab,qa4]at ha';split at ha'
     ·rename_i ht;subst ht;rfl
     ·simp at ha'
    |box j=>exact absurd ha' (key a j ha)
   ·simp at ha
  |box j=>
   cases ℓ' with
   |reg t'=>
    simp only[qab,qa4]at ha';split at ha'
    ·exact absurd ha (key a j ha')
    ·simp at ha'
   |box j'=>exact hh.apart (.box j) (.box j') a ha ha'
 ·cases ℓ with
  |reg t=>
   simp only[qab,qa4]at ha;split at ha
   ·have h8:=g4 a ha
    exact⟨by simp[Ids.or,h8],fun hF=>(hh.fr a hF).2 (g5 a h8),id⟩
   ·simp at ha
  |box j=>
   obtain⟨q1,q2,_⟩:=hh.opn (.box j) a ha;exact⟨by simp[Ids.or,q1],q2,id⟩
 ·simp only[Ids.or,Bool.or_eq_true]at ha
  rcases ha with ha|ha
  ·exact .inr (g5 a ha)
  ·exact .inl ha
theorem qtk{X:XEnv}(hX:XOK X):∀n,qcv (qaX X n) (qc4 X.env n) X.lin:=by
 intro n
 induction n with
 |zero=>intro f xs B v' B' h;simp[qaX]at h
 |succ n ih=>
  intro f xs B v' B' hx p vs Bv A F hf hb hh hl ham;simp only[qaX]at hx;split at hx
  ·rename_i g hg
   obtain⟨gv,h1,h2,h3⟩:=hX.nat f g hg;obtain⟨ds,h4,h5⟩:=Option.bind_eq_some_iff.1 hx;obtain⟨v,h6,h7⟩:=Option.map_eq_some_iff.1 h5;simp at h7;obtain⟨rfl,rfl⟩:=h7
   obtain⟨es,e1,e2,e3⟩:=qbT h4 hf;have hvs:vs=es.map .d:=by
    clear hx hf hh hl e2 e3 h4
    induction vs generalizing es with
    |nil=>simp[qay]at e1;subst e1;rfl
    |cons u us ih=>
     cases u with
     |d d=>
      simp only[qay]at e1;obtain⟨es',h3,rfl⟩:=Option.map_eq_some_iff.1 e1;rw[ih es' h3];rfl
     |_=>simp[qay]at e1
   obtain⟨u,A1,g1,g2,g3,g4,g5⟩:=h2 ds v h6 es p e2;refine qp2 hh hb g2 g3 g4 g5 ?_;simp only[qc4,h1,e1,Option.bind_some];rw[hvs,g1];rfl
  ·rename_i hg
   split at hx
   ·rename_i hvf
    split at hx
    ·simp at hx
    rename_i sf hs;obtain⟨ds,h4,h5⟩:=Option.bind_eq_some_iff.1 hx;obtain⟨v,h6,h7⟩:=Option.map_eq_some_iff.1 h5;simp at h7;obtain⟨rfl,rfl⟩:=h7
    obtain⟨es,e1,e2,e3⟩:=qbT h4 hf;have hxs:=qsU h4;have hvs:=qsU e1;obtain⟨l1,l2,l3,l4⟩:=hX.spec f sf hs;have hnp:ds.length=sf.np:=by
     unfold qid at h6;split at h6
     ·simp at h6
     ·rename_i hn;simpa using hn
    obtain⟨u,A1,g1,g2,g3,g4,g5⟩:=qw9 ih (p:=p) e2 l1 l2 l3 (fun j=>by
     rw[<-hxs,<-hvs]
     by_cases hj:(X.lin f).contains j=true
     ·have h8:=List.all_eq_true.1 l4 j (by simpa using hj)
      simp only[decide_eq_true_eq]at h8;rw[qcQ];rw[hxs,List.getElem?_eq_none (by simp;omega)]
     ·exact hl j (by simpa using hj)) h6
    refine qp2 hh hb g2 g3 g4 g5 ?_;simp only[qc4,hX.no f hg,hvf,hs,e1,Option.bind_some,g1];rfl
   ·rename_i vf hvf
    split at hx
    ·simp at hx
    ·rename_i hnp
     split at hx
     case h_2 m hbm=>
      split at hx
      ·simp at hx
      rename_i hBm;obtain⟨⟨e,s1⟩,h1,h2⟩:=Option.bind_eq_some_iff.1 hx;have hlin:=hX.code f vf hvf;simp only[VFn.linOK,Bool.and_eq_true]at hlin;have hlen:=AV.qai hf;obtain⟨hcf,hco⟩:=AV.qa6 _ _ hf;have hcb:qa5 (qfw B) Bv:=by
       refine⟨by simp[qfw,hb.1],fun i=>⟨fun h=> ?_,fun cs h=> ?_⟩⟩
       ·simp only[qfw,List.getElem?_map]at h
        obtain⟨o,h3,h4⟩:=Option.map_eq_some_iff.1 h;cases o with
        |none=>exact(hb.2 i).1 h3
        |some c=>simp at h4
       ·simp only[qfw,List.getElem?_map]at h
        obtain⟨o,h3,h4⟩:=Option.map_eq_some_iff.1 h;cases o with
        |none=>simp at h4
        |some c=>
         simp only[Option.map_some,Option.some.injEq]at h4;subst h4;obtain⟨ds,h5,h6⟩:=(hb.2 i).2 c h3;exact⟨ds,h5,(AV.qa6 _ _ h6).1⟩
      have hre:∀j,qbX (qah 0 (AV.clrs xs)) (qah 0 vs) j=[]:=by
       intro j;rw[qcQ,AV.qaq,List.getElem?_map];cases xs[j]? with
       |none=>rfl
       |some a=>cases vs[j]? with
        |none=>rfl
        |some b=>simp[AV.qbb]
      have hbo:∀j,qbD (qfw B) Bv j=[]:=by
       intro j;unfold qbD;split
       ·rename_i cs ds q1 q2
        have q3:=qbz.1 q1;simp only[qfw,List.getElem?_map]at q3;obtain⟨o,q4,q5⟩:=Option.map_eq_some_iff.1 q3;cases o with
        |none=>simp at q5
        |some c=>
         simp only[Option.map_some,Option.some.injEq]at q5;subst q5;obtain⟨ds',q6,q7⟩:=(hb.2 j).2 c q4;have:=qbz.1 q2;rw[q6]at this;simp only[Option.some.injEq]at this;subst this
         exact(AV.qa6 _ _ q7).2
       ·rfl
      have hloc:∀ℓ,qab (qah 0 (AV.clrs xs)) (qfw B) (qah 0 vs) Bv ℓ=[]:=by
       intro ℓ;cases ℓ with
       |reg t=>exact hre t
       |box j=>exact hbo j
      have h0:Rel Ids.none (X.lin f) (fun _=>False) p 0 ⟨qah 0 (AV.clrs xs),qfw B⟩ ⟨qah 0 vs,Bv,Ids.none,0⟩:=by
       refine⟨fun t x ht=> ?_,hcb,⟨fun ℓ=>by rw[hloc];simp,fun ℓ ℓ' a ha=>by rw[hloc]at ha;simp at ha,fun ℓ a ha=>by rw[hloc]at ha;simp at ha,fun a ha=>by simp at ha⟩,fun t _=>hre t,fun t ht=> ?_,fun a ha=>by simp[Ids.none]at ha⟩
       ·simp only[qed]at ht⊢
        simp only[Nat.zero_le,if_true,Nat.sub_zero]at ht⊢
        exact AV.qbM hcf ht
       ·simp only[qed]at ht⊢
        simp only[Nat.zero_le,if_true,Nat.sub_zero]at ht⊢
        rw[List.getElem?_eq_none_iff]at ht⊢
        rw[AV.qcd]at ht;omega
      obtain⟨v1,h3,h4⟩:=qig (sv:=⟨qah 0 vs,Bv,Ids.none,0⟩) ih n vf.code hlin.1 _ _ _ h0 h1;have hc:(∀id,e≠.exit id)->qc4 X.env (n+1) p f vs Bv A=(finish Bv.length p v1 vf.results).map fun q=>⟨q.v,Ids.or q.A A,q.B⟩:=by
       intro hne;rw[qc4];simp only[hX.no f hg,hvf,hbm];rw[if_neg (by rw[<-hlen];exact hnp),if_neg (by rw[<-hb.1];exact hBm),h3];cases e with
       |exit id=>exact absurd rfl (hne id)
       |normal=>rfl
       |ret=>rfl
      have fin:∀{v' B'},qcg B.length s1 vf.results=some (v',B')->(∀id,e≠.exit id)->∃v Bv' A',qc4 X.env (n+1) p f vs Bv A=some ⟨v,A',Bv'⟩/\v'.fit v/\qa5 B' Bv'/\Held F (fun _=>False) A' (qab [(0,v')] B' [(0,v)] Bv')/\∀a,A' a=true->A a=true\/Fut p 0 a:=by
       intro v' B' h5 he;obtain⟨r,h6,h7⟩:=qgU h4 hlin.2 h5;have hfut:∀a,r.A a=true->Fut p 0 a:=fun a ha=>by
        rcases h7.am a ha with h8|h8
        ·simp[Ids.none]at h8
        ·exact h8
       refine⟨r.v,r.B,Ids.or r.A A,?_,h7.fit,h7.boxes,⟨h7.held.nodup,h7.held.apart,fun ℓ a ha=> ?_,fun a ha=>⟨by simp[Ids.or,(hh.fr a ha).1],id⟩⟩,fun a ha=> ?_⟩
       ·rw[hc he]
        rw[hb.1]at h6;rw[h6];rfl
       ·obtain⟨q1,_,_⟩:=h7.held.opn ℓ a ha
        exact⟨by simp[Ids.or,q1],fun hF=>(hh.fr a hF).2 (hfut a q1),id⟩
       ·simp only[Ids.or,Bool.or_eq_true]at ha
        rcases ha with ha|ha
        ·exact .inr (hfut a ha)
        ·exact .inl ha
      cases e with
      |exit id=>simp at h2
      |normal=>exact fin h2 (fun id h=>by simp at h)
      |ret=>exact fin h2 (fun id h=>by simp at h)
     rename_i hbn;obtain⟨⟨e,s1⟩,h1,h2⟩:=Option.bind_eq_some_iff.1 hx;have hlin:=hX.code f vf hvf;simp only[VFn.linOK,Bool.and_eq_true]at hlin;have hlen:=AV.qai hf;have h0:Rel A (X.lin f) F p 0 ⟨qah 0 xs,B⟩ ⟨qah 0 vs,Bv,A,0⟩:=by
      refine⟨fun t x ht=> ?_,hb,hh,hl,fun t ht=> ?_,fun a ha=>⟨ham a ha,.inl ha⟩⟩
      ·simp only[qed]at ht⊢
       simp only[Nat.zero_le,if_true,Nat.sub_zero]at ht⊢
       exact AV.qbM hf ht
      ·simp only[qed]at ht⊢
       simp only[Nat.zero_le,if_true,Nat.sub_zero]at ht⊢
       rw[List.getElem?_eq_none_iff]at ht⊢
       omega
     obtain⟨v1,h3,h4⟩:=qig (sv:=⟨qah 0 vs,Bv,A,0⟩) ih n vf.code hlin.1 _ _ _ h0 h1;have hc:(∀id,e≠.exit id)->qc4 X.env (n+1) p f vs Bv A=finish Bv.length p v1 vf.results:=by
      intro hne;rw[qc4];simp only[hX.no f hg,hvf,hbn];rw[if_neg (by rw[<-hlen];exact hnp),h3];cases e with
      |exit id=>exact absurd rfl (hne id)
      |normal=>rfl
      |ret=>rfl
     have fin:∀{v' B'},qcg B.length s1 vf.results=some (v',B')->(∀id,e≠.exit id)->∃v Bv' A',qc4 X.env (n+1) p f vs Bv A=some ⟨v,A',Bv'⟩/\v'.fit v/\qa5 B' Bv'/\Held F (fun _=>False) A' (qab [(0,v')] B' [(0,v)] Bv')/\∀a,A' a=true->A a=true\/Fut p 0 a:=by
      intro v' B' h5 he;obtain⟨r,h6,h7⟩:=qgU h4 hlin.2 h5;refine⟨r.v,r.B,r.A,?_,h7.fit,h7.boxes,h7.held,h7.am⟩;rw[hc he,<-hb.1,h6]
     cases e with
     |exit id=>simp at h2
     |normal=>exact fin h2 (fun id h=>by simp at h)
     |ret=>exact fin h2 (fun id h=>by simp at h)
end
end Go.Proofs.Ytfiakfiocdfpbaa.VS
namespace Go.Proofs.Ytfiakfiocdfpbaa.VS
open Classical
def XLe(c c':qar):Prop:=∀f as B r,c f as B=some r->c' f as B=some r
theorem qpg{c c':qar}(h:XLe c c')(lin:Nat->List Nat)(T:List Nat)(draw:Bool)(L0:Nat)(o:VOper):FLe (xOp c lin T draw L0 o) (xOp c' lin T draw L0 o):=by
 intro s r hr;obtain⟨dst,op,g,af⟩:=o;cases op
 case call iso f args=>
  simp only[xOp]at hr⊢
  split at hr
  ·rename_i k caps vs h1 h2
   split at hr
   ·rename_i hiso
    simp only[hiso,if_true];split at hr
    ·rename_i hk
     split at hr
     ·rename_i hc
      rw[h _ _ _ _ hc];exact hr
     ·simp at hr
    ·simp at hr
   ·rename_i hiso
    simp only[hiso];split at hr
    ·rename_i hd
     rw[if_pos hd];split at hr
     ·rename_i hc
      rw[h _ _ _ _ hc];exact hr
     ·simp at hr
    ·simp at hr
  ·simp at hr
 case callT th f args=>
  simp only[xOp]at hr⊢
  split at hr
  ·split at hr
   ·rename_i hd
    rw[if_pos hd];obtain⟨ds,h1,h2⟩:=Option.bind_eq_some_iff.1 hr;rw[h1];simp only[Option.bind_some];split at h2
    ·rename_i hc
     rw[h _ _ _ _ hc];exact h2
    ·simp at h2
   ·simp at hr
  ·simp at hr
 case callS cc f args=>
  simp only[xOp]at hr⊢
  split at hr
  ·split at hr
   ·simp at hr
   rename_i hb;rw[if_neg hb];obtain⟨ds,h1,hr⟩:=Option.bind_eq_some_iff.1 hr;obtain⟨cs,h2,hr⟩:=Option.bind_eq_some_iff.1 hr;obtain⟨es,h3,hr⟩:=Option.bind_eq_some_iff.1 hr;rw[h1,Option.bind_some,h2,Option.bind_some,h3,Option.bind_some];split at hr
   ·rename_i hc
    rw[h _ _ _ _ hc];exact hr
   ·simp at hr
  ·simp at hr
 all_goals exact hr
theorem qcj{c c':qar}(h:XLe c c')(lin:Nat->List Nat)(T:List Nat)(draw:Bool)(L0:Nat)(os:List VOper):FLe (qcy c lin T draw L0 os) (qcy c' lin T draw L0 os):=by
 induction os with
 |nil=>intro s r hr;exact hr
 |cons o os ih=>
  intro s r hr;simp only[qcy]at hr⊢
  split at hr
  ·obtain⟨s1,h1,h2⟩:=Option.bind_eq_some_iff.1 hr
   exact Option.bind_eq_some_iff.2 ⟨s1,qpg h lin T draw L0 o s s1 h1,ih _ _ h2⟩
  ·exact ih _ _ hr
  ·simp at hr
theorem qhx{c c':qar}(h:XLe c c')(lin:Nat->List Nat)(T:List Nat)(draw:Bool)(na:Nat)(live:List Nat)(ops:List VOper):FLe (qde c lin T draw na live ops) (qde c' lin T draw na live ops):=by
 intro s r hr;unfold qde at hr⊢
 split
 ·simp_all
 ·rename_i hd
  simp only[hd]at hr;obtain⟨s1,h1,h2⟩:=Option.map_eq_some_iff.1 hr;exact Option.map_eq_some_iff.2 ⟨s1,qcj h lin T draw _ ops _ _ h1,h2⟩
theorem qph{c c':qar}(h:XLe c c')(lin:Nat->List Nat)(T:List Nat)(draw:Bool)(L0:Nat)(fs:List FOper):FLe (xFs c lin T draw L0 fs) (xFs c' lin T draw L0 fs):=by
 induction fs with
 |nil=>intro s r hr;exact hr
 |cons f fs ih=>
  intro s r hr;simp only[xFs]at hr⊢
  obtain⟨s1,h1,h2⟩:=Option.bind_eq_some_iff.1 hr;obtain⟨s2,h3,h4⟩:=Option.bind_eq_some_iff.1 h2;exact Option.bind_eq_some_iff.2 ⟨s1,qcj h lin T draw L0 f.pre _ _ h1,Option.bind_eq_some_iff.2 ⟨s2,h3,ih _ _ h4⟩⟩
theorem qfP{c c':qar}(h:XLe c c')(lin:Nat->List Nat)(T:List Nat)(draw:Bool)(na:Nat)(live:List Nat)(fs:List FOper):FLe (qcz c lin T draw na live fs) (qcz c' lin T draw na live fs):=by
 intro s r hr;unfold qcz at hr⊢
 split
 ·simp_all
 ·rename_i hd
  simp only[hd]at hr;obtain⟨s1,h1,h2⟩:=Option.map_eq_some_iff.1 hr;exact Option.map_eq_some_iff.2 ⟨s1,qph h lin T draw _ fs _ _ h1,h2⟩
theorem qdX{f g:XS->Option (Ex×XS)}(h:FLe f g)(L1:Nat)(live:List Nat):∀n m,n<=m->FLe (qcZ f L1 live n) (qcZ g L1 live m):=by
 intro n
 induction n with
 |zero=>intro m _ s r hr;simp[qcZ]at hr
 |succ n ih=>
  intro m hm s r hr;obtain⟨m,rfl⟩:∃k,m=k+1:=⟨m-1,by omega⟩;simp only[qcZ]at hr⊢
  obtain⟨s0,h0,hr⟩:=Option.bind_eq_some_iff.1 hr;obtain⟨⟨e,s1⟩,h1,hr⟩:=Option.bind_eq_some_iff.1 hr;refine Option.bind_eq_some_iff.2 ⟨s0,h0,Option.bind_eq_some_iff.2 ⟨(e,s1),h _ _ h1,?_⟩⟩;cases e with
  |normal=>exact ih m (by omega) _ _ hr
  |exit id=>exact hr
  |ret=>exact hr
theorem qbe{c c':qar}(h:XLe c c')(lin:Nat->List Nat)(T:List Nat){n m:Nat}(hn:n<=m)(vc:VCode):FLe (qaV c lin T n vc) (qaV c' lin T m vc):=by
 induction vc with
 |skip=>intro s r hr;exact hr
 |ret=>intro s r hr;exact hr
 |exit id=>intro s r hr;exact hr
 |seq a b iha ihb=>
  intro s r hr;simp only[qaV]at hr⊢
  obtain⟨⟨e,s1⟩,h1,hr⟩:=Option.bind_eq_some_iff.1 hr;refine Option.bind_eq_some_iff.2 ⟨(e,s1),iha _ _ h1,?_⟩;cases e with
  |normal=>exact ihb _ _ hr
  |exit id=>exact hr
  |ret=>exact hr
 |region draw na live ops=>
  intro s r hr;simp only[qaV]at hr⊢
  obtain⟨s1,h1,h2⟩:=Option.map_eq_some_iff.1 hr;exact Option.map_eq_some_iff.2 ⟨s1,qhx h lin T draw na live ops _ _ h1,h2⟩
 |regionF draw na live fs=>
  intro s r hr;simp only[qaV]at hr⊢
  obtain⟨s1,h1,h2⟩:=Option.map_eq_some_iff.1 hr;exact Option.map_eq_some_iff.2 ⟨s1,qfP h lin T draw na live fs _ _ h1,h2⟩
 |cond x a b iha ihb=>
  intro s r hr;simp only[qaV]at hr⊢
  split at hr
  ·exact iha _ _ hr
  ·exact ihb _ _ hr
  ·simp at hr
 |block id cc ih=>
  intro s r hr;simp only[qaV]at hr⊢
  obtain⟨s1,h1,h2⟩:=Option.map_eq_some_iff.1 hr;exact Option.map_eq_some_iff.2 ⟨s1,ih _ _ h1,h2⟩
 |loop live cc ih=>
  intro s r hr;simp only[qaV]at hr⊢
  exact qdX ih _ _ n m hn _ _ hr
 |ghost x cc ih=>
  intro s r hr;simp only[qaV]at hr⊢
  obtain⟨s1,h1,h2⟩:=Option.bind_eq_some_iff.1 hr;exact Option.bind_eq_some_iff.2 ⟨s1,h1,ih _ _ h2⟩
 |regionT na live pre tl=>
  intro s r hr;simp only[qaV]at hr⊢
  obtain⟨s1,h1,h2⟩:=Option.map_eq_some_iff.1 hr;refine Option.map_eq_some_iff.2 ⟨s1,?_,h2⟩;unfold qc0 at h1⊢
  split
  ·rename_i hd;rw[if_pos hd]at h1;simp at h1
  ·rename_i hd
   rw[if_neg hd]at h1;obtain⟨s2,h3,h4⟩:=Option.bind_eq_some_iff.1 h1;obtain⟨s3,h5,h6⟩:=Option.map_eq_some_iff.1 h4;exact Option.bind_eq_some_iff.2 ⟨s2,qcj h lin T true _ pre _ _ h3,Option.map_eq_some_iff.2 ⟨s3,qcj h lin T false _ tl _ _ h5,h6⟩⟩
theorem qgR{c c':qar}(h:XLe c c')(sf:SFn)(x:DV)(xr:List DV):∀r,qgS c sf x xr=some r->qgS c' sf x xr=some r:=by
 intro r hr;unfold qgS at hr⊢
 split at hr
 ·rename_i hc
  rw[if_pos hc];split at hr
  ·rename_i v cs hq
   rw[h _ _ _ _ hq];exact hr
  ·simp at hr
 ·simp at hr
theorem qqM{c c':qar}(h:XLe c c'){n m:Nat}(hn:n<=m)(lin:Nat->List Nat)(T:List Nat)(sf:SFn)(ds:List DV):∀r,qid c lin T n sf ds=some r->qid c' lin T m sf ds=some r:=by
 intro r hr;unfold qid at hr⊢
 split at hr
 ·simp at hr
 rename_i hlen;rw[if_neg hlen];obtain⟨⟨e,s⟩,h1,h2⟩:=Option.bind_eq_some_iff.1 hr;refine Option.bind_eq_some_iff.2 ⟨(e,s),qbe h lin T hn sf.pre _ _ h1,?_⟩;simp only at h2⊢
 split at h2
 ·rename_i x xr e1 e2
  obtain⟨y,h3,h4⟩:=Option.bind_eq_some_iff.1 h2;obtain⟨q,h5,h6⟩:=Option.map_eq_some_iff.1 h4;exact Option.bind_eq_some_iff.2 ⟨y,h3,Option.map_eq_some_iff.2 ⟨q,qgR h _ _ _ _ h5,h6⟩⟩
 ·rename_i e1
  obtain⟨q,h5,h6⟩:=Option.bind_eq_some_iff.1 h2;exact Option.bind_eq_some_iff.2 ⟨q,qbe h lin T hn sf.rest _ _ h5,h6⟩
 ·rename_i g e1 e2
  obtain⟨q,h5,h6⟩:=Option.bind_eq_some_iff.1 h2;exact Option.bind_eq_some_iff.2 ⟨q,qbe h lin T hn sf.rest _ _ h5,h6⟩
 ·simp at h2
theorem qoa(X:XEnv):∀n,XLe (qaX X n) (qaX X (n+1)):=by
 intro n
 induction n with
 |zero=>intro f as B r hr;simp[qaX]at hr
 |succ n ih=>
  intro f as B r hr;rw[qaX]at hr⊢
  split
  ·rename_i g hg
   rw[hg]at hr;exact hr
  ·rename_i hg
   simp only[hg]at hr;split
   ·rename_i hf
    simp only[hf]at hr;split
    ·rename_i hs;simp[hs]at hr
    ·rename_i sf hs
     simp only[hs]at hr;obtain⟨ds,h1,h2⟩:=Option.bind_eq_some_iff.1 hr;obtain⟨q,h3,h4⟩:=Option.map_eq_some_iff.1 h2;exact Option.bind_eq_some_iff.2 ⟨ds,h1,Option.map_eq_some_iff.2 ⟨q,qqM ih (Nat.le_succ n) _ _ sf ds _ h3,h4⟩⟩
   ·rename_i vf hf
    simp only[hf]at hr;split at hr
    ·simp at hr
    ·rename_i hnp
     rw[if_neg hnp];split at hr
     ·rename_i hb
      obtain⟨s1,h1,h2⟩:=Option.bind_eq_some_iff.1 hr;exact Option.bind_eq_some_iff.2 ⟨s1,qbe ih _ _ (Nat.le_succ n) vf.code _ _ h1,h2⟩
     ·rename_i m hb
      split at hr
      ·simp at hr
      rename_i hm;rw[if_neg hm];obtain⟨s1,h1,h2⟩:=Option.bind_eq_some_iff.1 hr;exact Option.bind_eq_some_iff.2 ⟨s1,qbe ih _ _ (Nat.le_succ n) vf.code _ _ h1,h2⟩
theorem qa7(X:XEnv){n m:Nat}(h:n<=m):XLe (qaX X n) (qaX X m):=by
 induction h with
 |refl=>intro f as B r hr;exact hr
 |step _ ih=>intro f as B r hr;exact qoa X _ _ _ _ _ (ih _ _ _ _ hr)
noncomputable def qad(X:XEnv):qar:=fun f as B=>lim fun n=>qaX X n f as B
noncomputable def qau(X:XEnv)(T:List Nat)(c:VCode)(s:XS):Option (Ex×XS):=lim fun n=>qaV (qaX X n) X.lin T n c s
theorem qbU{X:XEnv}{f:Nat}{as:List AV}{B:qak}{r:AV×qak}:qad X f as B=some r↔∃n,qaX X n f as B=some r:=
 qp7 (fun n m r h hr=>qa7 X h _ _ _ _ hr) r
theorem qat{X:XEnv}{T:List Nat}{c:VCode}{s:XS}{r:Ex×XS}:qau X T c s=some r↔∃n,qaV (qaX X n) X.lin T n c s=some r:=
 qp7 (fun n m r h hr=>qbe (qa7 X h) _ _ h c _ _ hr) r
theorem qgI(X:XEnv)(n:Nat):XLe (qaX X n) (qad X):=fun _ _ _ _ h=>qbU.2 ⟨n,h⟩
theorem qBd(X:XEnv)(T:List Nat)(draw:Bool)(L0:Nat)(o:VOper)(s r:XS)(hr:xOp (qad X) X.lin T draw L0 o s=some r):∃n,xOp (qaX X n) X.lin T draw L0 o s=some r:=by
 obtain⟨dst,op,g,af⟩:=o;cases op
 case call iso f args=>
  simp only[xOp]at hr⊢
  split at hr
  ·rename_i k caps vs h1 h2
   split at hr
   ·rename_i hiso
    simp only[hiso,if_true];split at hr
    ·rename_i hk
     split at hr
     ·rename_i hc
      obtain⟨n,hn⟩:=qbU.1 hc;exact⟨n,by rw[hn];exact hr⟩
     ·simp at hr
    ·simp at hr
   ·rename_i hiso
    simp only[hiso];split at hr
    ·rename_i hd
     split at hr
     ·rename_i hc
      obtain⟨n,hn⟩:=qbU.1 hc;exact⟨n,by rw[if_pos hd,hn];exact hr⟩
     ·simp at hr
    ·simp at hr
  ·simp at hr
 case callT th f args=>
  simp only[xOp]at hr⊢
  split at hr
  ·split at hr
   ·rename_i hd
    obtain⟨ds,h1,h2⟩:=Option.bind_eq_some_iff.1 hr;split at h2
    ·rename_i hc
     obtain⟨n,hn⟩:=qbU.1 hc;exact⟨n,by rw[if_pos hd,h1];simp only[Option.bind_some];rw[hn];exact h2⟩
    ·simp at h2
   ·simp at hr
  ·simp at hr
 case callS cc f args=>
  simp only[xOp]at hr⊢
  split at hr
  ·split at hr
   ·simp at hr
   rename_i hb;obtain⟨ds,h1,hr⟩:=Option.bind_eq_some_iff.1 hr;obtain⟨cs,h2,hr⟩:=Option.bind_eq_some_iff.1 hr;obtain⟨es,h3,hr⟩:=Option.bind_eq_some_iff.1 hr;split at hr
   ·rename_i hc
    obtain⟨n,hn⟩:=qbU.1 hc;exact⟨n,by rw[if_neg hb,h1,Option.bind_some,h2,Option.bind_some,h3,Option.bind_some,hn];exact hr⟩
   ·simp at hr
  ·simp at hr
 all_goals exact⟨0,hr⟩
theorem qif(X:XEnv)(T:List Nat)(draw:Bool)(L0:Nat)(os:List VOper):∀s r,qcy (qad X) X.lin T draw L0 os s=some r->∃n,qcy (qaX X n) X.lin T draw L0 os s=some r:=by
 induction os with
 |nil=>intro s r hr;exact⟨0,hr⟩
 |cons o os ih=>
  intro s r hr;simp only[qcy]at hr⊢
  split at hr
  ·obtain⟨s1,h1,h2⟩:=Option.bind_eq_some_iff.1 hr
   obtain⟨n,hn⟩:=qBd X T draw L0 o s s1 h1;obtain⟨m,hm⟩:=ih _ _ h2;exact⟨Nat.max n m,Option.bind_eq_some_iff.2 ⟨s1,qpg (qa7 X (Nat.le_max_left n m)) _ _ _ _ _ _ _ hn,qcj (qa7 X (Nat.le_max_right n m)) _ _ _ _ _ _ _ hm⟩⟩
  ·exact ih _ _ hr
  ·simp at hr
theorem qh7(X:XEnv)(T:List Nat)(draw:Bool)(na:Nat)(live:List Nat)(ops:List VOper)(s:XS):
 qau X T (.region draw na live ops) s=(qde (qad X) X.lin T draw na live ops s).map fun s'=>(.normal,s'):=by
 refine qcM fun r=> ?_
 rw[qat];constructor
 ·rintro⟨n,hn⟩
  simp only[qaV]at hn;obtain⟨s1,h1,h2⟩:=Option.map_eq_some_iff.1 hn;exact Option.map_eq_some_iff.2 ⟨s1,qhx (qgI X n) _ _ _ _ _ _ _ _ h1,h2⟩
 ·intro h
  obtain⟨s1,h1,h2⟩:=Option.map_eq_some_iff.1 h;unfold qde at h1;split at h1
  ·simp at h1
  ·rename_i hd
   obtain⟨s2,h3,h4⟩:=Option.map_eq_some_iff.1 h1;obtain⟨n,hn⟩:=qif _ _ _ _ _ _ _ h3;refine⟨n,?_⟩;simp only[qaV];refine Option.map_eq_some_iff.2 ⟨s1,?_,h2⟩;unfold qde;rw[if_neg hd];exact Option.map_eq_some_iff.2 ⟨s2,hn,h4⟩
theorem qr2(X:XEnv)(T:List Nat)(s:XS):qau X T .skip s=some (.normal,s):=qat.2 ⟨0,rfl⟩
theorem qwo(X:XEnv)(T:List Nat)(s:XS):qau X T .ret s=some (.ret,s):=qat.2 ⟨0,rfl⟩
theorem qr4(X:XEnv)(T:List Nat)(id:Nat)(s:XS):qau X T (.exit id) s=some (.exit id,s):=qat.2 ⟨0,rfl⟩
def qmu(r:Option (Ex×XS))(k:XS->Option (Ex×XS)):Option (Ex×XS):=
 r.bind fun r=>match r.1 with
  | .normal=>k r.2
  |_=>some r
theorem qdm(X:XEnv)(T:List Nat)(a b:VCode)(s:XS):qau X T (.seq a b) s=qmu (qau X T a s) (qau X T b):=by
 refine qcM fun r=> ?_
 unfold qmu;rw[qat];constructor
 ·rintro⟨n,hn⟩
  simp only[qaV]at hn;obtain⟨⟨e,s1⟩,h1,hr⟩:=Option.bind_eq_some_iff.1 hn;refine Option.bind_eq_some_iff.2 ⟨(e,s1),qat.2 ⟨n,h1⟩,?_⟩;cases e with
  |normal=>exact qat.2 ⟨n,hr⟩
  |exit id=>exact hr
  |ret=>exact hr
 ·intro h
  obtain⟨⟨e,s1⟩,h1,hr⟩:=Option.bind_eq_some_iff.1 h;obtain⟨n,hn⟩:=qat.1 h1;cases e with
  |normal=>
   obtain⟨m,hm⟩:=qat.1 hr;refine⟨Nat.max n m,?_⟩;simp only[qaV];exact Option.bind_eq_some_iff.2 ⟨_,qbe (qa7 X (Nat.le_max_left n m)) _ _ (Nat.le_max_left n m) _ _ _ hn,qbe (qa7 X (Nat.le_max_right n m)) _ _ (Nat.le_max_right n m) _ _ _ hm⟩
  |exit id=>exact⟨n,by simp only[qaV];exact Option.bind_eq_some_iff.2 ⟨_,hn,hr⟩⟩
  |ret=>exact⟨n,by simp only[qaV];exact Option.bind_eq_some_iff.2 ⟨_,hn,hr⟩⟩
theorem qr5(X:XEnv)(T:List Nat)(x:VX)(a b:VCode)(s:XS):
 qau X T (.cond x a b) s=match qbF s.r x with
  |some (.d (.bool true))=>qau X T a s
  |some (.d (.bool false))=>qau X T b s
  |_=>none:=by
 unfold qau;split<;>simp only[qaV, *]
 unfold lim;split
 ·rename_i h;obtain⟨n,hn⟩:=h;simp at hn
 ·rfl
theorem qo5(X:XEnv)(T:List Nat)(id:Nat)(c:VCode)(s:XS):
 qau X T (.block id c) s=(qau X T c s).map fun r=>if r.1= .exit id then(.normal,r.2)else r:=by
 refine qcM fun r=> ?_
 rw[qat];constructor
 ·rintro⟨n,hn⟩
  simp only[qaV]at hn;obtain⟨s1,h1,h2⟩:=Option.map_eq_some_iff.1 hn;exact Option.map_eq_some_iff.2 ⟨s1,qat.2 ⟨n,h1⟩,h2⟩
 ·intro h
  obtain⟨s1,h1,h2⟩:=Option.map_eq_some_iff.1 h;obtain⟨n,hn⟩:=qat.1 h1;exact⟨n,by simp only[qaV];exact Option.map_eq_some_iff.2 ⟨s1,hn,h2⟩⟩
noncomputable def qbq(X:XEnv)(T:List Nat)(L1:Nat)(live:List Nat)(c:VCode)(s:XS):Option (Ex×XS):=lim fun n=>qcZ (qaV (qaX X n) X.lin T n c) L1 live n s
theorem qhe{X:XEnv}{T:List Nat}{L1:Nat}{live:List Nat}{c:VCode}{s:XS}{r:Ex×XS}:qbq X T L1 live c s=some r↔∃n,qcZ (qaV (qaX X n) X.lin T n c) L1 live n s=some r:=
 qp7 (fun n m r h hr=>qdX (qbe (qa7 X h) _ _ h c) _ _ n m h _ _ hr) r
theorem qr3(X:XEnv)(T:List Nat)(live:List Nat)(c:VCode)(s:XS):qau X T (.loop live c) s=qbq X T s.B.length live c s:=rfl
theorem qdt(X:XEnv)(T:List Nat)(L1:Nat)(live:List Nat)(c:VCode)(s:XS):
 qbq X T L1 live c s=(qaf L1 live s).bind fun s0=>qmu (qau X T c s0) (qbq X T L1 live c):=by
 refine qcM fun r=> ?_
 unfold qmu;rw[qhe];constructor
 ·rintro⟨n,hn⟩
  cases n with
  |zero=>simp[qcZ]at hn
  |succ n=>
   simp only[qcZ]at hn;obtain⟨s0,h0,hn⟩:=Option.bind_eq_some_iff.1 hn;obtain⟨⟨e,s1⟩,h1,hr⟩:=Option.bind_eq_some_iff.1 hn;refine Option.bind_eq_some_iff.2 ⟨s0,h0,Option.bind_eq_some_iff.2 ⟨(e,s1),qat.2 ⟨n+1,h1⟩,?_⟩⟩;cases e with
   |normal=>exact qhe.2 ⟨n+1,qdX (fun _ _ h=>h) _ _ n (n+1) (Nat.le_succ n) _ _ hr⟩
   |exit id=>exact hr
   |ret=>exact hr
 ·intro h
  obtain⟨s0,h0,h⟩:=Option.bind_eq_some_iff.1 h;obtain⟨⟨e,s1⟩,h1,hr⟩:=Option.bind_eq_some_iff.1 h;obtain⟨n,hn⟩:=qat.1 h1;have one:∀m,n<=m->qaV (qaX X m) X.lin T m c s0=some (e,s1):=fun m hm=>qbe (qa7 X hm) _ _ hm c _ _ hn
  cases e with
  |normal=>
   obtain⟨m,hm⟩:=qhe.1 hr;refine⟨n+m+1,?_⟩;simp only[qcZ];refine Option.bind_eq_some_iff.2 ⟨s0,h0,Option.bind_eq_some_iff.2 ⟨(.normal,s1),one _ (by omega),?_⟩⟩;exact qdX (qbe (qa7 X (by omega)) _ _ (by omega) c) _ _ m _ (by omega) _ _ hm
  |exit id=>
   refine⟨n+1,?_⟩;simp only[qcZ];exact Option.bind_eq_some_iff.2 ⟨s0,h0,Option.bind_eq_some_iff.2 ⟨(.exit id,s1),one _ (by omega),hr⟩⟩
  |ret=>
   refine⟨n+1,?_⟩;simp only[qcZ];exact Option.bind_eq_some_iff.2 ⟨s0,h0,Option.bind_eq_some_iff.2 ⟨(.ret,s1),one _ (by omega),hr⟩⟩
theorem qsj(X:XEnv)(f:Nat)(as:List AV)(B:qak)(vf:VFn)(hn:X.nat f=none)(hf:X.env.code f=some vf)(hb:X.env.base f=none)(hnp:as.length=vf.np):
 qad X f as B=(qau X (X.lin f) vf.code ⟨qah 0 as,B⟩).bind fun r=>
  match r.1 with
  | .exit _=>none
  |_=>qcg B.length r.2 vf.results:=by
 refine qcM fun r=> ?_
 rw[qbU];constructor
 ·rintro⟨n,h⟩
  cases n with
  |zero=>simp[qaX]at h
  |succ n=>
   rw[qaX]at h;simp only[hn,hf,hb]at h;rw[if_neg (by simp[hnp])]at h;obtain⟨s1,h1,h2⟩:=Option.bind_eq_some_iff.1 h;exact Option.bind_eq_some_iff.2 ⟨s1,qat.2 ⟨n,h1⟩,h2⟩
 ·intro h
  obtain⟨s1,h1,h2⟩:=Option.bind_eq_some_iff.1 h;obtain⟨n,hk⟩:=qat.1 h1;refine⟨n+1,?_⟩;rw[qaX];simp only[hn,hf,hb];rw[if_neg (by simp[hnp])];exact Option.bind_eq_some_iff.2 ⟨s1,hk,h2⟩
theorem qsk(X:XEnv)(f:Nat)(as:List AV)(B:qak)(vf:VFn)(hn:X.nat f=none)(hf:X.env.code f=some vf){m:Nat}(hb:X.env.base f=some m)(hm:B.length=m)(hnp:as.length=vf.np):
 qad X f as B=(qau X (X.lin f) vf.code ⟨qah 0 (AV.clrs as),qfw B⟩).bind fun r=>
  match r.1 with
  | .exit _=>none
  |_=>qcg B.length r.2 vf.results:=by
 refine qcM fun r=> ?_
 rw[qbU];constructor
 ·rintro⟨n,h⟩
  cases n with
  |zero=>simp[qaX]at h
  |succ n=>
   rw[qaX]at h;simp only[hn,hf,hb]at h;rw[if_neg (by simp[hnp]),if_neg (by simp[hm])]at h;obtain⟨s1,h1,h2⟩:=Option.bind_eq_some_iff.1 h;exact Option.bind_eq_some_iff.2 ⟨s1,qat.2 ⟨n,h1⟩,h2⟩
 ·intro h
  obtain⟨s1,h1,h2⟩:=Option.bind_eq_some_iff.1 h;obtain⟨n,hk⟩:=qat.1 h1;refine⟨n+1,?_⟩;rw[qaX];simp only[hn,hf,hb];rw[if_neg (by simp[hnp]),if_neg (by simp[hm])];exact Option.bind_eq_some_iff.2 ⟨s1,hk,h2⟩
theorem qBh(X:XEnv)(T:List Nat)(draw:Bool)(L0:Nat):∀(fs:List FOper) (s r:XS),xFs (qad X) X.lin T draw L0 fs s=some r->∃n,xFs (qaX X n) X.lin T draw L0 fs s=some r:=by
 intro fs
 induction fs with
 |nil=>intro s r hr;exact⟨0,hr⟩
 |cons f fs ih=>
  intro s r hr;simp only[xFs]at hr⊢
  obtain⟨s1,h1,h2⟩:=Option.bind_eq_some_iff.1 hr;obtain⟨s2,h3,h4⟩:=Option.bind_eq_some_iff.1 h2;obtain⟨n,hn⟩:=qif _ _ _ _ _ _ _ h1;obtain⟨m,hm⟩:=ih _ _ h4;exact⟨Nat.max n m,Option.bind_eq_some_iff.2 ⟨s1,qcj (qa7 X (Nat.le_max_left n m)) _ _ _ _ _ _ _ hn,Option.bind_eq_some_iff.2 ⟨s2,h3,qph (qa7 X (Nat.le_max_right n m)) _ _ _ _ _ _ _ hm⟩⟩⟩
theorem qgF(X:XEnv)(T:List Nat)(draw:Bool)(na:Nat)(live:List Nat)(fs:List FOper)(s:XS):qau X T (.regionF draw na live fs) s=(qcz (qad X) X.lin T draw na live fs s).map fun s'=>(.normal,s'):=by
 refine qcM fun r=> ?_
 rw[qat];constructor
 ·rintro⟨n,hn⟩
  simp only[qaV]at hn;obtain⟨s1,h1,h2⟩:=Option.map_eq_some_iff.1 hn;exact Option.map_eq_some_iff.2 ⟨s1,qfP (qgI X n) _ _ _ _ _ _ _ _ h1,h2⟩
 ·intro h
  obtain⟨s1,h1,h2⟩:=Option.map_eq_some_iff.1 h;unfold qcz at h1;split at h1
  ·simp at h1
  ·rename_i hd
   obtain⟨s2,h3,h4⟩:=Option.map_eq_some_iff.1 h1;obtain⟨n,hn⟩:=qBh _ _ _ _ _ _ _ h3;refine⟨n,?_⟩;simp only[qaV];refine Option.map_eq_some_iff.2 ⟨s1,?_,h2⟩;unfold qcz;rw[if_neg hd];exact Option.map_eq_some_iff.2 ⟨s2,hn,h4⟩
theorem ql8(X:XEnv)(T:List Nat)(na:Nat)(live:List Nat)(pre tl:List VOper)(s:XS):qau X T (.regionT na live pre tl) s=(qc0 (qad X) X.lin T na live pre tl s).map fun s'=>(.normal,s'):=by
 refine qcM fun r=> ?_
 rw[qat];constructor
 ·rintro⟨n,hn⟩
  simp only[qaV]at hn;obtain⟨s1,h1,h2⟩:=Option.map_eq_some_iff.1 hn;refine Option.map_eq_some_iff.2 ⟨s1,?_,h2⟩;unfold qc0 at h1⊢
  split at h1
  ·simp at h1
  ·rename_i hd
   rw[if_neg hd];obtain⟨s2,h3,h4⟩:=Option.bind_eq_some_iff.1 h1;obtain⟨s3,h5,h6⟩:=Option.map_eq_some_iff.1 h4;exact Option.bind_eq_some_iff.2 ⟨s2,qcj (qgI X n) _ _ _ _ _ _ _ h3,Option.map_eq_some_iff.2 ⟨s3,qcj (qgI X n) _ _ _ _ _ _ _ h5,h6⟩⟩
 ·intro h
  obtain⟨s1,h1,h2⟩:=Option.map_eq_some_iff.1 h;unfold qc0 at h1;split at h1
  ·simp at h1
  ·rename_i hd
   obtain⟨s2,h3,h4⟩:=Option.bind_eq_some_iff.1 h1;obtain⟨s3,h5,h6⟩:=Option.map_eq_some_iff.1 h4;obtain⟨n,hn⟩:=qif _ _ _ _ _ _ _ h3;obtain⟨m,hm⟩:=qif _ _ _ _ _ _ _ h5;refine⟨Nat.max n m,?_⟩;simp only[qaV];refine Option.map_eq_some_iff.2 ⟨s1,?_,h2⟩;unfold qc0;rw[if_neg hd];exact Option.bind_eq_some_iff.2 ⟨s2,qcj (qa7 X (Nat.le_max_left n m)) _ _ _ _ _ _ _ hn,Option.map_eq_some_iff.2 ⟨s3,qcj (qa7 X (Nat.le_max_right n m)) _ _ _ _ _ _ _ hm,h6⟩⟩
theorem qo4(X:XEnv)(T:List Nat)(x:Gho)(c:VCode)(s:XS):qau X T (.ghost x c) s=(qn0 x s).bind (qau X T c):=by
 refine qcM fun r=> ?_
 rw[qat];constructor
 ·rintro⟨n,h⟩
  simp only[qaV]at h;obtain⟨s1,h1,h2⟩:=Option.bind_eq_some_iff.1 h;exact Option.bind_eq_some_iff.2 ⟨s1,h1,qat.2 ⟨n,h2⟩⟩
 ·intro h
  obtain⟨s1,h1,h2⟩:=Option.bind_eq_some_iff.1 h;obtain⟨n,hn⟩:=qat.1 h2;exact⟨n,by simp only[qaV];exact Option.bind_eq_some_iff.2 ⟨s1,h1,hn⟩⟩
noncomputable def qld(X:XEnv)(T:List Nat)(sf:SFn)(ds:List DV):Option DV:=
 if ds.length≠sf.np then none else
  (qau X T sf.pre ⟨qah 0 (ds.map .d),[]⟩).bind fun r=>
   match r.1,lk r.2.r sf.cond,lk r.2.r sf.row with
   | .normal,some (.d (.bool true)),some (.d (.sl (.own [] 0) (x::xr)))=>
    (qgQ r.2).bind fun y=>(qgS (qad X) sf x xr).map fun q=> .agg [y.1,y.2,.sl U q]
   | .normal,some (.d (.bool false)),_| .normal,some (.d (.bool true)),some (.d (.sl _ []))=>
    (qau X T sf.rest r.2).bind fun r2=>
     match r2.1 with
     | .exit _=>none
     |_=>(qcg 0 r2.2 sf.results).bind fun q=>match q.1 with
      | .d v=>some v
      |_=>none
   |_,_,_=>none
theorem qsI(X:XEnv)(sf:SFn)(x:DV)(xr:List DV):∀r,qgS (qad X) sf x xr=some r->∃n,qgS (qaX X n) sf x xr=some r:=by
 intro r hr;unfold qgS at hr⊢
 split at hr
 ·rename_i hc
  split at hr
  ·rename_i v cs hq
   obtain⟨n,hn⟩:=qbU.1 hq;exact⟨n,by rw[if_pos hc,hn];exact hr⟩
  ·simp at hr
 ·simp at hr
theorem qkt{X:XEnv}{T:List Nat}{sf:SFn}{ds:List DV}{r:DV}:qld X T sf ds=some r↔∃n,qid (qaX X n) X.lin T n sf ds=some r:=by
 constructor
 ·intro hr
  unfold qld at hr;split at hr
  ·simp at hr
  rename_i hlen;obtain⟨⟨e,s⟩,h1,h2⟩:=Option.bind_eq_some_iff.1 hr;obtain⟨n,hn⟩:=qat.1 h1;have two:∀m,∀{q:Ex×XS},qaV (qaX X m) X.lin T m sf.rest s=some q->qaV (qaX X (Nat.max n m)) X.lin T (Nat.max n m) sf.rest s=some q:=fun m q hq=>qbe (qa7 X (Nat.le_max_right n m)) _ _ (Nat.le_max_right n m) _ _ _ hq
  have one:∀m,qaV (qaX X (Nat.max n m)) X.lin T (Nat.max n m) sf.pre ⟨qah 0 (ds.map .d),[]⟩=some (e,s):=fun m=>qbe (qa7 X (Nat.le_max_left n m)) _ _ (Nat.le_max_left n m) _ _ _ hn
  simp only at h2;split at h2
  ·rename_i x xr e1 e2
   obtain⟨y,h3,h4⟩:=Option.bind_eq_some_iff.1 h2;obtain⟨q,h5,h6⟩:=Option.map_eq_some_iff.1 h4;obtain⟨m,hm⟩:=qsI X _ _ _ _ h5;refine⟨Nat.max n m,?_⟩;unfold qid;rw[if_neg hlen,one m];simp only[Option.bind_some,e1,e2];exact Option.bind_eq_some_iff.2 ⟨y,h3,Option.map_eq_some_iff.2 ⟨q,qgR (qa7 X (Nat.le_max_right n m)) _ _ _ _ hm,h6⟩⟩
  ·rename_i e1
   obtain⟨q,h5,h6⟩:=Option.bind_eq_some_iff.1 h2;obtain⟨m,hm⟩:=qat.1 h5;refine⟨Nat.max n m,?_⟩;unfold qid;rw[if_neg hlen,one m];simp only[Option.bind_some,e1];exact Option.bind_eq_some_iff.2 ⟨q,two m hm,h6⟩
  ·rename_i g e1 e2
   obtain⟨q,h5,h6⟩:=Option.bind_eq_some_iff.1 h2;obtain⟨m,hm⟩:=qat.1 h5;refine⟨Nat.max n m,?_⟩;unfold qid;rw[if_neg hlen,one m];simp only[Option.bind_some,e1,e2];exact Option.bind_eq_some_iff.2 ⟨q,two m hm,h6⟩
  ·simp at h2
 ·rintro⟨n,hr⟩
  unfold qid at hr;unfold qld;split at hr
  ·simp at hr
  rename_i hlen;rw[if_neg hlen];obtain⟨⟨e,s⟩,h1,h2⟩:=Option.bind_eq_some_iff.1 hr;refine Option.bind_eq_some_iff.2 ⟨(e,s),qat.2 ⟨n,h1⟩,?_⟩;simp only at h2⊢
  split at h2
  ·rename_i x xr e1 e2
   obtain⟨y,h3,h4⟩:=Option.bind_eq_some_iff.1 h2;obtain⟨q,h5,h6⟩:=Option.map_eq_some_iff.1 h4
   try simp only[e1,e2]
   exact Option.bind_eq_some_iff.2 ⟨y,h3,Option.map_eq_some_iff.2 ⟨q,qgR (qgI X n) _ _ _ _ h5,h6⟩⟩
  ·rename_i e1
   obtain⟨q,h5,h6⟩:=Option.bind_eq_some_iff.1 h2
   try simp only[e1]
   exact Option.bind_eq_some_iff.2 ⟨q,qat.2 ⟨n,h5⟩,h6⟩
  ·rename_i g e1 e2
   obtain⟨q,h5,h6⟩:=Option.bind_eq_some_iff.1 h2
   try simp only[e1,e2]
   exact Option.bind_eq_some_iff.2 ⟨q,qat.2 ⟨n,h5⟩,h6⟩
  ·simp at h2
theorem qsi(X:XEnv)(f:Nat)(as:List AV)(B:qak)(sf:SFn)(hn:X.nat f=none)(hf:X.env.code f=none)(hs:X.env.spec f=some sf):
 qad X f as B=(qay as).bind fun ds=>(qld X (X.lin f) sf ds).map fun v=>(.d v,B):=by
 refine qcM fun r=> ?_
 rw[qbU];constructor
 ·rintro⟨n,h⟩
  cases n with
  |zero=>simp[qaX]at h
  |succ n=>
   rw[qaX]at h;simp only[hn,hf,hs]at h;obtain⟨ds,h1,h2⟩:=Option.bind_eq_some_iff.1 h;obtain⟨q,h3,h4⟩:=Option.map_eq_some_iff.1 h2;exact Option.bind_eq_some_iff.2 ⟨ds,h1,Option.map_eq_some_iff.2 ⟨q,qkt.2 ⟨n,h3⟩,h4⟩⟩
 ·intro h
  obtain⟨ds,h1,h2⟩:=Option.bind_eq_some_iff.1 h;obtain⟨q,h3,h4⟩:=Option.map_eq_some_iff.1 h2;obtain⟨n,hk⟩:=qkt.1 h3;refine⟨n+1,?_⟩;rw[qaX];simp only[hn,hf,hs];exact Option.bind_eq_some_iff.2 ⟨ds,h1,Option.map_eq_some_iff.2 ⟨q,hk,h4⟩⟩
theorem qyz{X:XEnv}(hX:XOK X){f:Nat}{xs vs:List DV}(hc:DV.clrs xs=xs)(hf:DV.fits xs vs){d:DV}{B':qak}(hd:d.clr=d)(h:qad X f (xs.map .d) []=some (.d d,B')):
 ∃u A Bv,qsl X.env [] f (vs.map .d) [] Ids.none=some ⟨.d u,A,Bv⟩/\d.fit u:=by
 obtain⟨n,hn⟩:=qbU.1 h;have h0:AV.fits (xs.map .d) (vs.map .d):=AV.qe6 hf;have hre:∀j,qbX (qah 0 (xs.map AV.d)) (qah 0 (vs.map AV.d)) j=[]:=by
  intro j;rw[qcQ];split
  ·rename_i a b ha hb
   have:=AV.qb8 ha hb;rw[AV.qfD,<-hc,DV.qc8]at this;exact List.sublist_nil.1 this
  ·rfl
 have hloc:∀ℓ,qab (qah 0 (xs.map AV.d)) [] (qah 0 (vs.map AV.d)) [] ℓ=[]:=by
  intro ℓ;cases ℓ with
  |reg t=>exact hre t
  |box j=>simp[qab,qbD,qa1]
 obtain⟨v,Bv,A',h1,h2,_⟩:=qtk hX n f _ _ _ _ hn [] (vs.map .d) [] Ids.none (fun _=>False) h0 ⟨rfl,by simp⟩
  ⟨fun ℓ=>by rw[hloc];simp,fun ℓ ℓ' a ha=>by rw[hloc]at ha;simp at ha,fun ℓ a ha=>by rw[hloc]at ha;simp at ha,fun a ha=>by simp at ha⟩ (fun j _=>hre j) (fun a ha=>by simp[Ids.none]at ha)
 simp only[AV.fit]at h2;obtain⟨y,rfl,h3⟩:=h2;exact⟨y,A',Bv,qkT.2 ⟨n,h1⟩,h3⟩
end Go.Proofs.Ytfiakfiocdfpbaa.VS
namespace Go.Proofs.Ytfiakfiocdfpbaa.VS
open Classical
def qBc(b:Option Bool)(c:qar)(lin:Nat->List Nat)(T:List Nat)(d:Bool)(L:Nat)(o:VOper)(os:List VOper)(s:XS):Option XS:=
 match b with
 |some true=>(xOp c lin T d L o s).bind (qcy c lin T d L os)
 |some false=>qcy c lin T d L os (qbk T s o.dst .und)
 |none=>none
def qDZ(r:Option XS)(c:qar)(lin:Nat->List Nat)(T:List Nat)(d:Bool)(L:Nat)(os:List VOper):Option XS:=r.bind (qcy c lin T d L os)
def qd2(live:List Nat)(r:Option XS):Option (Ex×XS):=r.map fun s'=>(.normal,⟨keep s'.r live,s'.B⟩)
def qpf(id:Nat)(r:Option (Ex×XS)):Option (Ex×XS):=r.map fun r=>if r.1= .exit id then(.normal,r.2)else r
noncomputable def qBi(v:Option AV)(X:XEnv)(T:List Nat)(a b:VCode)(s:XS):Option (Ex×XS):=
 match v with
 |some (.d (.bool true))=>qau X T a s
 |some (.d (.bool false))=>qau X T b s
 |_=>none
def qD0(L:Nat)(rs:List VRes)(r:Option (Ex×XS)):Option (AV×qak):=
 r.bind fun r=>match r.1 with
  | .exit _=>none
  |_=>qcg L r.2 rs
def qiB(T:List Nat)(s:XS)(dst:Option Nat)(v:Option AV):Option XS:=v.map fun v=>qbk T s dst v
def qdH(T:List Nat)(s:XS)(dst:Option Nat)(v:Option AV):Option XS:=v.map fun v=>qbk T s dst v.clr
def qxb(T:List Nat)(s:XS)(dst:Option Nat)(v:Option DV):Option XS:=v.map fun v=>qbk T s dst (.d v)
def qA2(T:List Nat)(s:XS)(dst:Option Nat)(B:Option qak):Option XS:=B.map fun B=>qbk T ⟨s.r,B⟩ dst .und
def qJL(T:List Nat)(dst:Option Nat)(s:XS)(v:Option (List DV)):Option XS:=v.map fun xs=>qbk T s dst (.d (.sl U xs))
def qDX(T:List Nat)(dst:Option Nat)(s:XS)(a b:VX)(v:Option AV):Option XS:=
 match v with
 |some (.d (.bool true))=>(qbF s.r a).map fun v=>qbk T (qdq T dst s [a]) dst v
 |some (.d (.bool false))=>(qbF s.r b).map fun v=>qbk T (qdq T dst s [b]) dst v
 |_=>none
def qJO(T:List Nat)(dst:Option Nat)(sz bytes:Nat)(x y:VX)(s:XS)(v w:Option AV):Option XS:=
 match v,w with
 |some (.d v),some (.d w)=>(qbG sz bytes v w).map fun u=>qbk T ⟨qbu T s.r (if qbV T dst then [x,y]else [x]),s.B⟩ dst (.d u)
 |_,_=>none
def qJN(T:List Nat)(L:Nat)(dst:Option Nat)(k:Nat)(x:VX)(s:XS)(v:Option AV):Option XS:=
 v.bind fun v=>if qbQ s.B (L+k)/\v.cells.all AV.isCell/\v.safe (L+k)then some (qbk T ⟨qd0 T s.r x,s.B.set (L+k) (some v.cells)⟩ dst (.ptr (L+k) 0))else none
def qHJ(T:List Nat)(dst:Option Nat)(sz n:Nat)(g:Tag)(xs:List DV)(k:Nat)(s:XS)(e:Option DV):Option XS:=
 e.bind fun e=>if e.cells.length=sz/\sz≠0 then some (qbk T (if T.contains n then⟨(n,.d (.sl g (xs.set k e.clr)))::s.r,s.B⟩else s) dst (.ep e.cells))else none
def xTk(T:List Nat)(dst:Option Nat)(sz n:Nat)(s:XS)(v w:Option AV):Option XS:=
 match v,w with
 |some (.d (.sl g xs)),some (.d (.int _ k))=>if 0<=k then qHJ T dst sz n g xs k.toNat s (xs[k.toNat]?)else none
 |_,_=>none
def qxI(T:List Nat)(d:Bool)(L:Nat)(dst:Option Nat)(agg:Bool)(sz:Nat)(x:VX)(s:XS)(a:Option AV):Option XS:=
 match a with
 |some (.ep cs)=>(cut agg sz cs).map fun v=>qbk T (qdq T dst s [x]) dst (.d v)
 |some (.ptr b off)=>if d/\L<=b then none else(qae s.B agg sz b off).map fun v=>qbk T (if qbV T dst then⟨s.r,qcc s.B b off (if agg then sz else 1)⟩else s) dst v
 |_=>none
def qzo(T:List Nat)(d:Bool)(L:Nat)(dst:Option Nat)(init:Bool)(sz:Nat)(x:VX)(s:XS)(a v:Option AV):Option XS:=
 match a,v with
 |some (.ptr b off),some v=>if qbw d init L b then none else(qbo s.B sz b off v).map fun B=>qbk T ⟨qd0 T s.r x,B⟩ dst .und
 |_,_=>none
def qtp(T:List Nat)(d:Bool)(L:Nat)(dst:Option Nat)(sz:Nat)(x:VX)(av:List Nat)(s:XS)(a v:Option AV):Option XS:=
 match a,v with
 |some (.ptr b off),some v=>if qbw d false L b|| !qcC s.r b av then none else(qbo s.B sz b off v).map fun B=>qbk T ⟨qd0 T s.r x,B⟩ dst .und
 |_,_=>none
def qKi(b:Nat):Option AV->Bool
 |some (.ptr b' _)=>b' !=b
 |_=>false
theorem qrM(r:List (Nat×AV))(b:Nat):qcC r b []=true:=_root_.id rfl
theorem qoX(r:List (Nat×AV))(b t:Nat)(av:List Nat):qcC r b (t::av)=(qKi b (lk r t)&&qcC r b av):=by
 unfold qcC;simp only[List.all_cons];congr 1
theorem qyO(b b' off:Nat):qKi b (some (.ptr b' off))=(b' !=b):=_root_.id rfl
def qD1(T:List Nat)(dst:Option Nat)(n i:Nat)(s:XS)(v:Option AV):Option XS:=
 match v with
 |some (.ag true vs)=>(vs[i]?).map fun v=>qbk T s dst v.clr
 |some (.d (.tup vs))=>(vs[i]?).map fun v=>qbk T (if qbV T dst&&T.contains n then⟨(n,.d (.tup (vs.set i v.clr)))::s.r,s.B⟩else s) dst (.d v)
 |_=>none
def xMk(T:List Nat)(d:Bool)(L:Nat)(dst:Option Nat)(k sz bytes:Nat)(z:DV)(s:XS)(v:Option AV):Option XS:=
 match v with
 |some (.d (.int _ n))=>
  if d=false/\qbQ s.B (L+k)/\0<=n/\n.toNat*bytes<=140737488355328/\n<9223372036854775808/\z.cells.length=sz/\z.cells.all DV.isCell then
   some (qbk T ⟨s.r,s.B.set (L+k) (some (((List.replicate n.toNat z.cn).flatMap DV.cells).map .d))⟩ dst (.bsl [] (isAgg z) (L+k) sz n.toNat))else none
 |_=>none
def qGL(c:qar)(T:List Nat)(dst:Option Nat)(s:XS)(f:Option AV)(vs:Option (List AV)):Option XS:=
 match f,vs with
 |some (.fn k caps),some vs=>
  match qay vs,caps with
  |some _,[]=>
   match c k (qbN [] 0 vs) []with
   |some (.d v,_)=>some (qbk T s dst (.d v))
   |_=>none
  |_,_=>none
 |_,_=>none
def qBe(T:List Nat)(dst:Option Nat)(s:XS)(ds:Option (List DV))(r:Option (AV×qak)):Option XS:=
 match ds with
 |some _=>
  match r with
  |some (.d v,_)=>some (qbk T s dst (.d v))
  |_=>none
 |none=>none
def xN2(T:List Nat)(dst:Option Nat)(s:XS)(xs:List VX)(b:Bool)(r:Option (AV×qak)):Option XS:=
 if b then
  match r with
  |some (v,B)=>some (qbk T ⟨qbu T s.r xs,B⟩ dst v)
  |none=>none
 else none
def xN(c:qar)(lin:Nat->List Nat)(T:List Nat)(dst:Option Nat)(s:XS)(args:List VX)(f:Option AV)(vs:Option (List AV)):Option XS:=
 match f,vs with
 |some (.fn k caps),some vs=>xN2 T dst s (qa2 (lin k) 0 args) (qan T (qa2 (lin k) 0 args)) (c k (qbN (lin k) 0 vs++caps) s.B)
 |_,_=>none
def xT2(T:List Nat)(dst:Option Nat)(thaw:Bool)(s:XS)(r:Option (AV×qak)):Option XS:=
 match r with
 |some (.d v,_)=>qd1 T thaw s dst v
 |_=>none
def xT1(c:qar)(T:List Nat)(dst:Option Nat)(thaw:Bool)(s:XS)(k:Nat)(ds:Option (List DV)):Option XS:=ds.bind fun ds=>xT2 T dst thaw s (c k (qbN [] 0 (ds.map .d)) [])
def xT(c:qar)(T:List Nat)(d:Bool)(dst:Option Nat)(thaw:Bool)(s:XS)(f:Option AV)(vs:Option (List AV)):Option XS:=
 match f,vs with
 |some (.fn k []),some vs=>if d=false\/thaw=false then xT1 c T dst thaw s k (qdw (AV.frz s.B) vs)else none
 |_,_=>none
def qKh(d:Option DV)(ds:Option (List DV)):Option (List DV):=d.bind fun d=>ds.map (d::·)
def qwn(v:Option AV)(vs:Option (List AV)):Option (List AV):=match v,vs with|some v,some vs=>some (v::vs)|_,_=>none
def qCQ(v:DV)(vs:Option (List DV)):Option (List DV):=vs.map (v::·)
def dO(a:Option DV):Option AV:=a.map .d
def qGP(v:Option AV):Option AV:=match v with|some (.ptr i o)=>some (.ptr i o)|some (.ep cs)=>some (.ep cs)|some (.fn f c)=>some (.fn f c)|_=>none
def qKl(op:BinOp)(x y:Option AV):Option AV:=match x,y with|some (.d a),some (.d b)=>(qe1 op a b).map .d|_,_=>none
def qv4(neg:Bool)(ks:List Nat)(x y:Option AV):Option AV:=match x,y with|some (.d (.agg a)),some (.d (.agg b))=>(qbl ks a b).map fun e=> .d (.bool (if neg then !e else e))|_,_=>none
def qKk(neg:Bool)(x y:Option AV):Option AV:=match x,y with|some (.d (.bool a)),some (.d (.bool b))=>some (.d (.bool (if neg then !(a==b)else(a==b))))|_,_=>none
def qKj(x:Option AV):Option AV:=match x with|some (.d (.bool b))=>some (.d (.bool !b))|_=>none
def qGn(k:IntKind)(x:Option AV):Option AV:=match x with|some (.d (.int _ n))=>some (.d (.int k (k.wrap n)))|_=>none
def qGm(x:Option AV):Option AV:=match x with|some (.d (.int _ n))=>some (.d (.str (Utf8.encode n)))|_=>none
def qAw(x:Option AV):Option AV:=match x with|some (.d (.sl _ xs))=>(bytesOf xs).map fun bs=> .d (.str ⟨bs.toArray⟩)|_=>none
def qAv(x i:Option AV):Option AV:=match x,i with|some (.d (.str s)),some (.d (.int _ n))=>if 0<=n then(qjU s n.toNat).map fun b=> .d (.int .u8 b)else none|_,_=>none
def qv6(sz:Nat)(x i:Option AV):Option AV:=
 match x,i with
 |some (.d (.sl _ xs)),some (.d (.int _ n))=>if 0<=n then(xs[n.toNat]?).bind fun e=>if e.cells.length=sz/\sz≠0 then some (.ep e.cells)else none else none
 |some (.bsl _ _ b sz' m),some (.d (.int _ n))=>if sz'=sz/\0<=n/\n<m then some (.ptr b (n.toNat*sz))else none
 |some (.tsl _ b sz' m),some (.d (.int _ n))=>if sz'=sz/\0<=n/\n<m then some (.ptr b (n.toNat*sz))else none
 |_,_=>none
def qCL(sz:Nat)(e:Option DV):Option AV:=e.bind fun e=>if e.cells.length=sz/\sz≠0 then some (.ep e.cells)else none
def qJg(sz m:Nat)(x i:Option AV):Option AV:=
 match x,i with
 |some (.ptr b o),some (.d (.int _ n))=>if 0<=n/\n<m then some (.ptr b (o+n.toNat*sz))else none
 |some (.ep cs),some (.d (.int _ n))=>if 0<=n/\n<m/\n.toNat*sz<=cs.length then some (.ep (cs.drop (n.toNat*sz)))else none
 |_,_=>none
def qv3(off:Nat)(x:Option AV):Option AV:=match x with|some (.ptr b o)=>some (.ptr b (o+off))|some (.ep cs)=>if off<=cs.length then some (.ep (cs.drop off))else none|_=>none
def qDt(str:Bool)(x:Option AV):Option AV:=
 match str,x with
 |true,some (.d (.str s))=>some (.d (.int .i64 s.size))
 |false,some (.d (.sl _ xs))=>some (.d (.int .i64 xs.length))
 |false,some (.bsl _ _ _ _ n)=>some (.d (.int .i64 n))
 |false,some (.tsl _ _ _ n)=>some (.d (.int .i64 n))
 |_,_=>none
def qJf(x y:Option AV):Option AV:=match x,y with|some (.d (.int k a)),some (.d (.int k' b))=>if k=k' then some (.d (.int k (if b>a then b else a)))else none|_,_=>none
def qqp(str:Bool)(sz:Nat)(x:Option AV)(lo hi:Option (Option AV)):Option AV:=
 match str,x,lo,hi with
 |true,some (.d (.str s)),some lo,some hi=>(qbJ s.size hi).bind fun h=>(qbI h lo).map fun l=> .d (.str (s.extract l h))
 |false,some (.d (.sl g xs)),some lo,some hi=>if xs.all (fun e=>e.cells.length=sz)then(qbJ xs.length hi).bind fun h=>(qbI h lo).map fun l=> .d (.sl (if g= .nil then .nil else .sub) ((xs.take h).drop l))else none
 |_,_,_,_=>none
def qv5(g:VX->Option AV)(cs:List DV)(off size:Nat)(r:List (Nat×Nat×VX))(v:Option AV):Option (List DV):=
 match v with
 |some (.d v)=>if v.cells.length=size/\off+size<=cs.length/\v.cells.all DV.isCell then qaF g (splice cs off v.cells) r else none
 |_=>none
def qJe(g:VX->Option AV)(sz:Nat)(cs:List DV)(i:Nat)(r:List (Nat×VX))(v:Option AV):Option (List DV):=
 match v with
 |some (.d v)=>if v.cells.length=sz/\i<cs.length/\v.cells.all DV.isCell then qaC g sz (cs.set i v) r else none
 |_=>none
def qHK(T:List Nat)(dst:Option Nat)(s:XS)(b:Nat)(q:Option (AV×qak)):Option XS:=
 match q with
 |some (.d v,[some cs'])=>(qay cs').map fun _=>qbk T ⟨s.r,s.B.set b (some (AV.clrs cs'))⟩ dst (.d v)
 |_=>none
def xCS(c:qar)(T:List Nat)(dst:Option Nat)(s:XS)(f:Option AV)(as:Option (List AV))(q:Option AV):Option XS:=
 match f,as,q with
 |some (.fn k []),some (.ptr b off::vs),some (.ptr b' _)=>if b≠b' then none else(qay vs).bind fun _=>(qa1 s.B b).bind fun cs=>(qay cs).bind fun _=>qHK T dst s b (c k (.ptr 0 off::qbN [] 0 vs) [some (AV.clrs cs)])
 |_,_,_=>none
def qzp(T:List Nat)(d:Bool)(L:Nat)(dst:Option Nat)(agg:Bool)(sz:Nat)(s:XS)(a q:Option AV):Option XS:=
 match a,q with
 |some (.ptr b off),some (.ptr b' _)=>if b=b'\/(d/\L<=b)then none else qiB T (if qbV T dst then⟨s.r,qcc s.B b off (if agg then sz else 1)⟩else s) dst (qae s.B agg sz b off)
 |_,_=>none
def xTl(c:qar)(lin:Nat->List Nat)(T:List Nat)(L:Nat)(live:List Nat)(tl:List VOper)(o:Option XS):Option (Ex×XS):=
 match o with
 |some s=>qd2 live (qcy c lin T false L tl s)
 |none=>none
theorem qJK(c:qar)(lin:Nat->List Nat)(T:List Nat)(L:Nat)(live:List Nat)(tl:List VOper)(s:XS):xTl c lin T L live tl (some s)=qd2 live (qcy c lin T false L tl s):=_root_.id rfl
theorem qsA(X:XEnv)(T:List Nat)(na:Nat)(live:List Nat)(pre tl:List VOper)(h:qer pre=true)(r:List (Nat×AV))(B:qak):
 qau X T (.regionT na live pre tl) ⟨r,B⟩=xTl (qad X) X.lin T B.length live tl (qcy (qad X) X.lin T true B.length pre ⟨r,B++List.replicate na none⟩):=by
 rw[ql8];unfold qc0;rw[if_neg (by rw[h];simp)];simp only;cases qcy (qad X) X.lin T true B.length pre ⟨r,B++List.replicate na none⟩with
 |none=>rfl
 |some s=>
  simp only[Option.bind_some,qJK];cases qcy (qad X) X.lin T false B.length tl s<;>rfl
def qJP(T:List Nat)(d:Bool)(dst:Option Nat)(sz bytes:Nat)(x v:VX)(t9:Nat)(s:XS)(a b c e:Option AV):Option XS:=
 match a,b,c,e with
 |some (.d (.sl g xs)),some (.d (.sl _ [z])),some (.d (.int _ n)),some (.d w)=>
  if d=false/\n=xs.length/\z.cells.length=sz/\z.cells.all DV.isCell=true/\w.cells.length=sz/\w.cells.all DV.isCell=true/\lk s.r t9=none then
   (qbG sz bytes (.sl g xs) (.sl .sub [w])).map fun u=>qbk T ⟨qbu T s.r (if qbV T dst then [x,v]else [x]),s.B⟩ dst (.d u)
  else none
 |_,_,_,_=>none
theorem qHr(c:qar)(lin:Nat->List Nat)(T:List Nat)(d:Bool)(L:Nat)(o:VOper)(os:List VOper)(s:XS):qcy c lin T d L (o::os) s=qBc (qck s.r o.guard) c lin T d L o os s:=_root_.id rfl
theorem qHt(c:qar)(lin:Nat->List Nat)(T:List Nat)(d:Bool)(L:Nat)(s:XS):qcy c lin T d L [] s=some s:=_root_.id rfl
theorem qDA(c:qar)(lin:Nat->List Nat)(T:List Nat)(d:Bool)(L:Nat)(o:VOper)(os:List VOper)(s:XS):qBc (some true) c lin T d L o os s=qDZ (xOp c lin T d L o s) c lin T d L os:=_root_.id rfl
theorem qAP(c:qar)(lin:Nat->List Nat)(T:List Nat)(d:Bool)(L:Nat)(o:VOper)(os:List VOper)(s:XS):qBc (some false) c lin T d L o os s=qcy c lin T d L os (qbk T s o.dst .und):=_root_.id rfl
theorem qDE(s:XS)(c:qar)(lin:Nat->List Nat)(T:List Nat)(d:Bool)(L:Nat)(os:List VOper):qDZ (some s) c lin T d L os=qcy c lin T d L os s:=_root_.id rfl
theorem qw3(X:XEnv)(T:List Nat)(na:Nat)(live:List Nat)(ops:List VOper)(r:List (Nat×AV))(B:qak):
 qau X T (.region false na live ops) ⟨r,B⟩=qd2 live (qcy (qad X) X.lin T false B.length ops ⟨r,B++List.replicate na none⟩):=by
 rw[qh7];simp[qde,qd2,Function.comp_def]
theorem qby(X:XEnv)(T:List Nat)(na:Nat)(live:List Nat)(ops:List VOper)(h:qer ops=true)(r:List (Nat×AV))(B:qak):
 qau X T (.region true na live ops) ⟨r,B⟩=qd2 live (qcy (qad X) X.lin T true B.length ops ⟨r,B++List.replicate na none⟩):=by
 rw[qh7];simp[qde,qd2,Function.comp_def,h]
theorem qHy(live:List Nat)(r:List (Nat×AV))(B:qak):qd2 live (some ⟨r,B⟩)=some (.normal,⟨keep r live,B⟩):=_root_.id rfl
theorem qsE(X:XEnv)(T:List Nat)(id:Nat)(c:VCode)(s:XS):qau X T (.block id c) s=qpf id (qau X T c s):=qo5 X T id c s
theorem qsz(id:Nat)(e:Ex)(s:XS):qpf id (some (e,s))=some (if e= .exit id then(.normal,s)else(e,s)):=_root_.id rfl
theorem qDK(X:XEnv)(T:List Nat)(x:VX)(a b:VCode)(s:XS):qau X T (.cond x a b) s=qBi (qbF s.r x) X T a b s:=by rw[qr5];rfl
theorem qAS(X:XEnv)(T:List Nat)(a b:VCode)(s:XS):qBi (some (.d (.bool true))) X T a b s=qau X T a s:=_root_.id rfl
theorem qw4(X:XEnv)(T:List Nat)(a b:VCode)(s:XS):qBi (some (.d (.bool false))) X T a b s=qau X T b s:=_root_.id rfl
theorem qaA(X:XEnv)(f:Nat)(as:List AV)(B:qak)(vf:VFn)(hn:X.nat f=none)(hf:X.env.code f=some vf)(hnp:as.length=vf.np)(hb:X.env.base f=none:=by first|rfl|assumption):
 qad X f as B=qD0 B.length vf.results (qau X (X.lin f) vf.code ⟨qah 0 as,B⟩):=qsj X f as B vf hn hf hb hnp
theorem qsD(X:XEnv)(f:Nat)(as:List AV)(B:qak)(vf:VFn)(hn:X.nat f=none)(hf:X.env.code f=some vf)(hnp:as.length=vf.np){m:Nat}(hb:X.env.base f=some m)(hm:B.length=m):
 qad X f as B=qD0 B.length vf.results (qau X (X.lin f) vf.code ⟨qah 0 (AV.clrs as),qfw B⟩):=qsk X f as B vf hn hf hb hm hnp
theorem qn4(X:XEnv)(T:List Nat)(x:Gho)(c:VCode)(s:XS):qau X T (.ghost x c) s=(qn0 x s).bind (qau X T c):=qo4 X T x c s
theorem qHp(L:Nat)(rs:List VRes)(s:XS):qD0 L rs (some (.ret,s))=qcg L s rs:=_root_.id rfl
theorem qDD(L:Nat)(rs:List VRes)(s:XS):qD0 L rs (some (.normal,s))=qcg L s rs:=_root_.id rfl
theorem qhw(s:XS)(k:XS->Option (Ex×XS)):qmu (some (.normal,s)) k=k s:=_root_.id rfl
theorem qmt(s:XS)(k:XS->Option (Ex×XS)):qmu (some (.ret,s)) k=some (.ret,s):=_root_.id rfl
theorem qqS(id:Nat)(s:XS)(k:XS->Option (Ex×XS)):qmu (some (.exit id,s)) k=some (.exit id,s):=_root_.id rfl
section
variable (c:qar) (lin:Nat->List Nat) (T:List Nat) (d:Bool) (L:Nat) (dst:Option Nat) (g:Option (Nat×Bool)) (af:List Nat) (s:XS)
theorem qDF(x:VX):xOp c lin T d L ⟨dst,.move x,g,af⟩ s=qiB T (qdq T dst s [x]) dst (qbF s.r x):=_root_.id rfl
theorem qAV(z:List DV)(ps:List (Nat×Nat×VX)):xOp c lin T d L ⟨dst,.build z ps,g,af⟩ s=qiB T (qdq T dst s (ps.map fun q=>q.2.2)) dst ((qaF (qbF s.r) (z.map DV.cn1) ps).map fun cs=> .d (.agg cs)):=by
 simp only[xOp,qiB,Option.map_map];rfl
theorem qqI(x:VX):xOp c lin T d L ⟨dst,.nilCheck x,g,af⟩ s=qdH T s dst (evP s.r (.nilCheck x)):=_root_.id rfl
theorem qHA(op:BinOp)(x y:VX):xOp c lin T d L ⟨dst,.bin op x y,g,af⟩ s=qdH T s dst (evP s.r (.bin op x y)):=_root_.id rfl
theorem qAQ(neg:Bool)(ks:List Nat)(x y:VX):xOp c lin T d L ⟨dst,.eqAgg neg ks x y,g,af⟩ s=qdH T s dst (evP s.r (.eqAgg neg ks x y)):=_root_.id rfl
theorem qHx(neg:Bool)(x y:VX):xOp c lin T d L ⟨dst,.eqB neg x y,g,af⟩ s=qdH T s dst (evP s.r (.eqB neg x y)):=_root_.id rfl
theorem qHs(x:VX):xOp c lin T d L ⟨dst,.not x,g,af⟩ s=qdH T s dst (evP s.r (.not x)):=_root_.id rfl
theorem qDJ(k:Conv)(x:VX):xOp c lin T d L ⟨dst,.conv k x,g,af⟩ s=qdH T s dst (evP s.r (.conv k x)):=_root_.id rfl
theorem qAO(x y:VX):xOp c lin T d L ⟨dst,.index x y,g,af⟩ s=qdH T s dst (evP s.r (.index x y)):=_root_.id rfl
theorem qn3(sz:Nat)(n:Nat)(y:VX):xOp c lin T d L ⟨dst,.indexAddr sz none (.t n) y,g,af⟩ s=if qbV T dst then xTk T dst sz n s (lk s.r n) (qbF s.r y)else qdH T s dst (evP s.r (.indexAddr sz none (.t n) y)):=by
 simp only[xOp,qdI];cases hl:qbV T dst with
 |true=>rfl
 |false=>rfl
theorem qmi(sz m:Nat)(x y:VX):xOp c lin T d L ⟨dst,.indexAddr sz (some m) x y,g,af⟩ s=qdH T s dst (evP s.r (.indexAddr sz (some m) x y)):=by
 simp only[xOp,qdI];cases hl:qbV T dst<;>cases x<;>rfl
theorem qmh(sz:Nat)(v:AV)(y:VX):xOp c lin T d L ⟨dst,.indexAddr sz none (.c v) y,g,af⟩ s=qdH T s dst (evP s.r (.indexAddr sz none (.c v) y)):=by
 simp only[xOp,qdI];cases hl:qbV T dst<;>rfl
theorem qn5(off:Nat)(x:VX):xOp c lin T d L ⟨dst,.fieldAddr off x,g,af⟩ s=qdH T s dst (evP s.r (.fieldAddr off x)):=_root_.id rfl
theorem qAL(str:Bool)(sz:Nat)(x:VX)(lo hi:Option VX):xOp c lin T d L ⟨dst,.slice str sz x lo hi,g,af⟩ s=qdH T s dst (evP s.r (.slice str sz x lo hi)):=_root_.id rfl
theorem qqJ(f:Nat)(cs:List VX):xOp c lin T d L ⟨dst,.makeFunc f cs,g,af⟩ s=qdH T s dst (evP s.r (.makeFunc f cs)):=_root_.id rfl
theorem qHv(str:Bool)(x:VX):xOp c lin T d L ⟨dst,.len str x,g,af⟩ s=qdH T s dst (evP s.r (.len str x)):=_root_.id rfl
theorem qHu(x y:VX):xOp c lin T d L ⟨dst,.max x y,g,af⟩ s=qdH T s dst (evP s.r (.max x y)):=_root_.id rfl
theorem qDB(v:AV):qdH T s dst (some v)=some (qbk T s dst v.clr):=_root_.id rfl
theorem qHq(v:AV):qiB T s dst (some v)=some (qbk T s dst v):=_root_.id rfl
theorem qDz(r:List (Nat×AV))(B:qak)(n:Nat)(v:AV):qbk T ⟨r,B⟩ (some n) v=⟨(n,if T.contains n then v else v.clr)::r,B⟩:=_root_.id rfl
theorem qn1(v:AV):qbk T s none v=s:=_root_.id rfl
theorem qDH(r:List (Nat×AV))(B:qak)(xs:List VX):qdq T dst ⟨r,B⟩ xs=if qbV T dst then⟨qbu T r xs,B⟩else⟨r,B⟩:=_root_.id rfl
theorem qAW(k:Nat)(z:List DV):xOp c lin T d L ⟨dst,.alloc k z,g,af⟩ s=if qbQ s.B (L+k)/\z.all DV.isCell then some (qbk T ⟨s.r,s.B.set (L+k) (some (z.map fun z=> .d z.cn1))⟩ dst (.ptr (L+k) 0))else none:=_root_.id rfl
theorem qw6(z:List DV):xOp c lin T d L ⟨dst,.allocE z,g,af⟩ s=if d=false/\z.all DV.isCell then some (qbk T ⟨s.r,s.B++[some (z.map fun z=>AV.d z.cn1)]⟩ dst (.ptr s.B.length 0))else none:=_root_.id rfl
theorem qDC(x a b:VX):xOp c lin T d L ⟨dst,.pick x a b,g,af⟩ s=qDX T dst s a b (qbF s.r x):=_root_.id rfl
theorem qw5(sz bytes:Nat)(x y:VX):xOp c lin T d L ⟨dst,.append sz bytes x y,g,af⟩ s=qJO T dst sz bytes x y s (qbF s.r x) (qbF s.r y):=_root_.id rfl
theorem qHz(k:Nat)(x:VX):xOp c lin T d L ⟨dst,.box k x,g,af⟩ s=qJN T L dst k x s (qbF s.r x):=_root_.id rfl
theorem qDG(agg:Bool)(sz:Nat)(a:VX):xOp c lin T d L ⟨dst,.load agg sz a,g,af⟩ s=qxI T d L dst agg sz a s (qbF s.r a):=_root_.id rfl
theorem qw2(sz:Nat)(a x:VX)(av:List Nat):xOp c lin T d L ⟨dst,.storeN sz a x av,g,af⟩ s=qtp T d L dst sz x av s (qbF s.r a) (qbF s.r x):=_root_.id rfl
theorem qAK(init:Bool)(sz:Nat)(a x:VX):xOp c lin T d L ⟨dst,.store init sz a x,g,af⟩ s=qzo T d L dst init sz x s (qbF s.r a) (qbF s.r x):=_root_.id rfl
theorem qsC(n i:Nat):xOp c lin T d L ⟨dst,.extract (.t n) i,g,af⟩ s=qD1 T dst n i s (lk s.r n):=_root_.id rfl
theorem qn2(k sz bytes:Nat)(z:DV)(x:VX):xOp c lin T d L ⟨dst,.makeSlice k sz bytes z x,g,af⟩ s=xMk T d L dst k sz bytes z s (qbF s.r x):=_root_.id rfl
theorem qmj(sz:Nat)(z:DV)(len:Nat)(ps:List (Nat×VX)):xOp c lin T d L ⟨dst,.buildSlice sz z len ps,g,af⟩ s=if z.cells.length=sz/\z.cells.all DV.isCell/\len*sz<=16777216/\len<=16777216 then qJL T dst (qdq T dst s (ps.map fun q=>q.2)) (qaC (qbF s.r) sz (List.replicate len z.cn) ps)else none:=_root_.id rfl
theorem qHw(f:VX)(args:List VX):xOp c lin T d L ⟨dst,.call true f args,g,af⟩ s=qGL c T dst s (qbF s.r f) (qdY s.r args):=by
 simp only[xOp,qGL,if_true]<;>rfl
theorem qAM(f:VX)(args:List VX):xOp c lin T d L ⟨dst,.call false f args,g,af⟩ s=xN c lin T dst s args (qbF s.r f) (qdY s.r args):=by
 simp only[xOp,xN,xN2,Bool.false_eq_true,if_false]<;>rfl
theorem qAT(th:Bool)(f:VX)(args:List VX):xOp c lin T d L ⟨dst,.callT th f args,g,af⟩ s=xT c T d dst th s (qbF s.r f) (qdY s.r args):=by
 simp only[xOp,xT,xT1];cases h1:qbF s.r f with
 |none=>rfl
 |some a=>
  cases a with
  |fn k caps=>
   cases caps with
   |nil=>
    cases h2:qdY s.r args with
    |none=>rfl
    |some vs=>
     simp only;split
     ·cases qdw (AV.frz s.B) vs with
      |none=>rfl
      |some ds=>
       show(match c k (qbN [] 0 (ds.map .d)) []with|some (.d v,_)=>qd1 T th s dst v|_=>none)=xT2 T dst th s (c k (qbN [] 0 (ds.map .d)) []);generalize c k (qbN [] 0 (ds.map .d)) []=q;cases q with
       |none=>rfl
       |some q=>obtain⟨v,B⟩:=q;cases v<;>rfl
     ·rfl
   |cons _ _=>cases qdY s.r args<;>rfl
  |_=>cases qdY s.r args<;>rfl
theorem qsF(sz bytes:Nat)(x y ix v:VX)(t9:Nat):xOp c lin T d L ⟨dst,.append1 sz bytes x y ix v t9,g,af⟩ s=qJP T d dst sz bytes x v t9 s (qbF s.r x) (qbF s.r y) (qbF s.r ix) (qbF s.r v):=_root_.id rfl
theorem qHT(sz bytes:Nat)(x v:VX)(t9:Nat)(gg gy:Tag)(xs:List DV)(z w:DV)(k:IntKind)(n:Int):qJP T d dst sz bytes x v t9 s (some (.d (.sl gg xs))) (some (.d (.sl gy [z]))) (some (.d (.int k n))) (some (.d w))=
 if d=false/\n=xs.length/\z.cells.length=sz/\z.cells.all DV.isCell=true/\w.cells.length=sz/\w.cells.all DV.isCell=true/\lk s.r t9=none then
  (qbG sz bytes (.sl gg xs) (.sl .sub [w])).map fun u=>qbk T ⟨qbu T s.r (if qbV T dst then [x,v]else [x]),s.B⟩ dst (.d u)
 else none:=_root_.id rfl
theorem qAU(cc:Nat)(f:VX)(args:List VX):xOp c lin T d L ⟨dst,.callS cc f args,g,af⟩ s=xCS c T dst s (qbF s.r f) (qdY s.r args) (lk s.r cc):=_root_.id rfl
theorem qAN(agg:Bool)(sz:Nat)(a:VX)(cc:Nat):xOp c lin T d L ⟨dst,.loadS agg sz a cc,g,af⟩ s=qzp T d L dst agg sz s (qbF s.r a) (lk s.r cc):=_root_.id rfl
theorem qKC(k b off o':Nat)(vs:List AV):xCS c T dst s (some (.fn k [])) (some (.ptr b off::vs)) (some (.ptr b o'))=(qay vs).bind fun _=>(qa1 s.B b).bind fun cs=>(qay cs).bind fun _=>qHK T dst s b (c k (.ptr 0 off::qbN [] 0 vs) [some (AV.clrs cs)]):=by simp only[xCS,ne_eq,not_true_eq_false,if_false]
theorem qHU(r:List (Nat×AV))(B:qak)(b:Nat)(v:DV)(cs:List AV):qHK T dst ⟨r,B⟩ b (some (.d v,[some cs]))=(qay cs).map fun _=>qbk T ⟨r,B.set b (some (AV.clrs cs))⟩ dst (.d v):=_root_.id rfl
theorem qBl(agg:Bool)(sz b off b' o':Nat):qzp T d L dst agg sz s (some (.ptr b off)) (some (.ptr b' o'))=if b=b'\/(d/\L<=b)then none else qiB T (if qbV T dst then⟨s.r,qcc s.B b off (if agg then sz else 1)⟩else s) dst (qae s.B agg sz b off):=_root_.id rfl
theorem w_T(k:Nat)(th:Bool)(vs:List AV):xT c T false dst th s (some (.fn k [])) (some vs)=xT1 c T dst th s k (qdw (AV.frz s.B) vs):=by simp only[xT,true_or,if_true]
theorem qKz(k:Nat)(vs:List AV):xT c T true dst false s (some (.fn k [])) (some vs)=xT1 c T dst false s k (qdw (AV.frz s.B) vs):=by simp only[xT,or_true,if_true]
theorem qKB(k:Nat)(th:Bool)(ds:List DV):xT1 c T dst th s k (some ds)=xT2 T dst th s (c k (qbN [] 0 (ds.map .d)) []):=_root_.id rfl
theorem qKA(th:Bool)(v:DV)(B:qak):xT2 T dst th s (some (.d v,B))=qd1 T th s dst v:=_root_.id rfl
theorem qEb(v:DV):qd1 T false s dst v=if v.allUT then some (qbk T s dst (.d v))else none:=by simp[qd1]
theorem qEa(r:List (Nat×AV))(B:qak)(v:DV):qd1 T true ⟨r,B⟩ dst v=if v.allUT then some (qbk T ⟨r,B++(v.clr.thaw B.length).2⟩ dst (v.clr.thaw B.length).1)else none:=by simp[qd1]
theorem qD6(a b:VX)(v:Bool):qDX T dst s a b (some (.d (.bool v)))=if v then qiB T (qdq T dst s [a]) dst (qbF s.r a)else qiB T (qdq T dst s [b]) dst (qbF s.r b):=by cases v<;>rfl
theorem qHS(sz bytes:Nat)(x y:VX)(v w:DV):qJO T dst sz bytes x y s (some (.d v)) (some (.d w))=qxb T ⟨qbu T s.r (if qbV T dst then [x,y]else [x]),s.B⟩ dst (qbG sz bytes v w):=_root_.id rfl
theorem qHR(k:Nat)(x:VX)(v:AV):qJN T L dst k x s (some v)=if qbQ s.B (L+k)/\v.cells.all AV.isCell/\v.safe (L+k)then some (qbk T ⟨qd0 T s.r x,s.B.set (L+k) (some v.cells)⟩ dst (.ptr (L+k) 0))else none:=_root_.id rfl
theorem qts(agg:Bool)(sz:Nat)(x:VX)(cs:List DV):qxI T d L dst agg sz x s (some (.ep cs))=if qbV T dst then qiB T (qdq T dst s [x]) dst ((cut agg sz cs).map .d)else qdH T s dst ((cut agg sz cs).map .d):=by
 simp only[qxI,qdH,qiB,Option.map_map];cases hl:qbV T dst with
 |true=>rfl
 |false=>
  simp only[Bool.false_eq_true,if_false];cases cut agg sz cs with
  |none=>rfl
  |some v=>
   simp only[Option.map_some,Function.comp,qdq,hl,Bool.false_eq_true,if_false];cases dst with
   |none=>rfl
   |some n=>
    simp only[qbV]at hl;simp only[qbk,hl,Bool.false_eq_true,if_false,AV.clr,DV.qfN]
theorem qKw(sz n:Nat)(g:Tag)(xs:List DV)(kd:IntKind)(k:Int):xTk T dst sz n s (some (.d (.sl g xs))) (some (.d (.int kd k)))=if 0<=k then qHJ T dst sz n g xs k.toNat s (xs[k.toNat]?)else none:=_root_.id rfl
theorem qHN(sz n:Nat)(g:Tag)(xs:List DV)(k:Nat)(e:DV):qHJ T dst sz n g xs k s (some e)=if e.cells.length=sz/\sz≠0 then some (qbk T (if T.contains n then⟨(n,.d (.sl g (xs.set k e.clr)))::s.r,s.B⟩else s) dst (.ep e.cells))else none:=_root_.id rfl
theorem qD7(agg:Bool)(sz b off:Nat)(x:VX):qxI T d L dst agg sz x s (some (.ptr b off))=if d/\L<=b then none else qiB T (if qbV T dst then⟨s.r,qcc s.B b off (if agg then sz else 1)⟩else s) dst (qae s.B agg sz b off):=_root_.id rfl
theorem qxJ(sz:Nat)(x:VX)(av:List Nat)(b off:Nat)(v:AV):qtp T d L dst sz x av s (some (.ptr b off)) (some v)=if qbw d false L b|| !qcC s.r b av then none else qA2 T ⟨qd0 T s.r x,s.B⟩ dst (qbo s.B sz b off v):=_root_.id rfl
theorem qBk(init:Bool)(sz:Nat)(x:VX)(b off:Nat)(v:AV):qzo T d L dst init sz x s (some (.ptr b off)) (some v)=if qbw d init L b then none else qA2 T ⟨qd0 T s.r x,s.B⟩ dst (qbo s.B sz b off v):=_root_.id rfl
theorem qD4(r:List (Nat×AV))(B B':qak):qA2 T ⟨r,B⟩ dst (some B')=some (qbk T ⟨r,B'⟩ dst .und):=_root_.id rfl
theorem qHQ(n i:Nat)(vs:List DV):qD1 T dst n i s (some (.d (.tup vs)))=qxb T (if qbV T dst&&T.contains n then⟨(n,.d (.tup (vs.set i ((vs[i]?).getD (.bool false)).clr)))::s.r,s.B⟩else s) dst (vs[i]?):=by
 simp only[qD1,qxb];cases hv:vs[i]? with
 |none=>rfl
 |some v=>simp
theorem qD9(n i:Nat)(vs:List AV):qD1 T dst n i s (some (.ag true vs))=qdH T s dst (vs[i]?):=by
 simp only[qD1,qdH]
theorem qKy(k sz bytes:Nat)(z:DV)(kk:IntKind)(n:Int):xMk T d L dst k sz bytes z s (some (.d (.int kk n)))=if d=false/\qbQ s.B (L+k)/\0<=n/\n.toNat*bytes<=140737488355328/\n<9223372036854775808/\z.cells.length=sz/\z.cells.all DV.isCell then
 some (qbk T ⟨s.r,s.B.set (L+k) (some (((List.replicate n.toNat z.cn).flatMap DV.cells).map .d))⟩ dst (.bsl [] (isAgg z) (L+k) sz n.toNat))else none:=_root_.id rfl
theorem qHO(xs:List DV):qJL T dst s (some xs)=some (qbk T s dst (.d (.sl U xs))):=_root_.id rfl
theorem qHP(k:Nat)(vs:List AV):qGL c T dst s (some (.fn k [])) (some vs)=qBe T dst s (qay vs) (c k (qbN [] 0 vs) []):=by
 simp only[qGL,qBe];cases qay vs<;>rfl
theorem qD8(ds:List DV)(v:DV)(B:qak):qBe T dst s (some ds) (some (.d v,B))=some (qbk T s dst (.d v)):=_root_.id rfl
theorem w_n(args:List VX)(k:Nat)(caps vs:List AV):xN c lin T dst s args (some (.fn k caps)) (some vs)=xN2 T dst s (qa2 (lin k) 0 args) (qan T (qa2 (lin k) 0 args)) (c k (qbN (lin k) 0 vs++caps) s.B):=_root_.id rfl
theorem qKx(xs:List VX)(r:List (Nat×AV))(B0:qak)(v:AV)(B:qak):xN2 T dst ⟨r,B0⟩ xs true (some (v,B))=some (qbk T ⟨qbu T r xs,B⟩ dst v):=_root_.id rfl
theorem qD5(v:DV):qxb T s dst (some v)=some (qbk T s dst (.d v)):=_root_.id rfl
end
theorem qkf(r:List (Nat×AV))(x:VX):evP r (.nilCheck x)=qGP (x.get r):=_root_.id rfl
theorem qJd(r:List (Nat×AV))(op:BinOp)(x y:VX):evP r (.bin op x y)=qKl op (x.get r) (y.get r):=_root_.id rfl
theorem qCJ(r:List (Nat×AV))(neg:Bool)(ks:List Nat)(x y:VX):evP r (.eqAgg neg ks x y)=qv4 neg ks (x.get r) (y.get r):=_root_.id rfl
theorem qJc(r:List (Nat×AV))(neg:Bool)(x y:VX):evP r (.eqB neg x y)=qKk neg (x.get r) (y.get r):=_root_.id rfl
theorem qI9(r:List (Nat×AV))(x:VX):evP r (.not x)=qKj (x.get r):=_root_.id rfl
theorem qGl(r:List (Nat×AV))(k:IntKind)(x:VX):evP r (.conv (.kind k) x)=qGn k (x.get r):=_root_.id rfl
theorem qGk(r:List (Nat×AV))(x:VX):evP r (.conv .rune x)=qGm (x.get r):=_root_.id rfl
theorem qCK(r:List (Nat×AV))(x:VX):evP r (.conv .bytes x)=qAw (x.get r):=_root_.id rfl
theorem qCI(r:List (Nat×AV))(x y:VX):evP r (.index x y)=qAv (x.get r) (y.get r):=_root_.id rfl
theorem qoY(r:List (Nat×AV))(sz:Nat)(x y:VX):evP r (.indexAddr sz none x y)=qv6 sz (x.get r) (y.get r):=_root_.id rfl
theorem qrU(r:List (Nat×AV))(sz m:Nat)(x y:VX):evP r (.indexAddr sz (some m) x y)=qJg sz m (x.get r) (y.get r):=_root_.id rfl
theorem qoZ(r:List (Nat×AV))(off:Nat)(x:VX):evP r (.fieldAddr off x)=qv3 off (x.get r):=_root_.id rfl
theorem qrT(r:List (Nat×AV))(f:Nat)(cs:List VX):evP r (.makeFunc f cs)=(qeS r cs).map fun vs=> .fn f vs:=_root_.id rfl
theorem qJb(r:List (Nat×AV))(str:Bool)(x:VX):evP r (.len str x)=qDt str (x.get r):=by
 cases str<;>simp only[evP,qDt]<;>(cases h:x.get r with
  |none=>rfl
  |some v=>cases v with
   |d w=>cases w<;>rfl
   |_=>rfl)
theorem qJa(r:List (Nat×AV))(x y:VX):evP r (.max x y)=qJf (x.get r) (y.get r):=_root_.id rfl
theorem qCH(r:List (Nat×AV))(str:Bool)(sz:Nat)(x:VX)(lo hi:Option VX):evP r (.slice str sz x lo hi)=qqp str sz (x.get r) (qgu r lo) (qgu r hi):=by
 cases str<;>simp only[evP,qqp]<;>(cases h:x.get r with
  |none=>rfl
  |some v=>cases v with
   |d w=>cases w<;>cases qgu r lo<;>cases qgu r hi<;>rfl
   |_=>rfl)
theorem qF7(i o:Nat):qGP (some (.ptr i o))=some (.ptr i o):=_root_.id rfl
theorem qF6(cs:List DV):qGP (some (.ep cs))=some (.ep cs):=_root_.id rfl
theorem qF5(f:Nat)(c:List AV):qGP (some (.fn f c))=some (.fn f c):=_root_.id rfl
theorem qI7(op:BinOp)(a b:DV):qKl op (some (.d a)) (some (.d b))=dO (qe1 op a b):=_root_.id rfl
theorem qKM(a:DV):dO (some a)=some (.d a):=_root_.id rfl
theorem qCA(neg:Bool)(ks:List Nat)(a b:List DV):qv4 neg ks (some (.d (.agg a))) (some (.d (.agg b)))=(qbl ks a b).map fun e=> .d (.bool (if neg then !e else e)):=_root_.id rfl
theorem qI6(neg:Bool)(a b:Bool):qKk neg (some (.d (.bool a))) (some (.d (.bool b)))=some (.d (.bool (if neg then !(a==b)else(a==b)))):=_root_.id rfl
theorem qI3(b:Bool):qKj (some (.d (.bool b)))=some (.d (.bool !b)):=_root_.id rfl
theorem qGc(k k':IntKind)(n:Int):qGn k (some (.d (.int k' n)))=some (.d (.int k (k.wrap n))):=_root_.id rfl
theorem qF4(k':IntKind)(n:Int):qGm (some (.d (.int k' n)))=some (.d (.str (Utf8.encode n))):=_root_.id rfl
theorem qCC(g:Tag)(xs:List DV):qAw (some (.d (.sl g xs)))=(bytesOf xs).map fun bs=> .d (.str ⟨bs.toArray⟩):=_root_.id rfl
theorem qCy(s:ByteArray)(k:IntKind)(n:Int):qAv (some (.d (.str s))) (some (.d (.int k n)))=if 0<=n then(qjU s n.toNat).map fun b=> .d (.int .u8 b)else none:=_root_.id rfl
theorem qGe(sz:Nat)(g:Tag)(xs:List DV)(k:IntKind)(n:Int):qv6 sz (some (.d (.sl g xs))) (some (.d (.int k n)))=if 0<=n then qCL sz (xs[n.toNat]?)else none:=by
 simp only[qv6,qCL]
theorem qGb(sz:Nat)(e:DV):qCL sz (some e)=if e.cells.length=sz/\sz≠0 then some (.ep e.cells)else none:=_root_.id rfl
theorem qCE(sz:Nat)(id:Id)(a:Bool)(b s' m:Nat)(k:IntKind)(n:Int):qv6 sz (some (.bsl id a b s' m)) (some (.d (.int k n)))=if s'=sz/\0<=n/\n<m then some (.ptr b (n.toNat*sz))else none:=_root_.id rfl
theorem qCD(sz:Nat)(a:Bool)(b s' m:Nat)(k:IntKind)(n:Int):qv6 sz (some (.tsl a b s' m)) (some (.d (.int k n)))=if s'=sz/\0<=n/\n<m then some (.ptr b (n.toNat*sz))else none:=_root_.id rfl
theorem qI8(sz m b o:Nat)(k:IntKind)(n:Int):qJg sz m (some (.ptr b o)) (some (.d (.int k n)))=if 0<=n/\n<m then some (.ptr b (o+n.toNat*sz))else none:=_root_.id rfl
theorem qGd(sz m:Nat)(cs:List DV)(k:IntKind)(n:Int):qJg sz m (some (.ep cs)) (some (.d (.int k n)))=if 0<=n/\n<m/\n.toNat*sz<=cs.length then some (.ep (cs.drop (n.toNat*sz)))else none:=_root_.id rfl
theorem qCz(off b o:Nat):qv3 off (some (.ptr b o))=some (.ptr b (o+off)):=_root_.id rfl
theorem qyR(off:Nat)(cs:List DV):qv3 off (some (.ep cs))=if off<=cs.length then some (.ep (cs.drop off))else none:=_root_.id rfl
theorem qI5(s:ByteArray):qDt true (some (.d (.str s)))=some (.d (.int .i64 s.size)):=_root_.id rfl
theorem qF9(g:Tag)(xs:List DV):qDt false (some (.d (.sl g xs)))=some (.d (.int .i64 xs.length)):=_root_.id rfl
theorem qF8(a:Bool)(i s n:Nat):qDt false (some (.tsl a i s n))=some (.d (.int .i64 n)):=_root_.id rfl
theorem qwb(a:Bool)(i s n:Nat)(r:List AV):qay (.tsl a i s n::r)=none:=_root_.id rfl
theorem qrY(v:DV):qCQ v none=none:=_root_.id rfl
theorem qsq(cs:List AV):qjX cs none=if cs.all AV.plainT then some (.ag false cs)else none:=_root_.id rfl
theorem qry(k:IntKind)(n:Int):(AV.d (.int k n)).plainT=true:=_root_.id rfl
theorem qoI(b:Bool):(AV.d (.bool b)).plainT=true:=_root_.id rfl
theorem qrw(b:ByteArray):(AV.d (.str b)).plainT=true:=_root_.id rfl
theorem qrx(g:Tag):(AV.d (.sl g [])).plainT=true:=_root_.id rfl
theorem qrv(a:Bool)(i s n:Nat):(AV.tsl a i s n).plainT=true:=_root_.id rfl
theorem qqv(a:Bool)(i s n:Nat):(AV.tsl a i s n).clr= .tsl a i s n:=by simp only[AV.clr]
theorem qC0(t:Bool)(cs:List AV):(AV.ag t cs).clr= .ag t (AV.clrs cs):=by simp only[AV.clr]
theorem qsp(cs:List AV)(ds:List DV):qjX cs (some ds)=some (.d (.agg ds)):=_root_.id rfl
theorem qyK(f:AV->Option DV):qdw f []=some []:=_root_.id rfl
theorem qvH(f:AV->Option DV)(v:AV)(r:List AV):qdw f (v::r)=qKh (f v) (qdw f r):=_root_.id rfl
theorem qvG(d:DV)(ds:List DV):qKh (some d) (some ds)=some (d::ds):=_root_.id rfl
theorem qIZ(B:qak)(v:DV):AV.frz B (.d v)=some v:=by
 unfold AV.frz;cases B.length<;>simp only[AV.frzC]
theorem qGa(id:Id)(a:Bool)(i s n:Nat):qDt false (some (.bsl id a i s n))=some (.d (.int .i64 n)):=_root_.id rfl
theorem qI4(k:IntKind)(a b:Int):qJf (some (.d (.int k a))) (some (.d (.int k b)))=some (.d (.int k (if b>a then b else a))):=by simp[qJf]
theorem qyQ(sz:Nat)(s:ByteArray)(lo hi:Option AV):qqp true sz (some (.d (.str s))) (some lo) (some hi)=(qbJ s.size hi).bind fun h=>(qbI h lo).map fun l=> .d (.str (s.extract l h)):=_root_.id rfl
theorem qCx(sz:Nat)(g:Tag)(xs:List DV)(lo hi:Option AV):qqp false sz (some (.d (.sl g xs))) (some lo) (some hi)=if xs.all (fun e=>e.cells.length=sz)then(qbJ xs.length hi).bind fun h=>(qbI h lo).map fun l=> .d (.sl (if g= .nil then .nil else .sub) ((xs.take h).drop l))else none:=_root_.id rfl
theorem qvA(r:List (Nat×AV)):qgu r none=some none:=_root_.id rfl
theorem qvz(r:List (Nat×AV))(x:VX):qgu r (some x)=(x.get r).map some:=_root_.id rfl
theorem qCr(n:Nat):qbJ n none=some n:=_root_.id rfl
theorem qCd(n:Nat):qbI n none=some 0:=_root_.id rfl
theorem qFT(n:Nat)(k:IntKind)(h:Int):qbJ n (some (.d (.int k h)))=if 0<=h/\h.toNat<=n then some h.toNat else none:=_root_.id rfl
theorem qFG(n:Nat)(k:IntKind)(h:Int):qbI n (some (.d (.int k h)))=if 0<=h/\h.toNat<=n then some h.toNat else none:=_root_.id rfl
theorem qyJ(r:List (Nat×AV)):qeS r []=some []:=_root_.id rfl
theorem qvu(r:List (Nat×AV))(x:VX)(xs:List VX):qeS r (x::xs)=qwn (x.get r) (qeS r xs):=by simp only[qeS,qwn];cases x.get r<;>cases qeS r xs<;>rfl
theorem qrW(v:AV)(vs:List AV):qwn (some v) (some vs)=some (v::vs):=_root_.id rfl
theorem qDQ(r:List (Nat×AV))(n:Nat):qbF r (.t n)=lk r n:=_root_.id rfl
theorem qDR(r:List (Nat×AV))(v:DV):qbF r (.c (.d v))=some (.d v.cn):=_root_.id rfl
theorem qA3(r:List (Nat×AV))(f:Nat):qbF r (.c (.fn f []))=some (.fn f []):=by simp[qbF,AV.clr,AV.clrs]
theorem qsR(r:List (Nat×AV)):qbF r (.c .nilp)=some .nilp:=by simp[qbF,AV.clr]
theorem qqR(T:List Nat)(r:List (Nat×AV)):qbu T r []=r:=_root_.id rfl
theorem qn9(T:List Nat)(r:List (Nat×AV))(x:VX)(xs:List VX):qbu T r (x::xs)=qbu T (qd0 T r x) xs:=_root_.id rfl
theorem qA4(T:List Nat)(r:List (Nat×AV))(v:AV):qd0 T r (.c v)=r:=_root_.id rfl
theorem qsS(T:List Nat)(r:List (Nat×AV))(n:Nat)(h:T.contains n=false):qd0 T r (.t n)=r:=by simp only[qd0,h];simp
theorem qsT(T:List Nat)(r:List (Nat×AV))(n:Nat)(h:T.contains n=true)(v:AV)(hv:lk r n=some v):qd0 T r (.t n)=(n,v.clr)::r:=by simp only[qd0,h,hv];simp
theorem qrK(T:List Nat):qbV T none=false:=_root_.id rfl
theorem qrJ(T:List Nat)(d:Nat):qbV T (some d)=T.contains d:=_root_.id rfl
theorem qGx(k:IntKind)(n:Int):(DV.int k n).cn= .int k n:=by simp[DV.cn,DV.cn1,DV.clr]
theorem qCS(b:Bool):(DV.bool b).cn= .bool b:=by simp[DV.cn,DV.cn1,DV.clr]
theorem qGv(s:ByteArray):(DV.str s).cn= .str s:=by simp[DV.cn,DV.cn1,DV.clr]
theorem qGw:(DV.sl .nil []).cn= .sl U []:=by simp[DV.cn,DV.cn1]
theorem qGy(cs:List DV):(DV.agg cs).cn= .agg (cs.map DV.cn1):=_root_.id rfl
theorem qCV(k:IntKind)(n:Int):(DV.int k n).cn1= .int k n:=by simp[DV.cn1,DV.clr]
theorem qyZ(b:Bool):(DV.bool b).cn1= .bool b:=by simp[DV.cn1,DV.clr]
theorem qCT(s:ByteArray):(DV.str s).cn1= .str s:=by simp[DV.cn1,DV.clr]
theorem qCU:(DV.sl .nil []).cn1= .sl U []:=by simp[DV.cn1]
theorem qo6(k:IntKind)(n:Int):(DV.int k n).clr= .int k n:=by simp[DV.clr]
theorem qy2(b:Bool):(DV.bool b).clr= .bool b:=by simp[DV.clr]
theorem qwv(s:ByteArray):(DV.str s).clr= .str s:=by simp[DV.clr]
theorem qAF(g:Tag)(xs:List DV):(DV.sl g xs).clr= .sl .sub (xs.map DV.clr):=by simp[DV.clr,DV.qaq]
theorem qCX(xs:List DV):(DV.agg xs).clr= .agg (xs.map DV.clr):=by simp[DV.clr,DV.qaq]
theorem qCW(xs:List DV):(DV.tup xs).clr= .tup (xs.map DV.clr):=by simp[DV.clr,DV.qaq]
theorem qGB(v:DV):(AV.d v).clr= .d v.clr:=by simp[AV.clr]
theorem qy4(i o:Nat):(AV.ptr i o).clr= .ptr i o:=by simp[AV.clr]
theorem qCZ(cs:List DV):(AV.ep cs).clr= .ep (cs.map DV.clr):=by simp[AV.clr,DV.qaq]
theorem qCY(f:Nat)(cs:List AV):(AV.fn f cs).clr= .fn f (cs.map AV.clr):=by simp[AV.clr,AV.qaq]
theorem qww:AV.nilp.clr= .nilp:=by simp[AV.clr]
theorem qy5(id:Id)(a:Bool)(i sz n:Nat):(AV.bsl id a i sz n).clr= .bsl id a i sz n:=by simp[AV.clr]
theorem qy3:AV.und.clr= .und:=by simp[AV.clr]
theorem qsM(LP:List Nat)(j:Nat):qbN LP j []=[]:=_root_.id rfl
theorem qqO(LP:List Nat)(j:Nat)(v:AV)(r:List AV):qbN LP j (v::r)=(if LP.contains j then v else v.clr)::qbN LP (j+1) r:=_root_.id rfl
theorem qn8(LP:List Nat)(j:Nat):qa2 LP j []=[]:=_root_.id rfl
theorem qhv(j:Nat):∀xs:List VX,qa2 [] j xs=[]
 | []=>rfl
 |x::xs=>by simp[qa2,qhv (j+1) xs]
theorem qmo(LP:List Nat)(j:Nat)(v:VX)(r:List VX):qa2 LP j (v::r)=if LP.contains j then v::qa2 LP (j+1) r else qa2 LP (j+1) r:=_root_.id rfl
theorem qsQ(r:List (Nat×AV)):qdY r []=some []:=_root_.id rfl
theorem qqQ(r:List (Nat×AV))(x:VX)(xs:List VX):qdY r (x::xs)=qwn (qbF r x) (qdY r xs):=by simp only[qdY,qwn];cases qbF r x<;>cases qdY r xs<;>rfl
theorem qwd:qay []=some []:=_root_.id rfl
theorem qrV(v:DV)(r:List AV):qay (.d v::r)=qCQ v (qay r):=_root_.id rfl
theorem qrX(v:DV)(r:List DV):qCQ v (some r)=some (v::r):=_root_.id rfl
theorem qCh(T:List Nat):qan T []=true:=_root_.id rfl
theorem qkh(g:VX->Option AV)(cs:List DV):qaF g cs []=some cs:=_root_.id rfl
theorem qjV(g:VX->Option AV)(cs:List DV)(off size:Nat)(x:VX)(r:List (Nat×Nat×VX)):qaF g cs ((off,size,x)::r)=qv5 g cs off size r (g x):=by
 simp only[qaF,qv5]<;>rfl
theorem qCB(g:VX->Option AV)(cs:List DV)(off size:Nat)(r:List (Nat×Nat×VX))(v:DV):qv5 g cs off size r (some (.d v))=if v.cells.length=size/\off+size<=cs.length/\v.cells.all DV.isCell then qaF g (splice cs off v.cells) r else none:=_root_.id rfl
theorem qnI(g:VX->Option AV)(sz:Nat)(cs:List DV):qaC g sz cs []=some cs:=_root_.id rfl
theorem qma(g:VX->Option AV)(sz:Nat)(cs:List DV)(i:Nat)(x:VX)(r:List (Nat×VX)):qaC g sz cs ((i,x)::r)=qJe g sz cs i r (g x):=by
 simp only[qaC,qJe]<;>rfl
theorem qI2(g:VX->Option AV)(sz:Nat)(cs:List DV)(i:Nat)(r:List (Nat×VX))(v:DV):qJe g sz cs i r (some (.d v))=if v.cells.length=sz/\i<cs.length/\v.cells.all DV.isCell then qaC g sz (cs.set i v) r else none:=_root_.id rfl
def xFr(t:Nat)(live:List Nat)(s:XS)(v:Option AV):Option XS:=
 match v with
 |some (.d (.sl (.own [] 0) (x::xs)))=>
  if live.contains t=false/\qbZ ((x::xs).flatMap DV.cells) (keep s.r live)=true/\qaW ((x::xs).flatMap DV.cells) s.B=true/\DV.xrests ((x::xs).flatMap DV.cells) ((x::xs).flatMap DV.cells)=true then
   some ⟨(t,.tsl (qa8 x) s.B.length x.cells.length (xs.length+1))::keep s.r live,s.B++[some (((x::xs).flatMap DV.cells).map .d)]⟩
  else none
 |_=>none
theorem qFZ(t:Nat)(live:List Nat)(s:XS):qn0 (.focR t live) s=xFr t live s (lk s.r t):=_root_.id rfl
theorem qCv(t:Nat)(live:List Nat)(r:List (Nat×AV))(B:qak)(x:DV)(xs:List DV):xFr t live ⟨r,B⟩ (some (.d (.sl U (x::xs))))=
 if live.contains t=false/\qbZ ((x::xs).flatMap DV.cells) (keep r live)=true/\qaW ((x::xs).flatMap DV.cells) B=true/\DV.xrests ((x::xs).flatMap DV.cells) ((x::xs).flatMap DV.cells)=true then
  some ⟨(t,.tsl (qa8 x) B.length x.cells.length (xs.length+1))::keep r live,B++[some (((x::xs).flatMap DV.cells).map .d)]⟩
 else none:=_root_.id rfl
def xFc(off:Nat)(live:List Nat)(s:XS)(j o:Nat)(cs:List AV)(v:Option AV):Option XS:=
 match v with
 |some (.d (.sl (.own [] 0) (x::xs)))=>
  if qbQ s.B j=true/\qbZ ((x::xs).flatMap DV.cells) (keep s.r live)=true/\
   qaW ((x::xs).flatMap DV.cells) (s.B.set (j+1) (some (cs.set (o+off) (.tsl (qa8 x) j x.cells.length (xs.length+1)))))=true/\DV.xrests ((x::xs).flatMap DV.cells) ((x::xs).flatMap DV.cells)=true then
   some ⟨keep s.r live,(s.B.set (j+1) (some (cs.set (o+off) (.tsl (qa8 x) j x.cells.length (xs.length+1))))).set j (some (((x::xs).flatMap DV.cells).map .d))⟩
  else none
 |_=>none
def qJM(off:Nat)(live:List Nat)(s:XS)(v:Option AV):Option XS:=
 match v with
 |some (.ptr (j+1) o)=>(qa1 s.B (j+1)).bind fun cs=>xFc off live s j o cs (cs[o+off]?)
 |_=>none
theorem qAr(t off:Nat)(live:List Nat)(s:XS):qn0 (.focC t off live) s=qJM off live s (lk s.r t):=_root_.id rfl
theorem qvD(off:Nat)(live:List Nat)(s:XS)(j o:Nat):qJM off live s (some (.ptr (j+1) o))=(qa1 s.B (j+1)).bind fun cs=>xFc off live s j o cs (cs[o+off]?):=_root_.id rfl
theorem qvC(off:Nat)(live:List Nat)(r:List (Nat×AV))(B:qak)(j o:Nat)(cs:List AV)(x:DV)(xs:List DV):xFc off live ⟨r,B⟩ j o cs (some (.d (.sl U (x::xs))))=
 if qbQ B j=true/\qbZ ((x::xs).flatMap DV.cells) (keep r live)=true/\
  qaW ((x::xs).flatMap DV.cells) (B.set (j+1) (some (cs.set (o+off) (.tsl (qa8 x) j x.cells.length (xs.length+1)))))=true/\DV.xrests ((x::xs).flatMap DV.cells) ((x::xs).flatMap DV.cells)=true then
  some ⟨keep r live,(B.set (j+1) (some (cs.set (o+off) (.tsl (qa8 x) j x.cells.length (xs.length+1))))).set j (some (((x::xs).flatMap DV.cells).map .d))⟩
 else none:=_root_.id rfl
def xFz(t L:Nat)(live:List Nat)(s:XS)(v:Option AV):Option XS:=
 match v with
 |some v=>if live.contains t=false/\qac L (keep s.r live)=true/\L<=s.B.length then(v.frz (qci L s.B)).map fun d=>⟨(t,.d d.clr)::keep s.r live,s.B.take L⟩else none
 |none=>none
theorem qFY(t L:Nat)(live:List Nat)(s:XS):qn0 (.frzR t L live) s=xFz t L live s (lk s.r t):=_root_.id rfl
theorem qCu(t L:Nat)(live:List Nat)(r:List (Nat×AV))(B:qak)(v:AV):xFz t L live ⟨r,B⟩ (some v)=if live.contains t=false/\qac L (keep r live)=true/\L<=B.length then(v.frz (qci L B)).map fun d=>⟨(t,.d d.clr)::keep r live,B.take L⟩else none:=_root_.id rfl
def xFb(t L:Nat)(live:List Nat)(s:XS)(v:Option AV):Option XS:=
 match v with
 |some (.ptr i 0)=>
  if L<=i/\live.contains t=false/\qac L (keep s.r live)=true/\L<=s.B.length then
   (qa1 s.B i).bind fun cs=>(qdw (AV.frzC (qci L s.B) s.B.length) cs).bind fun ds=>
    if ds.all DV.isCell then some ⟨(t,.ptr L 0)::keep s.r live,s.B.take L++[some (ds.map fun d=> .d d.clr)]⟩else none
  else none
 |_=>none
theorem qAq(t L:Nat)(live:List Nat)(s:XS):qn0 (.frzB t L live) s=xFb t L live s (lk s.r t):=_root_.id rfl
theorem qvB(t L:Nat)(live:List Nat)(r:List (Nat×AV))(B:qak)(i:Nat):xFb t L live ⟨r,B⟩ (some (.ptr i 0))=
 if L<=i/\live.contains t=false/\qac L (keep r live)=true/\L<=B.length then
  (qa1 B i).bind fun cs=>(qdw (AV.frzC (qci L B) B.length) cs).bind fun ds=>
   if ds.all DV.isCell then some ⟨(t,.ptr L 0)::keep r live,B.take L++[some (ds.map fun d=> .d d.clr)]⟩else none
 else none:=_root_.id rfl
theorem qk6(rs:List DV):qbZ rs []=true:=_root_.id rfl
theorem qj8(rs:List DV)(t:Nat)(v:AV)(r:List (Nat×AV)):qbZ rs ((t,v)::r)=(v.xrest rs&&qbZ rs r):=_root_.id rfl
theorem qk7(rs:List DV):qaW rs []=true:=_root_.id rfl
theorem qka(rs:List DV)(B:qak):qaW rs (none::B)=qaW rs B:=by simp only[qaW,List.all_cons,Bool.true_and]
def qbs(rs:List DV)(cs:List AV):Bool:=cs.all (AV.xrest rs)
theorem ql9(rs:List DV):qbs rs []=true:=_root_.id rfl
theorem qkg(rs:List DV)(v:AV)(cs:List AV):qbs rs (v::cs)=(v.xrest rs&&qbs rs cs):=_root_.id rfl
theorem qj9(rs:List DV)(cs:List AV)(B:qak):qaW rs (some cs::B)=(qbs rs cs&&qaW rs B):=_root_.id rfl
theorem qzh(rs:List DV)(v:DV):AV.xrest rs (.d v)=v.xrest rs:=_root_.id rfl
theorem qsv(rs:List DV)(i o:Nat):AV.xrest rs (.ptr i o)=true:=_root_.id rfl
theorem qsu(rs:List DV)(a:Bool)(i sz n:Nat):AV.xrest rs (.tsl a i sz n)=true:=_root_.id rfl
theorem qst(rs:List DV):AV.xrest rs .und=true:=_root_.id rfl
theorem qml(rs:List DV)(k:IntKind)(n:Int):DV.xrest rs (.int k n)=true:=by simp only[DV.xrest]
theorem qqN(rs:List DV)(b:Bool):DV.xrest rs (.bool b)=true:=by simp only[DV.xrest]
theorem qsJ(rs:List DV)(s:ByteArray):DV.xrest rs (.str s)=true:=by simp only[DV.xrest]
theorem qmn(rs cs:List DV):DV.xrest rs (.agg cs)=DV.xrests rs cs:=by simp only[DV.xrest]
theorem qsL(rs xs:List DV):DV.xrest rs (.sl U xs)=DV.xrests rs xs:=by simp only[DV.xrest,decide_true,Bool.or_true,Bool.true_and]
theorem qsK(rs:List DV)(g:Tag):DV.xrest rs (.sl g [])=true:=by simp[DV.xrest,DV.xrests]
theorem qgT(rs:List DV):DV.xrests rs []=true:=by simp only[DV.xrests]
theorem qfE(rs:List DV)(v:DV)(r:List DV):DV.xrests rs (v::r)=(v.xrest rs&&DV.xrests rs r):=by simp only[DV.xrests]
attribute [simp] ql9 qkg qFZ qCv qAr qvD qvC qFY qCu qAq qvB qk6 qj8 qk7 qka qj9 qzh qsv qsu qst qml qqN qsJ qmn qsL qsK qgT qfE
theorem qjT:qfw []=[]:=_root_.id rfl
theorem qho(cs:List AV)(B:qak):qfw (some cs::B)=some (AV.clrs cs)::qfw B:=_root_.id rfl
theorem qsa(B:qak):qfw (none::B)=none::qfw B:=_root_.id rfl
theorem qwu:AV.clrs []=[]:=by simp only[AV.clrs]
theorem qr7(v:AV)(r:List AV):AV.clrs (v::r)=v.clr::AV.clrs r:=by simp only[AV.clrs]
attribute [simp] qJK qsF qHT qAU qAN qKC qHU qBl qn4 qjT qho qsa qwu qr7
def xFB(c:qar)(lin:Nat->List Nat)(T:List Nat)(d:Bool)(L:Nat)(fs:List FOper)(o:Option XS):Option XS:=o.bind (xFs c lin T d L fs)
def xFA(c:qar)(lin:Nat->List Nat)(T:List Nat)(d:Bool)(L:Nat)(f:FOper)(fs:List FOper)(o:Option XS):Option XS:=o.bind fun s=>xFB c lin T d L fs (qqU T f s)
def qHH(T:List Nat)(a d3 sz:Nat)(ok:Bool)(s:XS)(v:Option AV)(lo hi:Option (Option AV)):Option XS:=
 match v,lo,hi with
 |some (.d (.sl g xs)),some lo,some hi=>
  if ok=true/\xs.all (fun e=>e.cells.length=sz)then
   (qbJ xs.length hi).bind fun h=>(qbI h lo).map fun l=>qbk T ⟨(a,.d (.sl g (qch xs l h)))::s.r,s.B⟩ (some d3) (.d (.sl .sub ((xs.take h).drop l)))
  else none
 |_,_,_=>none
def qto(T:List Nat)(d4 sz:Nat)(s:XS)(b off:Nat)(cs:List AV)(g:Tag)(xs:List DV)(k:Nat)(e:Option DV):Option XS:=
 match e with
 |some (.agg es)=>if es.length=sz then some (qbk T ⟨s.r,s.B.set b (some (cs.set off (.d (.sl g (xs.set k (DV.agg es).clr)))))⟩ (some d4) (.d (.agg es)))else none
 |_=>none
def qxH(T:List Nat)(d4 sz:Nat)(s:XS)(b off:Nat)(cs:List AV)(k:Nat)(v:Option AV):Option XS:=
 match v with
 |some (.d (.sl g xs))=>qto T d4 sz s b off cs g xs k (xs[k]?)
 |_=>none
def qHI(T:List Nat)(d4 sz:Nat)(ok:Bool)(s:XS)(v w:Option AV):Option XS:=
 match v,w with
 |some (.ptr b off),some (.d (.int _ k))=>if ok=true/\0<=k/\sz≠0 then(qa1 s.B b).bind fun cs=>qxH T d4 sz s b off cs k.toNat (cs[off]?)else none
 |_,_=>none
theorem qKq(c:qar)(lin:Nat->List Nat)(T:List Nat)(d:Bool)(L:Nat)(f:FOper)(fs:List FOper)(s:XS):xFs c lin T d L (f::fs) s=xFA c lin T d L f fs (qcy c lin T d L f.pre s):=_root_.id rfl
theorem qDI(c:qar)(lin:Nat->List Nat)(T:List Nat)(d:Bool)(L:Nat)(s:XS):xFs c lin T d L [] s=some s:=_root_.id rfl
theorem qKs(c:qar)(lin:Nat->List Nat)(T:List Nat)(d:Bool)(L:Nat)(f:FOper)(fs:List FOper)(s:XS):xFA c lin T d L f fs (some s)=xFB c lin T d L fs (qqU T f s):=_root_.id rfl
theorem qKr(c:qar)(lin:Nat->List Nat)(T:List Nat)(d:Bool)(L:Nat)(fs:List FOper)(s:XS):xFB c lin T d L fs (some s)=xFs c lin T d L fs s:=_root_.id rfl
theorem qHn(T:List Nat)(o:VOper)(s:XS):qqU T (.one o) s=some s:=_root_.id rfl
theorem qHm(T:List Nat)(d1 a d2:Nat)(b:VX)(d3 sz:Nat)(lo hi:Option VX)(f1 f2 f3:List Nat)(s:XS):qqU T (.sl d1 a d2 b d3 sz lo hi f1 f2 f3) s=qHH T a d3 sz (decide (T.contains a=true/\T.contains d3=true/\d1≠a/\d2≠a/\d1≠d2)) s (lk s.r a) (qgu s.r lo) (qgu s.r hi):=by
 simp only[qqU,qHH,decide_eq_true_eq];rfl
theorem qHL(T:List Nat)(a d3 sz:Nat)(ok:Bool)(s:XS)(g:Tag)(xs:List DV)(lo hi:Option AV):qHH T a d3 sz ok s (some (.d (.sl g xs))) (some lo) (some hi)=if ok=true/\xs.all (fun e=>e.cells.length=sz)then
 (qbJ xs.length hi).bind fun h=>(qbI h lo).map fun l=>qbk T ⟨(a,.d (.sl g (qch xs l h)))::s.r,s.B⟩ (some d3) (.d (.sl .sub ((xs.take h).drop l)))
 else none:=_root_.id rfl
theorem qHo(T:List Nat)(d1 q d2:Nat)(b:VX)(d3 sz d4:Nat)(f1 f2 f3 f4:List Nat)(s:XS):qqU T (.el d1 q d2 b d3 sz d4 f1 f2 f3 f4) s=qHI T d4 sz (decide (T.contains d4=true/\d1≠q/\d2≠q/\d3≠q/\d1≠d2/\d3≠d2)) s (lk s.r q) (lk s.r d2):=by
 simp only[qqU,qHI,qxH,qto,decide_eq_true_eq];rfl
theorem qHM(T:List Nat)(d4 sz:Nat)(ok:Bool)(s:XS)(b off:Nat)(kd:IntKind)(k:Int):qHI T d4 sz ok s (some (.ptr b off)) (some (.d (.int kd k)))=if ok=true/\0<=k/\sz≠0 then(qa1 s.B b).bind fun cs=>qxH T d4 sz s b off cs k.toNat (cs[off]?)else none:=_root_.id rfl
theorem qD3(T:List Nat)(d4 sz:Nat)(s:XS)(b off:Nat)(cs:List AV)(k:Nat)(g:Tag)(xs:List DV):qxH T d4 sz s b off cs k (some (.d (.sl g xs)))=qto T d4 sz s b off cs g xs k (xs[k]?):=_root_.id rfl
theorem qD2(T:List Nat)(d4 sz:Nat)(s:XS)(b off:Nat)(cs:List AV)(g:Tag)(xs:List DV)(k:Nat)(es:List DV):qto T d4 sz s b off cs g xs k (some (.agg es))=if es.length=sz then some (qbk T ⟨s.r,s.B.set b (some (cs.set off (.d (.sl g (xs.set k (DV.agg es).clr)))))⟩ (some d4) (.d (.agg es)))else none:=_root_.id rfl
theorem qsB(X:XEnv)(T:List Nat)(na:Nat)(live:List Nat)(fs:List FOper)(r:List (Nat×AV))(B:qak):
 qau X T (.regionF false na live fs) ⟨r,B⟩=qd2 live (xFs (qad X) X.lin T false B.length fs ⟨r,B++List.replicate na none⟩):=by
 rw[qgF];simp[qcz,qd2,Function.comp_def]
theorem qAR(X:XEnv)(T:List Nat)(na:Nat)(live:List Nat)(fs:List FOper)(h:qer (qgx fs)=true)(r:List (Nat×AV))(B:qak):
 qau X T (.regionF true na live fs) ⟨r,B⟩=qd2 live (xFs (qad X) X.lin T true B.length fs ⟨r,B++List.replicate na none⟩):=by
 rw[qgF];simp[qcz,qd2,Function.comp_def,h]
attribute [simp] qKq qDI qKs qKr qHn qHm qHL qHo qHM qD3 qD2 qsB FOper.pre
attribute [simp] qdm qwo qr4 qr2 qr3 qHr qHt qDA qAP qDE qw3 qHy qsE qsz qDK qAS qw4 qHp qDD qhw qmt qqS qDF qAV qqI qHA qAQ qHx qHs qDJ qAO qn3 qmi qmh qKw qHN qn5 qAL qqJ qHv qHu qDB qHq qDz qn1 qDH qAW qw5 qHz qDG qw2 qAK qsC qDC qn2 qmj qHw qAM qAT qw6 qsp qwb qrY qsq qry qoI qrw qrx qrv qqv qC0 qD6 qHS qHR qts qD7 qBk qxJ qrM qoX qyO qtj qD4 qHQ qKy qHO qHP qD8 w_n qKx qD5 w_T qKz qKB qKA qEb qEa qD9 qyK qvH qvG qIZ qCD qF8 qkf qJd qCJ qJc qI9 qGl qGk qCK qCI qoY qrU qoZ qrT qJb qJa qCH qF7 qF6 qF5 qI7 qKM qCA qI6 qI3 qGc qF4 qCC qCy qGe qGb qCE qI8 qGd qCz qyR qI5 qF9 qGa qI4 qyQ qCx qvA qvz qCr qCd qFT qFG qyJ qvu qrW qDQ qDR qA3 qsR qqR qn9 qA4 qsS qsT qrK qrJ qGx qCS qGv qGw qGy qCV qyZ qCT qCU qo6 qy2 qwv qAF qCX qCW qGB qy4 qCZ qCY qww qy5 qy3 qsM qqO qn8 qhv qmo qsQ qqQ qwd qrV qrX qCh qkh qjV qCB qnI qma qI2 qcg qdZ qk8 qfF qkm qbo qbQ qa1 qbw qcc qae
theorem qiE(q:Ex×XS)(k:XS->Option (Ex×XS))(h:q.1≠.normal):qmu (some q) k=some q:=by
 obtain⟨e,s'⟩:=q;cases e with
 |normal=>exact absurd rfl h
 |exit id=>rfl
 |ret=>rfl
def qBf{β γ:Type}(L:Nat)(live:List Nat)(st:β->Nat->XS)(R:γ->Ex×XS)(i:Nat)(o:Option (Ex×XS)):β⊕γ->Prop
 | .inl a'=>∃s',o=some (.normal,s')/\qaf L live s'=some (st a' (i+1))
 | .inr r=>(R r).1≠.normal/\o=some (R r)
theorem qnd{X:XEnv}{T:List Nat}{L:Nat}{live:List Nat}{b:VCode}{β γ:Type}{n:Nat}{st:β->Nat->XS}{step:β->Nat->β⊕γ}{F:β->Ex×XS}{R:γ->Ex×XS}(Inv:β->Nat->Prop)
 (hend:∀a,Inv a n->(F a).1≠.normal/\qau X T b (st a n)=some (F a))
 (hstep:∀a i,i<n->Inv a i->qBf L live st R i (qau X T b (st a i)) (step a i)/\∀a',step a i= .inl a'->Inv a' (i+1)):
 ∀(k:Nat) (a:β) (i:Nat) (s:XS),i+k=n->Inv a i->qaf L live s=some (st a i)->qbq X T L live b s=some (match runN step k a i with| .inl a'=>F a'| .inr r=>R r)
 |0,a,i,s,hk,hi,hs=>by
  have:i=n:=by omega
  subst this;obtain⟨h1,h2⟩:=hend a hi;rw[qdt,hs];simp only[Option.bind_some,h2,runN];exact qiE _ _ h1
 |k+1,a,i,s,hk,hi,hs=>by
  obtain⟨h,hinv⟩:=hstep a i (by omega) hi;rw[qdt,hs];simp only[Option.bind_some,runN];generalize step a i=q at h hinv;cases q with
  |inl a'=>
   obtain⟨s',h1,h2⟩:=h;have h3:=qnd Inv hend hstep k a' (i+1) s' (by omega) (hinv a' rfl) h2;rw[h1];exact h3
  |inr r=>
   obtain⟨h1,h2⟩:=h;rw[h2];exact qiE _ _ h1
theorem qaJ{X:XEnv}{T:List Nat}{L:Nat}{live:List Nat}{b:VCode}{β γ:Type}{n:Nat}{st:β->Nat->XS}{step:β->Nat->β⊕γ}{F:β->Ex×XS}{R:γ->Ex×XS}
 (hend:∀a,(F a).1≠.normal/\qau X T b (st a n)=some (F a))
 (hstep:∀a i,i<n->qBf L live st R i (qau X T b (st a i)) (step a i)) (k:Nat) (a:β) (i:Nat) (s:XS) (hk:i+k=n) (hs:qaf L live s=some (st a i)):
 qbq X T L live b s=some (match runN step k a i with| .inl a'=>F a'| .inr r=>R r):=
 qnd (fun _ _=>True) (fun a _=>hend a) (fun a i hi _=>⟨hstep a i hi,fun _ _=>trivial⟩) k a i s hk trivial hs
theorem qbp{X:XEnv}{T:List Nat}{L:Nat}{live:List Nat}{b:VCode}{s s0 s':XS}(h:qaf L live s=some s0)(hb:qau X T b s0=some (.normal,s')):qbq X T L live b s=qbq X T L live b s':=by
 rw[qdt,h];simp only[Option.bind_some,hb];rfl
theorem qaO{X:XEnv}{T:List Nat}{L:Nat}{live:List Nat}{b:VCode}{s s0:XS}{q:Ex×XS}(h:qaf L live s=some s0)(hb:qau X T b s0=some q)(hq:q.1≠.normal):qbq X T L live b s=some q:=by
 rw[qdt,h];simp only[Option.bind_some,hb];exact qiE _ _ hq
end Go.Proofs.Ytfiakfiocdfpbaa.VS
