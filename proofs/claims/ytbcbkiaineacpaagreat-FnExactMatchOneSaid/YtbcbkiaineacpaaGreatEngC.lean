/- The engine, part 5: a call of the program answers what an evaluator of values without memory answers, for the functions whose code is the one that the evaluator is given. -/
import Derived.Test.YtbcbkiaineacpaaGreatEngE
set_option linter.unusedSimpArgs false
set_option linter.unusedVariables false
namespace Go.Proofs.YtbcbkiaineacpaaGreat.VS
open Classical
section
variable {A0:Ids} {T:List Nat} {F:Id->Prop} {p:Id} {sx:XS} {sv:St}
structure Back(F:Id->Prop)(p:Id)(A0:Ids)(v':AV)(B':qam)(r:Res):Prop where
 fit:v'.fit r.v
 boxes:qbS B' r.B
 held:Held F (fun _=>False) r.A (qaj [(0,v')] B' [(0,r.v)] r.B)
 am:∀a,r.A a=true->A0 a=true\/Fut p 0 a
theorem Rel.back{k:Nat}(h:Rel A0 T F p k sx sv){B' Bv':qam}(hb:qbS B' Bv')(hbo:∀j,(qcT B' Bv' j).Sublist (qcT sx.B sv.B j)){v' u:AV}(hf:v'.fit u){A':Ids}
 (hnd:(v'.own u).Nodup) (hin:∀a,a∈v'.own u->A' a=true/\¬F a/\∀j,a∉qcT B' Bv' j) (hA:∀a,sv.A a=true->A' a=true) (ham:∀a,A' a=true->A0 a=true\/Fut p 0 a):
 Back F p A0 v' B' ⟨u,A',Bv'⟩:=by
 refine⟨hf,hb,⟨fun ℓ=> ?_,fun ℓ ℓ' a ha ha'=> ?_,fun ℓ a ha=> ?_,fun a ha=>⟨hA a (h.held.fr a ha).1,id⟩⟩,ham⟩
 ·cases ℓ with
  |reg t=>simp only[qaj,qbs];split
          ·exact hnd
          ·simp
  |box j=>exact(h.held.nodup (.box j)).sublist (hbo j)
 ·cases ℓ with
  |reg t=>
   simp only[qaj,qbs]at ha;split at ha
   ·rename_i ht;subst ht
    cases ℓ' with
    |reg t'=>
     simp only[qaj,qbs]at ha';split at ha'
     ·rename_i ht;subst ht;rfl
     ·simp at ha'
    |box j=>exact absurd ha' ((hin a ha).2.2 j)
   ·simp at ha
  |box j=>
   cases ℓ' with
   |reg t'=>
    simp only[qaj,qbs]at ha';split at ha'
    ·exact absurd ha ((hin a ha').2.2 j)
    ·simp at ha'
   |box j'=>
    have:=h.held.apart (.box j) (.box j') a ((hbo j).subset ha) ((hbo j').subset ha');exact this
 ·cases ℓ with
  |reg t=>
   simp only[qaj,qbs]at ha;split at ha
   ·exact⟨(hin a ha).1,(hin a ha).2.1,id⟩
   ·simp at ha
  |box j=>
   obtain⟨q1,q2,_⟩:=h.held.opn (.box j) a ((hbo j).subset ha);exact⟨hA a q1,q2,id⟩
theorem qa6(B Bv:qam)(n j:Nat):(qcT (B.take n) (Bv.take n) j).Sublist (qcT B Bv j):=by
 simp only[qcT,qga]
 by_cases hj:j<n
 ·simp[hj]
 ·simp[hj]
theorem qMr{k:Nat}(h:Rel A0 T F p k sx sv){r:VRes}{v:AV}(hr:qmf sx r=some v):∃u,qj8 sv r=some u/\v.fit u/\∀a,a∈v.own u->∃t,r= .tmp t/\T.contains t=true/\a∈qcG sx.r sv.r t:=by
 cases r with
 |tmp t=>
  simp only[qmf]at hr;obtain⟨u,h1,h2⟩:=h.regs t v hr;refine⟨u,h1,h2,fun a ha=>⟨t,rfl,?_,?_⟩⟩
  ·cases ht:T.contains t with
   |true=>rfl
   |false=>
    have:=h.nl t ht;unfold qcG at this;rw[hr,h1]at this;simp only at this
    rw[this]at ha;simp at ha
  ·unfold qcG;rw[hr,h1];exact ha
 |cell t agg sz=>
  simp only[qmf]at hr;split at hr
  ·rename_i i off h1
   obtain⟨w,h2,rfl⟩:=ya_.1 hr;obtain⟨u,cs,ds,h3,h4,_⟩:=qfi h.boxes h2;obtain⟨x,h5,h6⟩:=h.regs t _ h1;simp only[AV.fit]at h6;subst h6
   exact⟨u,by simp only[qj8,h5,h3],AV.qcg _ _ h4,fun a ha=>by rw[AV.qbF]at ha;simp at ha⟩
  ·simp at hr
theorem qg6{k:Nat}(h:Rel A0 T F p k sx sv):∀(rs:List VRes) (vs:List AV),qat T (rs.flatMap VRes.vx)=true->qgC sx rs=some vs->∃us,qfO sv rs=some us/\AV.fits vs us/\(AV.owns vs us).Nodup/\
 (∀a,a∈AV.owns vs us->∃t,VX.t t∈rs.flatMap VRes.vx/\T.contains t=true/\a∈qcG sx.r sv.r t)/\(∀a,a∈AV.owns vs us->sv.A a=true/\¬F a/\∀j,a∉qcT sx.B sv.B j)
 | [],vs,_,hx=>by simp[qgC]at hx;subst hx;exact⟨[],rfl,by simp[AV.fits],by simp[AV.owns],by simp[AV.owns],by simp[AV.owns]⟩
 |r::rs,vs,hd,hx=>by
  simp only[qgC]at hx;obtain⟨v,h1,h2⟩:=yb_.1 hx;obtain⟨vs',h3,rfl⟩:=ya_.1 h2;obtain⟨u,h4,h5,h6⟩:=qMr h h1;have hd2:qat T (rs.flatMap VRes.vx)=true:=by
   cases r with
   |tmp t=>exact(qbZ (by simpa[VRes.vx]using hd)).2
   |cell t a s=>simpa[VRes.vx]using hd
  obtain⟨us,g1,g2,g3,g4,g5⟩:=qg6 h rs vs' hd2 h3;refine⟨u::us,by simp[qfO,h4,g1],by simp only[AV.fits];exact⟨_,_,rfl,h5,g2⟩,?_,fun a ha=> ?_,fun a ha=> ?_⟩
  ·simp only[AV.owns]
   rw[List.nodup_append];refine⟨?_,g3,fun a ha b hb he=> ?_⟩
   ·cases r with
    |tmp t=>
     have:=h.held.nodup (.reg t);simp only[qaj,qcG]at this;simp only[qmf]at h1;simp only[qj8]at h4
     rw[h1,h4]at this;exact this
    |cell t ag s=>
     have:v.own u=[]:=List.eq_nil_iff_forall_not_mem.2 fun a ha=>by obtain⟨t',h7,_⟩:=h6 a ha;simp at h7
     rw[this];simp
   ·subst he
    obtain⟨t,rfl,ht,h7⟩:=h6 a ha;obtain⟨t',h8,ht',h9⟩:=g4 a hb;have:=h.held.apart (.reg t) (.reg t') a h7 h9;simp at this;subst this
    exact(qbZ (by simpa[VRes.vx]using hd)).1 t rfl ht h8
  ·simp only[AV.owns,List.mem_append]at ha
   rcases ha with ha|ha
   ·obtain⟨t,rfl,ht,h7⟩:=h6 a ha
    exact⟨t,by simp[VRes.vx],ht,h7⟩
   ·obtain⟨t,h8,h9⟩:=g4 a ha
    exact⟨t,by simp only[List.flatMap_cons,List.mem_append];exact .inr h8,h9⟩
  ·simp only[AV.owns,List.mem_append]at ha
   rcases ha with ha|ha
   ·obtain⟨t,rfl,ht,h7⟩:=h6 a ha
    obtain⟨q1,q2,q3⟩:=h.held.opn (.reg t) a h7;exact⟨q1,q2,fun j hj=>by have:=h.held.apart (.reg t) (.box j) a h7 hj;simp at this⟩
   ·exact g5 a ha
theorem ql5(h:Rel A0 T F p sv.c sx sv){L:Nat}{rs:List VRes}(hd:qat T (rs.flatMap VRes.vx)=true){v':AV}{B':qam}(hx:qeO L sx rs=some (v',B')):
 ∃r,finish L p sv rs=some r/\Back F p A0 v' B' r:=by
 have ham:∀a,sv.A a=true->A0 a=true\/Fut p 0 a:=fun a ha=>(h.am a ha).2
 have many:∀vs ds,qgC sx rs=some vs->qaF vs=some ds->∃us es,qfO sv rs=some us/\AV.fits vs us/\qaF us=some es/\us=es.map .d/\Back F p A0 (.d (.tup ds)) (sx.B.take L) ⟨.d (.tup es),sv.A,sv.B.take L⟩:=by
  intro vs ds h1 h2;obtain⟨us,g1,g2,g3,g4,g5⟩:=qg6 h rs vs hd h1;obtain⟨es,e1,e2,e3⟩:=qc7 h2 g2;have hus:us=es.map .d:=by
   clear g1 g2 g3 g4 g5 e2 e3
   induction us generalizing es with
   |nil=>simp[qaF]at e1;subst e1;rfl
   |cons u us ih=>
    cases u with
    |d d=>
     simp only[qaF]at e1;obtain⟨es',h3,rfl⟩:=ya_.1 e1;rw[ih es' h3];rfl
    |_=>simp[qaF]at e1
  refine⟨us,es,g1,g2,e1,hus,h.back (h.boxes.take L) (qa6 _ _ L) (by simp only[AV.fit,DV.fit];exact⟨_,rfl,_,rfl,e2⟩) (by simp only[AV.own,DV.own];rw[<-e3];exact g3) (fun a ha=> ?_) (fun a ha=>ha) ham⟩;simp only[AV.own,DV.own]at ha;rw[<-e3]at ha;obtain⟨q1,q2,q3⟩:=g5 a ha;exact⟨q1,q2,fun j hj=>q3 j ((qa6 _ _ L j).subset hj)⟩
 unfold qeO at hx;split at hx
 ·rename_i v h1
  simp at hx;obtain⟨rfl,rfl⟩:=hx
  obtain⟨us,g1,g2,g3,g4,g5⟩:=qg6 h rs _ hd h1;simp only[AV.fits]at g2;obtain⟨u,_,rfl,hfu,rfl⟩:=g2;simp only[AV.fit]at hfu;obtain⟨y,rfl,hfy⟩:=hfu;simp only[AV.owns,List.append_nil]at g3 g5;refine⟨_,by unfold finish;rw[g1],h.back (h.boxes.take L) (qa6 _ _ L) (by simp only[AV.fit];exact⟨_,rfl,hfy⟩) g3 (fun a ha=> ?_) (fun a ha=>ha) ham⟩;obtain⟨q1,q2,q3⟩:=g5 a ha;exact⟨q1,q2,fun j hj=>q3 j ((qa6 _ _ L j).subset hj)⟩
 ·rename_i i off h1
  simp at hx;obtain⟨rfl,rfl⟩:=hx
  obtain⟨us,g1,g2,g3,g4,g5⟩:=qg6 h rs _ hd h1;simp only[AV.fits]at g2;obtain⟨u,_,rfl,hfu,rfl⟩:=g2;simp only[AV.fit]at hfu;subst hfu;exact⟨_,by unfold finish;rw[g1],h.back h.boxes (fun j=>List.Sublist.refl _) (by simp[AV.fit]) (by simp[AV.own]) (by simp[AV.own]) (fun a ha=>ha) ham⟩
 ·rename_i id agg i sz n h1
  split at hx
  ·rename_i hc
   obtain⟨cs,h2,h3⟩:=yb_.1 hx;obtain⟨bs,h4,h5⟩:=yb_.1 h2;split at h3
   ·rename_i hlen
    obtain⟨xs,h6,h7⟩:=ya_.1 h3;simp at h7;obtain⟨rfl,rfl⟩:=h7
    obtain⟨us,g1,g2,g3,g4,g5⟩:=qg6 h rs _ hd h1;simp only[AV.fits]at g2;obtain⟨u,_,rfl,hfu,rfl⟩:=g2;simp only[AV.fit]at hfu;obtain⟨id',rfl⟩:=hfu;obtain⟨ds,q1,q2⟩:=h.boxes.get h4;obtain⟨es,q3,q4,q5⟩:=qc7 h5 q2;obtain⟨ys,q6,q7,q8,q9,q10⟩:=qgs agg sz n cs es xs q4 h6;have hbo:qcT sx.B sv.B i=DV.owns cs es:=by unfold qcT;rw[h4,q1];exact q5
    have hnb:∀a,a∈DV.owns xs ys->a∈qaj sx.r sx.B sv.r sv.B (.box i):=fun a ha=>by simp only[qaj];rw[hbo];exact q9.subset ha
    have hnf:¬sv.A (sv.c::p)=true:=fun ha=>(h.am _ ha).1 (Fut.self p _)
    refine⟨⟨.d (.sl (.own (sv.c::p) sz) ys),Ids.add (sv.c::p) sv.A,sv.B.take L⟩,?_,?_⟩
    ·unfold finish
     rw[g1];simp only;rw[if_pos hc,q1];simp only[Option.bind_some,q3];rw[if_pos (by rw[<-DV.qan q4];exact hlen),q6];rfl
    ·refine h.back (h.boxes.take L) (qa6 _ _ L) ?_ ?_ (fun a ha=> ?_) (fun a ha=>by simp[Ids.add,ha]) (fun a ha=> ?_)
     ·simp only[AV.fit,DV.fit]
      refine⟨_,rfl,_,_,rfl,q7,.inr ⟨rfl,?_⟩⟩
      by_cases hn:xs.length=0
      ·exact .inl ⟨hn,.inr ⟨_,_,rfl⟩⟩
      ·exact .inr ⟨hn,_,_,rfl,q8⟩
     ·simp only[AV.own,DV.own]
      rw[List.nodup_append];refine⟨by split<;>simp[Tag.ids],((h.held.nodup (.box i)).sublist (by simp only[qaj];rw[hbo];exact q9)),fun a ha b hb he=> ?_⟩;split at ha<;>simp[Tag.ids]at ha
      subst ha;subst he
      exact hnf (h.held.opn _ _ (hnb _ hb)).1
     ·simp only[AV.own,DV.own,List.mem_append]at ha
      rcases ha with ha|ha
      ·split at ha<;>simp[Tag.ids]at ha
       subst ha;refine⟨by simp[Ids.add],fun hF=>hnf (h.held.fr _ hF).1,fun j hj=> ?_⟩;exact hnf (h.held.opn (.box j) _ ((qa6 _ _ L j).subset hj)).1
      ·obtain⟨z1,z2,_⟩:=h.held.opn _ a (hnb a ha)
       refine⟨by simp[Ids.add,z1],z2,fun j hj=> ?_⟩;have:=h.held.apart (.box i) (.box j) a (hnb a ha) ((qa6 _ _ L j).subset hj);simp at this;subst this
       simp only[qcT,qga]at hj;rw[if_neg (by omega)]at hj;simp at hj
     ·simp only[Ids.add,Bool.or_eq_true,decide_eq_true_eq]at ha
      rcases ha with rfl|ha
      ·exact .inr ((Fut.self p _).le (Nat.zero_le _))
      ·exact ham a ha
   ·simp at h3
  ·simp at hx
 ·simp at hx
 ·rename_i vs hn1 hn2 hn3 hn4 h1
  obtain⟨ds,h2,h3⟩:=ya_.1 hx;simp at h3;obtain⟨rfl,rfl⟩:=h3
  obtain⟨us,es,g1,g2,g3,g4,g5⟩:=many vs ds h1 h2;refine⟨_,?_,g5⟩;unfold finish;rw[g1]
  match us,g2 with
  | [],_=>simp at g4;simp[qaF]at g3;subst g3;rfl
  | [u],g2=>
   have hl:=AV.qan g2
   match vs,hl with
   | [x],_=>exact absurd rfl (hn4 x)
  |u::u'::us,_=>simp only[g3,Option.map_some]
 ·simp at hx
theorem qmh(h:Rel A0 T F p sv.c sx sv){L:Nat}{rs:List VRes}(hd:qat T (rs.flatMap VRes.vx)=true){v':AV}{B':qam}(hx:qcU L sx rs=some (v',B')):
 ∃r,finish L p sv rs=some r/\Back F p A0 v' B' r:=by
 unfold qcU at hx;split at hx
 ·rename_i t agg sz
  unfold qny at hx;split at hx
  ·rename_i i off h1
   split at hx
   ·rename_i hL
    split at hx
    ·rename_i v h2
     simp at hx;obtain⟨rfl,rfl⟩:=hx
     obtain⟨u,cs,ds,h3,h4,h5,h6,h7,h8,h9⟩:=qfi h.boxes h2;obtain⟨x,g1,g2⟩:=h.regs t _ h1;simp only[AV.fit]at g2;subst g2
     have h4':=h4;simp only[AV.fit]at h4';obtain⟨y,rfl,hy⟩:=h4';have hbo:qcT sx.B sv.B i=AV.owns cs ds:=by unfold qcT;rw[h5,h6]
     have hsub:((AV.d v).own (.d y)).Sublist (AV.owns cs ds):=by
      rw[h8,AV.qb7 (AV.qan h7) off];refine List.Sublist.trans ?_ (List.sublist_append_right _ _);rw[AV.qb7 (a:=cs.drop off) (c:=ds.drop off) (by simp[AV.qan h7]) (if agg=true then sz else 1)];exact List.sublist_append_left _ _
     refine⟨_,by unfold finish;simp only[qfO,qj8,g1,h3,Option.bind_some,Option.map_some],h.back (h.boxes.take L) (qa6 _ _ L) h4 ((h.held.nodup (.box i)).sublist (by simp only[qaj];rw[hbo];exact hsub)) (fun a ha=> ?_) (fun a ha=>ha) (fun a ha=>(h.am a ha).2)⟩;have ha2:a∈qaj sx.r sx.B sv.r sv.B (.box i):=by simp only[qaj];rw[hbo];exact hsub.subset ha
     obtain⟨q1,q2,_⟩:=h.held.opn _ a ha2;refine⟨q1,q2,fun j hj=> ?_⟩;have:=h.held.apart (.box i) (.box j) a ha2 ((qa6 _ _ L j).subset hj);simp at this;subst this
     simp only[qcT,qga]at hj;rw[if_neg (by omega)]at hj;simp at hj
    ·simp at hx
   ·simp at hx
  ·simp at hx
 ·rename_i t1 g1 z1 t2 g2 z2 t3
  unfold qAK at hx;split at hx
  ·rename_i i1 o1 i2 o2 b e1 e2 e3
   split at hx
   ·rename_i hL
    obtain⟨hL1,hL2,hne⟩:=hL;split at hx
    ·rename_i v1 v2 l1 l2
     simp at hx;obtain⟨rfl,rfl⟩:=hx
     have one:∀(t i off:Nat) (g:Bool) (z:Nat) (v:DV),lk sx.r t=some (.ptr i off)->qak sx.B g z i off=some (.d v)->∃y,qj8 sv (.cell t g z)=some (.d y)/\v.fit y/\(v.own y).Sublist (qcT sx.B sv.B i):=by
      intro t i off g z v q1 q2;obtain⟨u,cs,ds,h3,h4,h5,h6,h7,h8,h9⟩:=qfi h.boxes q2;obtain⟨x,r1,r2⟩:=h.regs t _ q1;simp only[AV.fit]at r2;subst r2
      have h4':=h4;simp only[AV.fit]at h4';obtain⟨y,rfl,hy⟩:=h4';have hbo:qcT sx.B sv.B i=AV.owns cs ds:=by unfold qcT;rw[h5,h6]
      have hsub:((AV.d v).own (.d y)).Sublist (AV.owns cs ds):=by
       rw[h8,AV.qb7 (AV.qan h7) off];refine List.Sublist.trans ?_ (List.sublist_append_right _ _);rw[AV.qb7 (a:=cs.drop off) (c:=ds.drop off) (by simp[AV.qan h7]) (if g=true then z else 1)];exact List.sublist_append_left _ _
      exact⟨y,by simp only[qj8,r1,h3],hy,by rw[hbo];exact hsub⟩
     obtain⟨y1,a1,a2,a3⟩:=one t1 i1 o1 g1 z1 v1 e1 l1;obtain⟨y2,b1,b2,b3⟩:=one t2 i2 o2 g2 z2 v2 e2 l2;obtain⟨x,c1,c2⟩:=h.regs t3 _ e3;simp only[AV.fit]at c2;obtain⟨y3,rfl,c3⟩:=c2;have hy3:y3= .bool b:=by simpa only[DV.fit]using c3
     subst hy3;have hown:DV.owns [v1,v2,.bool b] [y1,y2,.bool b]=v1.own y1++(v2.own y2++[]):=by simp only[DV.owns,DV.own,List.append_nil]
     have good:∀i a,L<=i->a∈qcT sx.B sv.B i->sv.A a=true/\¬F a/\∀j,a∉qcT (sx.B.take L) (sv.B.take L) j:=fun i a hi ha=>by
      have ha2:a∈qaj sx.r sx.B sv.r sv.B (.box i):=ha;obtain⟨q1,q2,_⟩:=h.held.opn _ a ha2;refine⟨q1,q2,fun j hj=> ?_⟩;have:=h.held.apart (.box i) (.box j) a ha2 ((qa6 _ _ L j).subset hj);simp at this;subst this
      simp only[qcT,qga]at hj;rw[if_neg (by omega)]at hj;simp at hj
     have hr3:qj8 sv (.tmp t3)=some (.d (.bool b)):=c1;refine⟨⟨.d (.tup [y1,y2,.bool b]),sv.A,sv.B.take L⟩,by unfold finish;simp only[qfO,a1,b1,hr3,Option.bind_some,Option.map_some,qaF],h.back (h.boxes.take L) (qa6 _ _ L) ?_ ?_ (fun a ha=> ?_) (fun a ha=>ha) (fun a ha=>(h.am a ha).2)⟩
     ·simp only[AV.fit,DV.fit,DV.fits]
      exact⟨_,rfl,_,rfl,_,_,rfl,a2,_,_,rfl,b2,_,_,rfl,rfl,rfl⟩
     ·simp only[AV.own,DV.own,hown,List.append_nil]
      rw[List.nodup_append];refine⟨(h.held.nodup (.box i1)).sublist a3,(h.held.nodup (.box i2)).sublist b3,fun q hq q' hq' he=> ?_⟩;subst he;have:=h.held.apart (.box i1) (.box i2) q (a3.subset hq) (b3.subset hq');simp at this;exact hne this
     ·simp only[AV.own,DV.own,hown,List.append_nil,List.mem_append]at ha
      rcases ha with ha|ha
      ·exact good i1 a hL1 (a3.subset ha)
      ·exact good i2 a hL2 (b3.subset ha)
    ·simp at hx
   ·simp at hx
  ·simp at hx
 ·exact ql5 h hd hx
theorem qhG{x v:DV}(h:x.fit v):v.flat=x.flat:=by
 cases x<;>simp only[DV.fit]at h
 case agg cs=>obtain⟨ds,rfl,h1⟩:=h;rfl
 case sl g xs=>
  obtain⟨g',ys,rfl,h1,h2⟩:=h;cases xs with
  |nil=>simp only[DV.fits]at h1;subst h1;rfl
  |cons x r=>simp only[DV.fits]at h1;obtain⟨y,ys',rfl,_,_⟩:=h1;rfl
 case tup cs=>obtain⟨ds,rfl,h1⟩:=h;rfl
 all_goals subst h;rfl
theorem qxT{sx:XS}{sv:St}{k:Nat}(h:Rel A0 T F p k sx sv){y:DV×DV}(hy:qh9 sx=some y):
 ∃y',qmp sv=some y'/\y.1.fit y'.1/\y.2.fit y'.2/\y.1.own y'.1=[]/\y.2.own y'.2=[]:=by
 unfold qh9 at hy;split at hy
 ·rename_i x0 x1 x2 z0 z1 z2 e1 e2 e3
  split at hy
  ·rename_i hc
   simp only[Option.some.injEq]at hy;subst hy
   obtain⟨v3,g1,g2⟩:=h.regs 3 _ e1;obtain⟨v4,g3,g4⟩:=h.regs 4 _ e2;simp only[AV.fit]at g2 g4;subst g2;subst g4
   have hb:=h.boxes;rw[e3]at hb;obtain⟨c0,b1,b2⟩:=(hb.2 0).2 _ rfl;obtain⟨c1,b3,b4⟩:=(hb.2 1).2 _ rfl;simp only[AV.fits,AV.fit]at b2 b4;obtain⟨_,_,rfl,⟨w0,rfl,f0⟩,_,_,rfl,⟨w1,rfl,f1⟩,w2,_,rfl,_,rfl⟩:=b2;obtain⟨_,_,rfl,⟨u0,rfl,q0⟩,_,_,rfl,⟨u1,rfl,q1⟩,_,_,rfl,⟨u2,rfl,q2⟩,rfl⟩:=b4;have hB:sv.B=[some [.d w0,.d w1,w2],some [.d u0,.d u1,.d u2]]:=by
    have hl:=hb.1
    match hs:sv.B,hl with
    | [m,n],_=>
     rw[hs]at b1 b3;simp at b1 b3;subst b1;subst b3;rfl
   refine⟨(w0,w1),?_,DV.qcg _ _ f0,DV.qcg _ _ f1,DV.qbF _ _,DV.qbF _ _⟩;unfold qmp;rw[g1,g3,hB];simp only;rw[qhG f0,qhG f1,qhG q0,qhG q1,qhG q2,DV.qd0 f0,DV.qd0 f1,if_pos hc]
  ·simp at hy
 ·simp at hy
theorem qgy:∀{xs vs:List DV},DV.fits xs vs->DV.fits (xs.flatMap DV.cells) (vs.flatMap DV.cells)/\DV.owns (xs.flatMap DV.cells) (vs.flatMap DV.cells)=DV.owns xs vs
 | [],vs,h=>by simp only[DV.fits]at h;subst h;simp[DV.fits,DV.owns]
 |x::xs,vs,h=>by
  simp only[DV.fits]at h;obtain⟨v,vs,rfl,h1,h2⟩:=h;obtain⟨q1,q2⟩:=qgy h2;simp only[List.flatMap_cons];exact⟨DV.qaX (DV.qbr h1) q1,by rw[DV.qaW (DV.qan (DV.qbr h1)),DV.qdx h1,q2];simp only[DV.owns]⟩
theorem qFQ{X:qaB}{V:qaz}{lin:Nat->List Nat}(href:qdb X V lin){sf:SFn}{A:Ids}{a:Id}{sz:Nat}{x y:DV}{xr yr:List DV}{q:Id}
 (h1:x.fit y) (h2:DV.fits xr yr) (hA:∀b,b∈a::DV.owns (x::xr) (y::yr)->A b=true/\¬Fut q 0 b) (hnd:(a::DV.owns (x::xr) (y::yr)).Nodup)
 (hsz:∀e:DV,e∈y::yr->e.cells.length=sz) {r:List DV} (hx:qib X sf x xr=some r):
 ∃r' A1,qnJ V q sf A a y yr=some (r',Ids.add a A1)/\DV.fits r r'/\r.length=xr.length+1/\(∀e:DV,e∈r'->e.cells.length=sz)/\(a::DV.owns r r').Nodup/\(∀b,b∈DV.owns r r'->A1 b=true)/\(∀b,A1 b=true->b∈DV.owns (x::xr) (y::yr)\/Fut q 0 b):=by
 unfold qib at hx;split at hx
 ·rename_i hu
  have hf:DV.fits (x::xr) (y::yr):=by simp only[DV.fits];exact⟨_,_,rfl,h1,h2⟩
  obtain⟨l,hl1,hl2⟩:=qd6 _ _ hf hu;obtain⟨c1,c2⟩:=qgy hf;rw[List.nodup_cons]at hnd;split at hx
  ·rename_i v cs hcall
   obtain⟨es,d1,hx⟩:=yb_.1 hx;split at hx
   ·rename_i hlen
    have hfa:AV.fits [AV.tsl true 0 x.cells.length (xr.length+1),.fn sf.cmp []] [AV.tsl true 0 y.cells.length (yr.length+1),.fn sf.cmp []]:=by
     simp only[AV.fits,AV.fit];rw[DV.qbI h1,<-DV.qan h2];exact⟨_,_,rfl,rfl,_,_,rfl,⟨_,rfl,rfl,by simp[AV.owns]⟩,rfl⟩
    have hre:∀j,qcG (qao 0 [AV.tsl true 0 x.cells.length (xr.length+1),.fn sf.cmp []]) (qao 0 [AV.tsl true 0 y.cells.length (yr.length+1),.fn sf.cmp []]) j=[]:=by
     intro j;rw[qew]
     match j with
     |0=>simp[AV.own]
     |1=>simp[AV.own]
     |j+2=>simp
    have hbx:∀j,qcT [some (((x::xr).flatMap DV.cells).map AV.d)] [some (((y::yr).flatMap DV.cells).map AV.d)] j=if j=0 then DV.owns (x::xr) (y::yr)else []:=by
     intro j;unfold qcT qcx
     match j with
     |0=>simp only[List.getElem?_cons_zero,if_true];show AV.owns _ _=_;rw[AV.qlZ,c2]
     |j+1=>simp
    have hlo:∀ℓ b,b∈qaj (qao 0 [AV.tsl true 0 x.cells.length (xr.length+1),.fn sf.cmp []]) [some (((x::xr).flatMap DV.cells).map AV.d)] (qao 0 [AV.tsl true 0 y.cells.length (yr.length+1),.fn sf.cmp []]) [some (((y::yr).flatMap DV.cells).map AV.d)] ℓ->ℓ= .box 0/\b∈DV.owns (x::xr) (y::yr):=by
     intro ℓ b hb;cases ℓ with
     |reg t=>simp only[qaj,hre]at hb;simp at hb
     |box j=>
      simp only[qaj,hbx]at hb;split at hb
      ·rename_i hj;subst hj;exact⟨rfl,hb⟩
      ·simp at hb
    obtain⟨u,Bv',A1,hV,_,hbf,hh,hnm⟩:=href _ _ _ _ _ hcall q _ [some (((y::yr).flatMap DV.cells).map AV.d)] (fun b=>l.contains b) (fun _=>False) hfa
     ⟨rfl,fun i=>by
      match i with
      |0=>exact⟨by simp,fun cs hc=>by simp at hc;subst hc;exact⟨_,rfl,by have:=AV.qjs c1;simpa using this⟩⟩
      |i+1=>exact⟨by simp,fun cs hc=>by simp at hc⟩⟩
     ⟨fun ℓ=>by
      cases ℓ with
      |reg t=>simp only[qaj,hre];simp
      |box j=>simp only[qaj,hbx];split
              ·exact hnd.2
              ·simp,
      fun ℓ ℓ' b hb hb'=>by rw[(hlo ℓ b hb).1,(hlo ℓ' b hb').1],
      fun ℓ b hb=>⟨by simpa using hl2.mem_iff.2 (hlo ℓ b hb).2,id,(hA b (List.mem_cons_of_mem _ (hlo ℓ b hb).2)).2⟩,fun b hb=>by simp at hb⟩
     (fun j _=>hre j) (fun b hb=>by
      have:b∈l:=by simpa using hb
      exact(hA b (List.mem_cons_of_mem _ (hl2.mem_iff.1 this))).2)
    obtain⟨ds,e1,e2⟩:=(hbf.2 0).2 cs rfl;have hBv:Bv'=[some ds]:=by
     have hl:=hbf.1
     match Bv',hl with
     | [m],_=>simp at e1;subst e1;rfl
    subst hBv;obtain⟨es',d2,d3,d4⟩:=qc7 d1 e2;obtain⟨r',k1,k2,k3,k4,k5⟩:=qgs _ _ _ _ _ _ d3 hx;have hown:∀b,b∈DV.owns r r'->A1 b=true:=fun b hb=>(hh.opn (.box 0) b (by simp only[qaj,qcT,qcx];simp only[List.getElem?_cons_zero];show b∈AV.owns _ _;rw[d4];exact k4.subset hb)).1
    have hnd':(DV.owns r r').Nodup:=by
     have:=hh.nodup (.box 0);simp only[qaj,qcT,qcx,List.getElem?_cons_zero]at this;have h':(AV.owns cs ds).Nodup:=this;rw[d4]at h';exact h'.sublist k4
    have hA1:∀b,A1 b=true->b∈DV.owns (x::xr) (y::yr)\/Fut q 0 b:=fun b hb=>(hnm b hb).imp_left fun h=>hl2.mem_iff.1 (by simpa using h)
    refine⟨r',A1,?_,k2,k5,fun e he=>by rw[k3 e he,<-DV.qbI h1];exact hsz y (by simp),?_,hown,hA1⟩
    ·unfold qnJ
     rw[hl1,Option.bind_some,if_pos ⟨(hA a (by simp)).1,List.all_eq_true.2 fun b hb=>(hA b (List.mem_cons_of_mem _ (hl2.mem_iff.1 hb))).1,by
      have:¬a∈l:=fun hm=>hnd.1 (hl2.mem_iff.1 hm)
      simpa using this⟩,hV]
     simp only[d2,Option.bind_some];rw[DV.qbI h1,<-DV.qan h2,if_pos (by rw[<-DV.qan d3];exact hlen),k1];rfl
    ·rw[List.nodup_cons]
     refine⟨fun hm=> ?_,hnd'⟩;rcases hA1 a (hown a hm)with h3|h3
     ·exact hnd.1 h3
     ·exact(hA a (by simp)).2 h3
   ·simp at hx
  ·simp at hx
 ·simp at hx
theorem qFP{X:qaB}{V:qaz}{lin:Nat->List Nat}(href:qdb X V lin){T:List Nat}{n:Nat}{sf:SFn}{p:Id}{ds es:List DV}(hf:DV.fits ds es)
 (hlin1:sf.pre.linOK T=true) (hlin2:sf.rest.linOK T=true) (hlin3:qat T (sf.results.flatMap VRes.vx)=true)
 (hz:∀j,qcG (qao 0 (ds.map .d)) (qao 0 (es.map .d)) j=[]) {v:DV} (hx:qjt X lin T n sf ds=some v):
 ∃u A1,qps V n p sf es=some (u,A1)/\v.fit u/\(v.own u).Nodup/\(∀a,a∈v.own u->A1 a=true)/\∀a,A1 a=true->Fut p 0 a:=by
 unfold qjt at hx;split at hx
 ·simp at hx
 rename_i hlen;have hvf:=AV.qjs hf;have hloc:∀ℓ,qaj (qao 0 (ds.map AV.d)) [] (qao 0 (es.map AV.d)) [] ℓ=[]:=by
  intro ℓ;cases ℓ with
  |reg t=>exact hz t
  |box j=>simp[qaj,qcT,qcx]
 have h0:Rel Ids.none T (fun _=>False) p (⟨qao 0 (es.map .d),[],Ids.none,0⟩:St).c ⟨qao 0 (ds.map .d),[]⟩ ⟨qao 0 (es.map .d),[],Ids.none,0⟩:=by
  refine⟨fun t x ht=> ?_,⟨rfl,by simp⟩,⟨fun ℓ=>by rw[hloc];simp,fun ℓ ℓ' a ha=>by rw[hloc]at ha;simp at ha,fun ℓ a ha=>by rw[hloc]at ha;simp at ha,fun a ha=>by simp at ha⟩,fun j _=>hz j,fun t ht=> ?_,fun a ha=>by simp[Ids.none]at ha⟩
  ·simp only[qgL]at ht⊢
   simp only[Nat.zero_le,if_true,Nat.sub_zero]at ht⊢
   exact AV.qcO hvf ht
  ·simp only[qgL]at ht⊢
   simp only[Nat.zero_le,if_true,Nat.sub_zero]at ht⊢
   rw[List.getElem?_eq_none_iff]at ht⊢
   have:=AV.qan hvf;omega
 obtain⟨⟨e,s1⟩,h1,h2⟩:=yb_.1 hx;obtain⟨v1,h3,h4⟩:=qnz href n sf.pre hlin1 _ _ _ _ h0 h1;have hlen':¬es.length≠sf.np:=by rw[<-DV.qan hf];exact hlen
 have hrest:∀{e:Ex},(e= .normal)->((qbo X lin T n sf.rest s1).bind fun r2=>match r2.1 with
  | .exit _=>none
  |_=>(qcU 0 r2.2 sf.results).bind fun q=>match q.1 with
   | .d v=>some v
   |_=>none)=some v->∃u A1,((qaO V p n sf.rest v1).bind fun r2=>match r2.1 with
  | .exit _=>none
  |_=>(finish 0 p r2.2 sf.results).bind fun q=>match q.v with
   | .d v=>some (v,q.A)
   |_=>none)=some (u,A1)/\v.fit u/\(v.own u).Nodup/\(∀a,a∈v.own u->A1 a=true)/\∀a,A1 a=true->Fut p 0 a:=by
  intro _ _ hr;obtain⟨⟨e2,s2⟩,r1,r2⟩:=yb_.1 hr;obtain⟨v2,r3,r4⟩:=qnz href n sf.rest hlin2 _ _ _ _ h4 r1;have key:((qcU 0 s2 sf.results).bind fun q=>match q.1 with
   | .d v=>some v
   |_=>none)=some v->∃u A1,((finish 0 p v2 sf.results).bind fun q=>match q.v with
   | .d v=>some (v,q.A)
   |_=>none)=some (u,A1)/\v.fit u/\(v.own u).Nodup/\(∀a,a∈v.own u->A1 a=true)/\∀a,A1 a=true->Fut p 0 a:=by
   intro hk;obtain⟨⟨w,B'⟩,k1,k2⟩:=yb_.1 hk;obtain⟨⟨w',Aw,Bw⟩,k3,k4⟩:=qmh r4 hlin3 k1;split at k2
   ·rename_i d hd
    simp only at hd;subst hd
    simp only[Option.some.injEq]at k2;subst k2
    have k5:=k4.fit;simp only[AV.fit]at k5;obtain⟨u,rfl,k6⟩:=k5;refine⟨u,Aw,by rw[k3];rfl,k6,?_,fun a ha=> ?_,fun a ha=> ?_⟩
    ·have:=k4.held.nodup (.reg 0)
     simp only[qaj,qbs]at this;simpa[AV.own]using this
    ·exact(k4.held.opn (.reg 0) a (by simp only[qaj,qbs];simpa[AV.own]using ha)).1
    ·rcases k4.am a ha with h|h
     ·simp[Ids.none]at h
     ·exact h
   ·simp at k2
  rw[r3,Option.bind_some];cases e2 with
  |exit id=>simp at r2
  |normal=>exact key r2
  |ret=>exact key r2
 unfold qps;rw[if_neg hlen',h3,Option.bind_some];simp only at h2⊢
 split at h2
 ·rename_i x xr e1 e2
  obtain⟨vb,g1,g2⟩:=h4.regs _ _ e1;simp only[AV.fit,DV.fit]at g2;obtain⟨_,rfl,rfl⟩:=g2;obtain⟨vr,g3,g4⟩:=h4.regs _ _ e2;have g4':=g4;simp only[AV.fit,DV.fit]at g4;obtain⟨_,rfl,g',ys,rfl,g5,g6⟩:=g4;rcases g6 with g6|⟨_,g6⟩
  ·exact absurd g6 (by decide)
  rcases g6 with⟨g6,_⟩|⟨_,a,sz,rfl,g7⟩
  ·simp at g6
  have g5':=g5;simp only[DV.fits]at g5;obtain⟨y,yr,rfl,f1,f2⟩:=g5;obtain⟨w,m1,m2⟩:=yb_.1 h2;obtain⟨q,m3,m4⟩:=ya_.1 m2;subst m4;obtain⟨w',n1,n2,n3,n4,n5⟩:=qxT h4 m1;have hloc5:∀b,b∈a::DV.owns (x::xr) (y::yr)->b∈qaj s1.r s1.B v1.r v1.B (.reg sf.row):=by
   intro b hb;simp only[qaj,qcG,e2,g3,AV.own,DV.own];rw[if_pos ⟨rfl,by simp⟩];simpa[Tag.ids]using hb
  have hnd5:(a::DV.owns (x::xr) (y::yr)).Nodup:=by
   have:=h4.held.nodup (.reg sf.row);simp only[qaj,qcG,e2,g3,AV.own,DV.own]at this;rw[if_pos ⟨rfl,by simp⟩]at this;simpa[Tag.ids]using this
  obtain⟨r',A1,s3,s4,s5,s6,s7,s8,s9⟩:=qFQ href (A:=v1.A) (a:=a) (sz:=sz) (q:=(v1.c+1)::p) f1 f2 (fun b hb=>by
   obtain⟨t1,_,t3⟩:=h4.held.opn _ b (hloc5 b hb);exact⟨t1,fun hF=>t3 (hF.sub.le (Nat.le_succ _))⟩) hnd5 g7 m3
  simp only[g1,g3];refine⟨.agg [w'.1,w'.2,.sl (.own a sz) r'],Ids.add a A1,by rw[n1,Option.bind_some,s3];rfl,?_,?_,fun b hb=> ?_,fun b hb=> ?_⟩
  ·simp only[DV.fit,DV.fits]
   exact⟨_,rfl,_,_,rfl,n2,_,_,rfl,n3,_,_,rfl,⟨_,_,rfl,s4,.inr ⟨rfl,.inr ⟨by omega,_,_,rfl,s6⟩⟩⟩,rfl⟩
  ·simp only[DV.own,DV.owns,n4,n5]
   rw[if_pos ⟨trivial,by omega⟩];simpa[Tag.ids]using s7
  ·simp only[DV.own,DV.owns,n4,n5]at hb
   rw[if_pos ⟨trivial,by omega⟩]at hb;simp only[Ids.add,Bool.or_eq_true,decide_eq_true_eq];simp[Tag.ids]at hb;rcases hb with rfl|hb
   ·exact .inl rfl
   ·exact .inr (s8 b hb)
  ·have old:∀b,b∈a::DV.owns (x::xr) (y::yr)->Fut p 0 b:=fun b hb=>by
    rcases(h4.am b (h4.held.opn _ b (hloc5 b hb)).1).2 with h|h
    ·simp[Ids.none]at h
    ·exact h
   simp only[Ids.add,Bool.or_eq_true,decide_eq_true_eq]at hb;rcases hb with rfl|hb
   ·exact old b (by simp)
   ·rcases s9 b hb with h|h
    ·exact old b (List.mem_cons_of_mem _ h)
    ·exact h.sub.le (Nat.zero_le _)
 ·rename_i e1
  obtain⟨vb,g1,g2⟩:=h4.regs _ _ e1;simp only[AV.fit,DV.fit]at g2;obtain⟨_,rfl,rfl⟩:=g2;obtain⟨u,A1,k1,k2⟩:=hrest (e:= .normal) rfl h2;exact⟨u,A1,by simp only[g1];exact k1,k2⟩
 ·rename_i g e1 e2
  obtain⟨vb,g1,g2⟩:=h4.regs _ _ e1;simp only[AV.fit,DV.fit]at g2;obtain⟨_,rfl,rfl⟩:=g2;obtain⟨vr,g3,g4⟩:=h4.regs _ _ e2;simp only[AV.fit,DV.fit,DV.fits]at g4;obtain⟨_,rfl,g',ys,rfl,rfl,g6⟩:=g4;obtain⟨u,A1,k1,k2⟩:=hrest (e:= .normal) rfl h2;exact⟨u,A1,by simp only[g1,g3];exact k1,k2⟩
 ·simp at h2
def qrK(g:List DV->Option DV)(gv:Id->List AV->Option (DV×Ids)):Prop:=
 ∀ds v,g ds=some v->∀es p,DV.fits ds es->∃u A1,gv p (es.map .d)=some (u,A1)/\v.fit u/\(v.own u).Nodup/\(∀a,a∈v.own u->A1 a=true)/\∀a,A1 a=true->Fut p 0 a
structure XOK(X:XEnv):Prop where
 code:∀f vf,X.env.code f=some vf->vf.linOK (X.lin f)=true
 nat:∀f g,X.nat f=some g->∃gv,X.env.nat f=some gv/\qrK g gv/\X.lin f=[]
 no:∀f,X.nat f=none->X.env.nat f=none
 spec:∀f sf,X.env.spec f=some sf->sf.pre.linOK (X.lin f)=true/\sf.rest.linOK (X.lin f)=true/\qat (X.lin f) (sf.results.flatMap VRes.vx)=true/\(X.lin f).all (fun j=>decide (sf.np<=j))=true
theorem qzT:∀{cs:List AV} {ds:List DV},qaF cs=some ds->cs=ds.map .d
 | [],ds,h=>by simp[qaF]at h;subst h;rfl
 |v::cs,ds,h=>by
  cases v with
  |d d=>
   simp only[qaF]at h;obtain⟨es,h3,rfl⟩:=ya_.1 h;rw[qzT h3];rfl
  |_=>simp[qaF]at h
theorem qwF{xs vs:List AV}{B Bv:qam}{A A1:Ids}{F:Id->Prop}{p:Id}{v u:DV}{R:Option Res}(hh:Held F (Fut p 0) A (qaj (qao 0 xs) B (qao 0 vs) Bv))(hb:qbS B Bv)
 (g2:v.fit u) (g3:(v.own u).Nodup) (g4:∀a,a∈v.own u->A1 a=true) (g5:∀a,A1 a=true->Fut p 0 a) (hR:R=some ⟨.d u,Ids.or A1 A,Bv⟩):
 ∃w Bv' A',R=some ⟨w,A',Bv'⟩/\(AV.d v).fit w/\qbS B Bv'/\Held F (fun _=>False) A' (qaj [(0,.d v)] B [(0,w)] Bv')/\∀a,A' a=true->A a=true\/Fut p 0 a:=by
 refine⟨.d u,Bv,Ids.or A1 A,hR,by simp only[AV.fit];exact⟨_,rfl,g2⟩,hb,⟨fun ℓ=> ?_,fun ℓ ℓ' a ha ha'=> ?_,fun ℓ a ha=> ?_,fun a ha=>⟨by simp[Ids.or,(hh.fr a ha).1],id⟩⟩,fun a ha=> ?_⟩
 ·cases ℓ with
  |reg t=>simp only[qaj,qbs];split
          ·exact g3
          ·simp
  |box j=>exact hh.nodup (.box j)
 ·have key:∀a j,a∈v.own u->a∉qcT B Bv j:=fun a j h8 h9=>(hh.opn (.box j) a h9).2.2 (g5 a (g4 a h8))
  cases ℓ with
  |reg t=>
   simp only[qaj,qbs]at ha;split at ha
   ·rename_i ht;subst ht
    cases ℓ' with
    |reg t'=>
     simp only[qaj,qbs]at ha';split at ha'
     ·rename_i ht;subst ht;rfl
     ·simp at ha'
    |box j=>exact absurd ha' (key a j ha)
   ·simp at ha
  |box j=>
   cases ℓ' with
   |reg t'=>
    simp only[qaj,qbs]at ha';split at ha'
    ·exact absurd ha (key a j ha')
    ·simp at ha'
   |box j'=>exact hh.apart (.box j) (.box j') a ha ha'
 ·cases ℓ with
  |reg t=>
   simp only[qaj,qbs]at ha;split at ha
   ·have h8:=g4 a ha
    exact⟨by simp[Ids.or,h8],fun hF=>(hh.fr a hF).2 (g5 a h8),id⟩
   ·simp at ha
  |box j=>
   obtain⟨q1,q2,_⟩:=hh.opn (.box j) a ha;exact⟨by simp[Ids.or,q1],q2,id⟩
 ·simp only[Ids.or,Bool.or_eq_true]at ha
  rcases ha with ha|ha
  ·exact .inr (g5 a ha)
  ·exact .inl ha
theorem qAL{X:XEnv}(hX:XOK X):∀n,qdb (qbd X n) (qeH X.env n) X.lin:=by
 intro n
 induction n with
 |zero=>intro f xs B v' B' h;simp[qbd]at h
 |succ n ih=>
  intro f xs B v' B' hx p vs Bv A F hf hb hh hl ham;simp only[qbd]at hx;split at hx
  ·rename_i g hg
   obtain⟨gv,h1,h2,h3⟩:=hX.nat f g hg;obtain⟨ds,h4,h5⟩:=yb_.1 hx;obtain⟨v,h6,h7⟩:=ya_.1 h5;simp at h7;obtain⟨rfl,rfl⟩:=h7
   obtain⟨es,e1,e2,e3⟩:=qc7 h4 hf;have hvs:vs=es.map .d:=by
    clear hx hf hh hl e2 e3 h4
    induction vs generalizing es with
    |nil=>simp[qaF]at e1;subst e1;rfl
    |cons u us ih=>
     cases u with
     |d d=>
      simp only[qaF]at e1;obtain⟨es',h3,rfl⟩:=ya_.1 e1;rw[ih es' h3];rfl
     |_=>simp[qaF]at e1
   obtain⟨u,A1,g1,g2,g3,g4,g5⟩:=h2 ds v h6 es p e2;refine qwF hh hb g2 g3 g4 g5 ?_;simp only[qeH,h1,e1,Option.bind_some];rw[hvs,g1];rfl
  ·rename_i hg
   split at hx
   ·rename_i hvf
    split at hx
    ·simp at hx
    rename_i sf hs;obtain⟨ds,h4,h5⟩:=yb_.1 hx;obtain⟨v,h6,h7⟩:=ya_.1 h5;simp at h7;obtain⟨rfl,rfl⟩:=h7
    obtain⟨es,e1,e2,e3⟩:=qc7 h4 hf;have hxs:=qzT h4;have hvs:=qzT e1;obtain⟨l1,l2,l3,l4⟩:=hX.spec f sf hs;have hnp:ds.length=sf.np:=by
     unfold qjt at h6;split at h6
     ·simp at h6
     ·rename_i hn;simpa using hn
    obtain⟨u,A1,g1,g2,g3,g4,g5⟩:=qFP ih (p:=p) e2 l1 l2 l3 (fun j=>by
     rw[<-hxs,<-hvs]
     by_cases hj:(X.lin f).contains j=true
     ·have h8:=List.all_eq_true.1 l4 j (by simpa using hj)
      simp only[decide_eq_true_eq]at h8;rw[qew];rw[hxs,List.getElem?_eq_none (by simp;omega)]
     ·exact hl j (by simpa using hj)) h6
    refine qwF hh hb g2 g3 g4 g5 ?_;simp only[qeH,hX.no f hg,hvf,hs,e1,Option.bind_some,g1];rfl
   ·rename_i vf hvf
    split at hx
    ·simp at hx
    ·rename_i hnp
     obtain⟨⟨e,s1⟩,h1,h2⟩:=yb_.1 hx;have hlin:=hX.code f vf hvf;simp only[VFn.linOK,Bool.and_eq_true]at hlin;have hlen:=AV.qan hf;have h0:Rel A (X.lin f) F p 0 ⟨qao 0 xs,B⟩ ⟨qao 0 vs,Bv,A,0⟩:=by
      refine⟨fun t x ht=> ?_,hb,hh,hl,fun t ht=> ?_,fun a ha=>⟨ham a ha,.inl ha⟩⟩
      ·simp only[qgL]at ht⊢
       simp only[Nat.zero_le,if_true,Nat.sub_zero]at ht⊢
       exact AV.qcO hf ht
      ·simp only[qgL]at ht⊢
       simp only[Nat.zero_le,if_true,Nat.sub_zero]at ht⊢
       rw[List.getElem?_eq_none_iff]at ht⊢
       omega
     obtain⟨v1,h3,h4⟩:=qnz (sv:=⟨qao 0 vs,Bv,A,0⟩) ih n vf.code hlin.1 _ _ _ h0 h1;have hc:(∀id,e≠.exit id)->qeH X.env (n+1) p f vs Bv A=finish Bv.length p v1 vf.results:=by
      intro hne;rw[qeH];simp only[hX.no f hg,hvf];rw[if_neg (by rw[<-hlen];exact hnp),h3];cases e with
      |exit id=>exact absurd rfl (hne id)
      |normal=>rfl
      |ret=>rfl
     have fin:∀{v' B'},qcU B.length s1 vf.results=some (v',B')->(∀id,e≠.exit id)->∃v Bv' A',qeH X.env (n+1) p f vs Bv A=some ⟨v,A',Bv'⟩/\v'.fit v/\qbS B' Bv'/\Held F (fun _=>False) A' (qaj [(0,v')] B' [(0,v)] Bv')/\∀a,A' a=true->A a=true\/Fut p 0 a:=by
      intro v' B' h5 he;obtain⟨r,h6,h7⟩:=qmh h4 hlin.2 h5;refine⟨r.v,r.B,r.A,?_,h7.fit,h7.boxes,h7.held,h7.am⟩;rw[hc he,<-hb.1,h6]
     cases e with
     |exit id=>simp at h2
     |normal=>exact fin h2 (fun id h=>by simp at h)
     |ret=>exact fin h2 (fun id h=>by simp at h)
end
def XLe(c c':qaB):Prop:=∀f as B r,c f as B=some r->c' f as B=some r
theorem que{c c':qaB}(h:XLe c c')(lin:Nat->List Nat)(T:List Nat)(draw:Bool)(L0:Nat)(o:VOper):FLe (xOp c lin T draw L0 o) (xOp c' lin T draw L0 o):=by
 intro s r hr;obtain⟨dst,op,g,af⟩:=o;cases op
 case call iso f args=>
  simp only[xOp]at hr⊢
  split at hr
  ·rename_i k caps vs h1 h2
   split at hr
   ·rename_i hiso
    simp only[hiso,if_true];split at hr
    ·rename_i hk
     split at hr
     ·rename_i hc
      rw[h _ _ _ _ hc];exact hr
     ·simp at hr
    ·simp at hr
   ·rename_i hiso
    simp only[hiso];split at hr
    ·rename_i hd
     rw[if_pos hd];split at hr
     ·rename_i hc
      rw[h _ _ _ _ hc];exact hr
     ·simp at hr
    ·simp at hr
  ·simp at hr
 case callT th f args=>
  simp only[xOp]at hr⊢
  split at hr
  ·split at hr
   ·rename_i hd
    rw[if_pos hd];obtain⟨ds,h1,h2⟩:=yb_.1 hr;rw[h1];simp only[Option.bind_some];split at h2
    ·rename_i hc
     rw[h _ _ _ _ hc];exact h2
    ·simp at h2
   ·simp at hr
  ·simp at hr
 all_goals exact hr
theorem qgZ{c c':qaB}(h:XLe c c')(lin:Nat->List Nat)(T:List Nat)(draw:Bool)(L0:Nat)(os:List VOper):FLe (qb9 c lin T draw L0 os) (qb9 c' lin T draw L0 os):=by
 induction os with
 |nil=>intro s r hr;exact hr
 |cons o os ih=>
  intro s r hr;simp only[qb9]at hr⊢
  split at hr
  ·obtain⟨s1,h1,h2⟩:=yb_.1 hr
   exact yb_.2 ⟨s1,que h lin T draw L0 o s s1 h1,ih _ _ h2⟩
  ·exact ih _ _ hr
  ·simp at hr
theorem qiU{c c':qaB}(h:XLe c c')(lin:Nat->List Nat)(T:List Nat)(draw:Bool)(na:Nat)(live:List Nat)(ops:List VOper):FLe (qd1 c lin T draw na live ops) (qd1 c' lin T draw na live ops):=by
 intro s r hr;unfold qd1 at hr⊢
 split
 ·simp_all
 ·rename_i hd
  simp only[hd]at hr;obtain⟨s1,h1,h2⟩:=ya_.1 hr;exact ya_.2 ⟨s1,qgZ h lin T draw _ ops _ _ h1,h2⟩
theorem quf{c c':qaB}(h:XLe c c')(lin:Nat->List Nat)(T:List Nat)(draw:Bool)(L0:Nat)(fs:List FOper):FLe (xFs c lin T draw L0 fs) (xFs c' lin T draw L0 fs):=by
 induction fs with
 |nil=>intro s r hr;exact hr
 |cons f fs ih=>
  intro s r hr;simp only[xFs]at hr⊢
  obtain⟨s1,h1,h2⟩:=yb_.1 hr;obtain⟨s2,h3,h4⟩:=yb_.1 h2;exact yb_.2 ⟨s1,qgZ h lin T draw L0 f.pre _ _ h1,yb_.2 ⟨s2,h3,ih _ _ h4⟩⟩
theorem qgY{c c':qaB}(h:XLe c c')(lin:Nat->List Nat)(T:List Nat)(draw:Bool)(na:Nat)(live:List Nat)(fs:List FOper):FLe (qcI c lin T draw na live fs) (qcI c' lin T draw na live fs):=by
 intro s r hr;unfold qcI at hr⊢
 split
 ·simp_all
 ·rename_i hd
  simp only[hd]at hr;obtain⟨s1,h1,h2⟩:=ya_.1 hr;exact ya_.2 ⟨s1,quf h lin T draw _ fs _ _ h1,h2⟩
theorem qeN{f g:XS->Option (Ex×XS)}(h:FLe f g)(L1:Nat)(live:List Nat):∀n m,n<=m->FLe (qdL f L1 live n) (qdL g L1 live m):=by
 intro n
 induction n with
 |zero=>intro m _ s r hr;simp[qdL]at hr
 |succ n ih=>
  intro m hm s r hr;obtain⟨m,rfl⟩:∃k,m=k+1:=⟨m-1,by omega⟩;simp only[qdL]at hr⊢
  obtain⟨s0,h0,hr⟩:=yb_.1 hr;obtain⟨⟨e,s1⟩,h1,hr⟩:=yb_.1 hr;refine yb_.2 ⟨s0,h0,yb_.2 ⟨(e,s1),h _ _ h1,?_⟩⟩;cases e with
  |normal=>exact ih m (by omega) _ _ hr
  |exit id=>exact hr
  |ret=>exact hr
theorem qbw{c c':qaB}(h:XLe c c')(lin:Nat->List Nat)(T:List Nat){n m:Nat}(hn:n<=m)(vc:VCode):FLe (qbo c lin T n vc) (qbo c' lin T m vc):=by
 induction vc with
 |skip=>intro s r hr;exact hr
 |ret=>intro s r hr;exact hr
 |exit id=>intro s r hr;exact hr
 |seq a b iha ihb=>
  intro s r hr;simp only[qbo]at hr⊢
  obtain⟨⟨e,s1⟩,h1,hr⟩:=yb_.1 hr;refine yb_.2 ⟨(e,s1),iha _ _ h1,?_⟩;cases e with
  |normal=>exact ihb _ _ hr
  |exit id=>exact hr
  |ret=>exact hr
 |region draw na live ops=>
  intro s r hr;simp only[qbo]at hr⊢
  obtain⟨s1,h1,h2⟩:=ya_.1 hr;exact ya_.2 ⟨s1,qiU h lin T draw na live ops _ _ h1,h2⟩
 |regionF draw na live fs=>
  intro s r hr;simp only[qbo]at hr⊢
  obtain⟨s1,h1,h2⟩:=ya_.1 hr;exact ya_.2 ⟨s1,qgY h lin T draw na live fs _ _ h1,h2⟩
 |cond x a b iha ihb=>
  intro s r hr;simp only[qbo]at hr⊢
  split at hr
  ·exact iha _ _ hr
  ·exact ihb _ _ hr
  ·simp at hr
 |block id cc ih=>
  intro s r hr;simp only[qbo]at hr⊢
  obtain⟨s1,h1,h2⟩:=ya_.1 hr;exact ya_.2 ⟨s1,ih _ _ h1,h2⟩
 |loop live cc ih=>
  intro s r hr;simp only[qbo]at hr⊢
  exact qeN ih _ _ n m hn _ _ hr
theorem qia{c c':qaB}(h:XLe c c')(sf:SFn)(x:DV)(xr:List DV):∀r,qib c sf x xr=some r->qib c' sf x xr=some r:=by
 intro r hr;unfold qib at hr⊢
 split at hr
 ·rename_i hc
  rw[if_pos hc];split at hr
  ·rename_i v cs hq
   rw[h _ _ _ _ hq];exact hr
  ·simp at hr
 ·simp at hr
theorem qxB{c c':qaB}(h:XLe c c'){n m:Nat}(hn:n<=m)(lin:Nat->List Nat)(T:List Nat)(sf:SFn)(ds:List DV):∀r,qjt c lin T n sf ds=some r->qjt c' lin T m sf ds=some r:=by
 intro r hr;unfold qjt at hr⊢
 split at hr
 ·simp at hr
 rename_i hlen;rw[if_neg hlen];obtain⟨⟨e,s⟩,h1,h2⟩:=yb_.1 hr;refine yb_.2 ⟨(e,s),qbw h lin T hn sf.pre _ _ h1,?_⟩;simp only at h2⊢
 split at h2
 ·rename_i x xr e1 e2
  obtain⟨y,h3,h4⟩:=yb_.1 h2;obtain⟨q,h5,h6⟩:=ya_.1 h4;exact yb_.2 ⟨y,h3,ya_.2 ⟨q,qia h _ _ _ _ h5,h6⟩⟩
 ·rename_i e1
  obtain⟨q,h5,h6⟩:=yb_.1 h2;exact yb_.2 ⟨q,qbw h lin T hn sf.rest _ _ h5,h6⟩
 ·rename_i g e1 e2
  obtain⟨q,h5,h6⟩:=yb_.1 h2;exact yb_.2 ⟨q,qbw h lin T hn sf.rest _ _ h5,h6⟩
 ·simp at h2
theorem qrY(X:XEnv):∀n,XLe (qbd X n) (qbd X (n+1)):=by
 intro n
 induction n with
 |zero=>intro f as B r hr;simp[qbd]at hr
 |succ n ih=>
  intro f as B r hr;rw[qbd]at hr⊢
  split
  ·rename_i g hg
   rw[hg]at hr;exact hr
  ·rename_i hg
   simp only[hg]at hr;split
   ·rename_i hf
    simp only[hf]at hr;split
    ·rename_i hs;simp[hs]at hr
    ·rename_i sf hs
     simp only[hs]at hr;obtain⟨ds,h1,h2⟩:=yb_.1 hr;obtain⟨q,h3,h4⟩:=ya_.1 h2;exact yb_.2 ⟨ds,h1,ya_.2 ⟨q,qxB ih (Nat.le_succ n) _ _ sf ds _ h3,h4⟩⟩
   ·rename_i vf hf
    simp only[hf]at hr;split at hr
    ·simp at hr
    ·rename_i hnp
     rw[if_neg hnp];obtain⟨s1,h1,h2⟩:=yb_.1 hr;exact yb_.2 ⟨s1,qbw ih _ _ (Nat.le_succ n) vf.code _ _ h1,h2⟩
theorem qby(X:XEnv){n m:Nat}(h:n<=m):XLe (qbd X n) (qbd X m):=by
 induction h with
 |refl=>intro f as B r hr;exact hr
 |step _ ih=>intro f as B r hr;exact qrY X _ _ _ _ _ (ih _ _ _ _ hr)
noncomputable def qac(X:XEnv):qaB:=fun f as B=>lim fun n=>qbd X n f as B
noncomputable def qau(X:XEnv)(T:List Nat)(c:VCode)(s:XS):Option (Ex×XS):=lim fun n=>qbo (qbd X n) X.lin T n c s
theorem qck{X:XEnv}{f:Nat}{as:List AV}{B:qam}{r:AV×qam}:qac X f as B=some r↔∃n,qbd X n f as B=some r:=
 qwK (fun n m r h hr=>qby X h _ _ _ _ hr) r
theorem qaE{X:XEnv}{T:List Nat}{c:VCode}{s:XS}{r:Ex×XS}:qau X T c s=some r↔∃n,qbo (qbd X n) X.lin T n c s=some r:=
 qwK (fun n m r h hr=>qbw (qby X h) _ _ h c _ _ hr) r
theorem qoR(X:XEnv)(n:Nat):XLe (qbd X n) (qac X):=fun _ _ _ _ h=>qck.2 ⟨n,h⟩
theorem qLX(X:XEnv)(T:List Nat)(draw:Bool)(L0:Nat)(o:VOper)(s r:XS)(hr:xOp (qac X) X.lin T draw L0 o s=some r):∃n,xOp (qbd X n) X.lin T draw L0 o s=some r:=by
 obtain⟨dst,op,g,af⟩:=o;cases op
 case call iso f args=>
  simp only[xOp]at hr⊢
  split at hr
  ·rename_i k caps vs h1 h2
   split at hr
   ·rename_i hiso
    simp only[hiso,if_true];split at hr
    ·rename_i hk
     split at hr
     ·rename_i hc
      obtain⟨n,hn⟩:=qck.1 hc;exact⟨n,by rw[hn];exact hr⟩
     ·simp at hr
    ·simp at hr
   ·rename_i hiso
    simp only[hiso];split at hr
    ·rename_i hd
     split at hr
     ·rename_i hc
      obtain⟨n,hn⟩:=qck.1 hc;exact⟨n,by rw[if_pos hd,hn];exact hr⟩
     ·simp at hr
    ·simp at hr
  ·simp at hr
 case callT th f args=>
  simp only[xOp]at hr⊢
  split at hr
  ·split at hr
   ·rename_i hd
    obtain⟨ds,h1,h2⟩:=yb_.1 hr;split at h2
    ·rename_i hc
     obtain⟨n,hn⟩:=qck.1 hc;exact⟨n,by rw[if_pos hd,h1];simp only[Option.bind_some];rw[hn];exact h2⟩
    ·simp at h2
   ·simp at hr
  ·simp at hr
 all_goals exact⟨0,hr⟩
theorem qud(X:XEnv)(T:List Nat)(draw:Bool)(L0:Nat)(os:List VOper):∀s r,qb9 (qac X) X.lin T draw L0 os s=some r->∃n,qb9 (qbd X n) X.lin T draw L0 os s=some r:=by
 induction os with
 |nil=>intro s r hr;exact⟨0,hr⟩
 |cons o os ih=>
  intro s r hr;simp only[qb9]at hr⊢
  split at hr
  ·obtain⟨s1,h1,h2⟩:=yb_.1 hr
   obtain⟨n,hn⟩:=qLX X T draw L0 o s s1 h1;obtain⟨m,hm⟩:=ih _ _ h2;exact⟨Nat.max n m,yb_.2 ⟨s1,que (qby X (Nat.le_max_left n m)) _ _ _ _ _ _ _ hn,qgZ (qby X (Nat.le_max_right n m)) _ _ _ _ _ _ _ hm⟩⟩
  ·exact ih _ _ hr
  ·simp at hr
theorem qjm(X:XEnv)(T:List Nat)(draw:Bool)(na:Nat)(live:List Nat)(ops:List VOper)(s:XS):
 qau X T (.region draw na live ops) s=(qd1 (qac X) X.lin T draw na live ops s).map fun s'=>(.normal,s'):=by
 refine qek fun r=> ?_
 rw[qaE];constructor
 ·rintro⟨n,hn⟩
  simp only[qbo]at hn;obtain⟨s1,h1,h2⟩:=ya_.1 hn;exact ya_.2 ⟨s1,qiU (qoR X n) _ _ _ _ _ _ _ _ h1,h2⟩
 ·intro h
  obtain⟨s1,h1,h2⟩:=ya_.1 h;unfold qd1 at h1;split at h1
  ·simp at h1
  ·rename_i hd
   obtain⟨s2,h3,h4⟩:=ya_.1 h1;obtain⟨n,hn⟩:=qud _ _ _ _ _ _ _ h3;refine⟨n,?_⟩;simp only[qbo];refine ya_.2 ⟨s1,?_,h2⟩;unfold qd1;rw[if_neg hd];exact ya_.2 ⟨s2,hn,h4⟩
theorem qy6(X:XEnv)(T:List Nat)(s:XS):qau X T .skip s=some (.normal,s):=qaE.2 ⟨0,rfl⟩
theorem qEQ(X:XEnv)(T:List Nat)(s:XS):qau X T .ret s=some (.ret,s):=qaE.2 ⟨0,rfl⟩
theorem qy8(X:XEnv)(T:List Nat)(id:Nat)(s:XS):qau X T (.exit id) s=some (.exit id,s):=qaE.2 ⟨0,rfl⟩
def qpi(r:Option (Ex×XS))(k:XS->Option (Ex×XS)):Option (Ex×XS):=
 r.bind fun r=>match r.1 with
  | .normal=>k r.2
  |_=>some r
theorem qlD(X:XEnv)(T:List Nat)(a b:VCode)(s:XS):qau X T (.seq a b) s=qpi (qau X T a s) (qau X T b):=by
 refine qek fun r=> ?_
 unfold qpi;rw[qaE];constructor
 ·rintro⟨n,hn⟩
  simp only[qbo]at hn;obtain⟨⟨e,s1⟩,h1,hr⟩:=yb_.1 hn;refine yb_.2 ⟨(e,s1),qaE.2 ⟨n,h1⟩,?_⟩;cases e with
  |normal=>exact qaE.2 ⟨n,hr⟩
  |exit id=>exact hr
  |ret=>exact hr
 ·intro h
  obtain⟨⟨e,s1⟩,h1,hr⟩:=yb_.1 h;obtain⟨n,hn⟩:=qaE.1 h1;cases e with
  |normal=>
   obtain⟨m,hm⟩:=qaE.1 hr;refine⟨Nat.max n m,?_⟩;simp only[qbo];exact yb_.2 ⟨_,qbw (qby X (Nat.le_max_left n m)) _ _ (Nat.le_max_left n m) _ _ _ hn,qbw (qby X (Nat.le_max_right n m)) _ _ (Nat.le_max_right n m) _ _ _ hm⟩
  |exit id=>exact⟨n,by simp only[qbo];exact yb_.2 ⟨_,hn,hr⟩⟩
  |ret=>exact⟨n,by simp only[qbo];exact yb_.2 ⟨_,hn,hr⟩⟩
theorem qy9(X:XEnv)(T:List Nat)(x:VX)(a b:VCode)(s:XS):
 qau X T (.cond x a b) s=match qcn s.r x with
  |some (.d (.bool true))=>qau X T a s
  |some (.d (.bool false))=>qau X T b s
  |_=>none:=by
 unfold qau;split<;>simp only[qbo, *]
 unfold lim;split
 ·rename_i h;obtain⟨n,hn⟩:=h;simp at hn
 ·rfl
theorem qtV(X:XEnv)(T:List Nat)(id:Nat)(c:VCode)(s:XS):
 qau X T (.block id c) s=(qau X T c s).map fun r=>if r.1= .exit id then(.normal,r.2)else r:=by
 refine qek fun r=> ?_
 rw[qaE];constructor
 ·rintro⟨n,hn⟩
  simp only[qbo]at hn;obtain⟨s1,h1,h2⟩:=ya_.1 hn;exact ya_.2 ⟨s1,qaE.2 ⟨n,h1⟩,h2⟩
 ·intro h
  obtain⟨s1,h1,h2⟩:=ya_.1 h;obtain⟨n,hn⟩:=qaE.1 h1;exact⟨n,by simp only[qbo];exact ya_.2 ⟨s1,hn,h2⟩⟩
noncomputable def qbu(X:XEnv)(T:List Nat)(L1:Nat)(live:List Nat)(c:VCode)(s:XS):Option (Ex×XS):=lim fun n=>qdL (qbo (qbd X n) X.lin T n c) L1 live n s
theorem qiy{X:XEnv}{T:List Nat}{L1:Nat}{live:List Nat}{c:VCode}{s:XS}{r:Ex×XS}:qbu X T L1 live c s=some r↔∃n,qdL (qbo (qbd X n) X.lin T n c) L1 live n s=some r:=
 qwK (fun n m r h hr=>qeN (qbw (qby X h) _ _ h c) _ _ n m h _ _ hr) r
theorem qy7(X:XEnv)(T:List Nat)(live:List Nat)(c:VCode)(s:XS):qau X T (.loop live c) s=qbu X T s.B.length live c s:=rfl
theorem qeh(X:XEnv)(T:List Nat)(L1:Nat)(live:List Nat)(c:VCode)(s:XS):
 qbu X T L1 live c s=(qad L1 live s).bind fun s0=>qpi (qau X T c s0) (qbu X T L1 live c):=by
 refine qek fun r=> ?_
 unfold qpi;rw[qiy];constructor
 ·rintro⟨n,hn⟩
  cases n with
  |zero=>simp[qdL]at hn
  |succ n=>
   simp only[qdL]at hn;obtain⟨s0,h0,hn⟩:=yb_.1 hn;obtain⟨⟨e,s1⟩,h1,hr⟩:=yb_.1 hn;refine yb_.2 ⟨s0,h0,yb_.2 ⟨(e,s1),qaE.2 ⟨n+1,h1⟩,?_⟩⟩;cases e with
   |normal=>exact qiy.2 ⟨n+1,qeN (fun _ _ h=>h) _ _ n (n+1) (Nat.le_succ n) _ _ hr⟩
   |exit id=>exact hr
   |ret=>exact hr
 ·intro h
  obtain⟨s0,h0,h⟩:=yb_.1 h;obtain⟨⟨e,s1⟩,h1,hr⟩:=yb_.1 h;obtain⟨n,hn⟩:=qaE.1 h1;have one:∀m,n<=m->qbo (qbd X m) X.lin T m c s0=some (e,s1):=fun m hm=>qbw (qby X hm) _ _ hm c _ _ hn
  cases e with
  |normal=>
   obtain⟨m,hm⟩:=qiy.1 hr;refine⟨n+m+1,?_⟩;simp only[qdL];refine yb_.2 ⟨s0,h0,yb_.2 ⟨(.normal,s1),one _ (by omega),?_⟩⟩;exact qeN (qbw (qby X (by omega)) _ _ (by omega) c) _ _ m _ (by omega) _ _ hm
  |exit id=>
   refine⟨n+1,?_⟩;simp only[qdL];exact yb_.2 ⟨s0,h0,yb_.2 ⟨(.exit id,s1),one _ (by omega),hr⟩⟩
  |ret=>
   refine⟨n+1,?_⟩;simp only[qdL];exact yb_.2 ⟨s0,h0,yb_.2 ⟨(.ret,s1),one _ (by omega),hr⟩⟩
theorem qzm(X:XEnv)(f:Nat)(as:List AV)(B:qam)(vf:VFn)(hn:X.nat f=none)(hf:X.env.code f=some vf)(hnp:as.length=vf.np):
 qac X f as B=(qau X (X.lin f) vf.code ⟨qao 0 as,B⟩).bind fun r=>
  match r.1 with
  | .exit _=>none
  |_=>qcU B.length r.2 vf.results:=by
 refine qek fun r=> ?_
 rw[qck];constructor
 ·rintro⟨n,h⟩
  cases n with
  |zero=>simp[qbd]at h
  |succ n=>
   rw[qbd]at h;simp only[hn,hf]at h;rw[if_neg (by simp[hnp])]at h;obtain⟨s1,h1,h2⟩:=yb_.1 h;exact yb_.2 ⟨s1,qaE.2 ⟨n,h1⟩,h2⟩
 ·intro h
  obtain⟨s1,h1,h2⟩:=yb_.1 h;obtain⟨n,hk⟩:=qaE.1 h1;refine⟨n+1,?_⟩;rw[qbd];simp only[hn,hf];rw[if_neg (by simp[hnp])];exact yb_.2 ⟨s1,hk,h2⟩
theorem qL0(X:XEnv)(T:List Nat)(draw:Bool)(L0:Nat):∀(fs:List FOper) (s r:XS),xFs (qac X) X.lin T draw L0 fs s=some r->∃n,xFs (qbd X n) X.lin T draw L0 fs s=some r:=by
 intro fs
 induction fs with
 |nil=>intro s r hr;exact⟨0,hr⟩
 |cons f fs ih=>
  intro s r hr;simp only[xFs]at hr⊢
  obtain⟨s1,h1,h2⟩:=yb_.1 hr;obtain⟨s2,h3,h4⟩:=yb_.1 h2;obtain⟨n,hn⟩:=qud _ _ _ _ _ _ _ h1;obtain⟨m,hm⟩:=ih _ _ h4;exact⟨Nat.max n m,yb_.2 ⟨s1,qgZ (qby X (Nat.le_max_left n m)) _ _ _ _ _ _ _ hn,yb_.2 ⟨s2,h3,quf (qby X (Nat.le_max_right n m)) _ _ _ _ _ _ _ hm⟩⟩⟩
theorem qhT(X:XEnv)(T:List Nat)(draw:Bool)(na:Nat)(live:List Nat)(fs:List FOper)(s:XS):qau X T (.regionF draw na live fs) s=(qcI (qac X) X.lin T draw na live fs s).map fun s'=>(.normal,s'):=by
 refine qek fun r=> ?_
 rw[qaE];constructor
 ·rintro⟨n,hn⟩
  simp only[qbo]at hn;obtain⟨s1,h1,h2⟩:=ya_.1 hn;exact ya_.2 ⟨s1,qgY (qoR X n) _ _ _ _ _ _ _ _ h1,h2⟩
 ·intro h
  obtain⟨s1,h1,h2⟩:=ya_.1 h;unfold qcI at h1;split at h1
  ·simp at h1
  ·rename_i hd
   obtain⟨s2,h3,h4⟩:=ya_.1 h1;obtain⟨n,hn⟩:=qL0 _ _ _ _ _ _ _ h3;refine⟨n,?_⟩;simp only[qbo];refine ya_.2 ⟨s1,?_,h2⟩;unfold qcI;rw[if_neg hd];exact ya_.2 ⟨s2,hn,h4⟩
theorem qlG(X:XEnv)(f:Nat)(as:List AV)(B:qam)(g:List DV->Option DV)(hn:X.nat f=some g):
 qac X f as B=(qaF as).bind fun ds=>(g ds).map fun v=>(.d v,B):=by
 refine qek fun r=> ?_
 rw[qck];constructor
 ·rintro⟨n,h⟩
  cases n with
  |zero=>simp[qbd]at h
  |succ n=>rw[qbd]at h;simpa only[hn]using h
 ·intro h
  exact⟨1,by rw[qbd];simpa only[hn]using h⟩
noncomputable def qnG(X:XEnv)(T:List Nat)(sf:SFn)(ds:List DV):Option DV:=
 if ds.length≠sf.np then none else
  (qau X T sf.pre ⟨qao 0 (ds.map .d),[]⟩).bind fun r=>
   match r.1,lk r.2.r sf.cond,lk r.2.r sf.row with
   | .normal,some (.d (.bool true)),some (.d (.sl (.own [] 0) (x::xr)))=>
    (qh9 r.2).bind fun y=>(qib (qac X) sf x xr).map fun q=> .agg [y.1,y.2,.sl U q]
   | .normal,some (.d (.bool false)),_| .normal,some (.d (.bool true)),some (.d (.sl _ []))=>
    (qau X T sf.rest r.2).bind fun r2=>
     match r2.1 with
     | .exit _=>none
     |_=>(qcU 0 r2.2 sf.results).bind fun q=>match q.1 with
      | .d v=>some v
      |_=>none
   |_,_,_=>none
theorem qzK(X:XEnv)(sf:SFn)(x:DV)(xr:List DV):∀r,qib (qac X) sf x xr=some r->∃n,qib (qbd X n) sf x xr=some r:=by
 intro r hr;unfold qib at hr⊢
 split at hr
 ·rename_i hc
  split at hr
  ·rename_i v cs hq
   obtain⟨n,hn⟩:=qck.1 hq;exact⟨n,by rw[if_pos hc,hn];exact hr⟩
  ·simp at hr
 ·simp at hr
theorem qmo{X:XEnv}{T:List Nat}{sf:SFn}{ds:List DV}{r:DV}:qnG X T sf ds=some r↔∃n,qjt (qbd X n) X.lin T n sf ds=some r:=by
 constructor
 ·intro hr
  unfold qnG at hr;split at hr
  ·simp at hr
  rename_i hlen;obtain⟨⟨e,s⟩,h1,h2⟩:=yb_.1 hr;obtain⟨n,hn⟩:=qaE.1 h1;have two:∀m,∀{q:Ex×XS},qbo (qbd X m) X.lin T m sf.rest s=some q->qbo (qbd X (Nat.max n m)) X.lin T (Nat.max n m) sf.rest s=some q:=fun m q hq=>qbw (qby X (Nat.le_max_right n m)) _ _ (Nat.le_max_right n m) _ _ _ hq
  have one:∀m,qbo (qbd X (Nat.max n m)) X.lin T (Nat.max n m) sf.pre ⟨qao 0 (ds.map .d),[]⟩=some (e,s):=fun m=>qbw (qby X (Nat.le_max_left n m)) _ _ (Nat.le_max_left n m) _ _ _ hn
  simp only at h2;split at h2
  ·rename_i x xr e1 e2
   obtain⟨y,h3,h4⟩:=yb_.1 h2;obtain⟨q,h5,h6⟩:=ya_.1 h4;obtain⟨m,hm⟩:=qzK X _ _ _ _ h5;refine⟨Nat.max n m,?_⟩;unfold qjt;rw[if_neg hlen,one m];simp only[Option.bind_some,e1,e2];exact yb_.2 ⟨y,h3,ya_.2 ⟨q,qia (qby X (Nat.le_max_right n m)) _ _ _ _ hm,h6⟩⟩
  ·rename_i e1
   obtain⟨q,h5,h6⟩:=yb_.1 h2;obtain⟨m,hm⟩:=qaE.1 h5;refine⟨Nat.max n m,?_⟩;unfold qjt;rw[if_neg hlen,one m];simp only[Option.bind_some,e1];exact yb_.2 ⟨q,two m hm,h6⟩
  ·rename_i g e1 e2
   obtain⟨q,h5,h6⟩:=yb_.1 h2;obtain⟨m,hm⟩:=qaE.1 h5;refine⟨Nat.max n m,?_⟩;unfold qjt;rw[if_neg hlen,one m];simp only[Option.bind_some,e1,e2];exact yb_.2 ⟨q,two m hm,h6⟩
  ·simp at h2
 ·rintro⟨n,hr⟩
  unfold qjt at hr;unfold qnG;split at hr
  ·simp at hr
  rename_i hlen;rw[if_neg hlen];obtain⟨⟨e,s⟩,h1,h2⟩:=yb_.1 hr;refine yb_.2 ⟨(e,s),qaE.2 ⟨n,h1⟩,?_⟩;simp only at h2⊢
  split at h2
  ·rename_i x xr e1 e2
   obtain⟨y,h3,h4⟩:=yb_.1 h2;obtain⟨q,h5,h6⟩:=ya_.1 h4
   try simp only[e1,e2]
   exact yb_.2 ⟨y,h3,ya_.2 ⟨q,qia (qoR X n) _ _ _ _ h5,h6⟩⟩
  ·rename_i e1
   obtain⟨q,h5,h6⟩:=yb_.1 h2
   try simp only[e1]
   exact yb_.2 ⟨q,qaE.2 ⟨n,h5⟩,h6⟩
  ·rename_i g e1 e2
   obtain⟨q,h5,h6⟩:=yb_.1 h2
   try simp only[e1,e2]
   exact yb_.2 ⟨q,qaE.2 ⟨n,h5⟩,h6⟩
  ·simp at h2
theorem qzl(X:XEnv)(f:Nat)(as:List AV)(B:qam)(sf:SFn)(hn:X.nat f=none)(hf:X.env.code f=none)(hs:X.env.spec f=some sf):
 qac X f as B=(qaF as).bind fun ds=>(qnG X (X.lin f) sf ds).map fun v=>(.d v,B):=by
 refine qek fun r=> ?_
 rw[qck];constructor
 ·rintro⟨n,h⟩
  cases n with
  |zero=>simp[qbd]at h
  |succ n=>
   rw[qbd]at h;simp only[hn,hf,hs]at h;obtain⟨ds,h1,h2⟩:=yb_.1 h;obtain⟨q,h3,h4⟩:=ya_.1 h2;exact yb_.2 ⟨ds,h1,ya_.2 ⟨q,qmo.2 ⟨n,h3⟩,h4⟩⟩
 ·intro h
  obtain⟨ds,h1,h2⟩:=yb_.1 h;obtain⟨q,h3,h4⟩:=ya_.1 h2;obtain⟨n,hk⟩:=qmo.1 h3;refine⟨n+1,?_⟩;rw[qbd];simp only[hn,hf,hs];exact yb_.2 ⟨ds,h1,ya_.2 ⟨q,hk,h4⟩⟩
theorem qHW{X:XEnv}(hX:XOK X){f:Nat}{xs vs:List DV}(hc:DV.clrs xs=xs)(hf:DV.fits xs vs){d:DV}{B':qam}(hd:d.clr=d)(h:qac X f (xs.map .d) []=some (.d d,B')):
 ∃u A Bv,qzn X.env [] f (vs.map .d) [] Ids.none=some ⟨.d u,A,Bv⟩/\d.fit u:=by
 obtain⟨n,hn⟩:=qck.1 h;have h0:AV.fits (xs.map .d) (vs.map .d):=AV.qjs hf;have hre:∀j,qcG (qao 0 (xs.map AV.d)) (qao 0 (vs.map AV.d)) j=[]:=by
  intro j;rw[qew];split
  ·rename_i a b ha hb
   have:=AV.qce ha hb;rw[AV.qlZ,<-hc,DV.qeo]at this;exact List.sublist_nil.1 this
  ·rfl
 have hloc:∀ℓ,qaj (qao 0 (xs.map AV.d)) [] (qao 0 (vs.map AV.d)) [] ℓ=[]:=by
  intro ℓ;cases ℓ with
  |reg t=>exact hre t
  |box j=>simp[qaj,qcT,qcx]
 obtain⟨v,Bv,A',h1,h2,_⟩:=qAL hX n f _ _ _ _ hn [] (vs.map .d) [] Ids.none (fun _=>False) h0 ⟨rfl,by simp⟩
  ⟨fun ℓ=>by rw[hloc];simp,fun ℓ ℓ' a ha=>by rw[hloc]at ha;simp at ha,fun ℓ a ha=>by rw[hloc]at ha;simp at ha,fun a ha=>by simp at ha⟩ (fun j _=>hre j) (fun a ha=>by simp[Ids.none]at ha)
 simp only[AV.fit]at h2;obtain⟨y,rfl,h3⟩:=h2;exact⟨y,A',Bv,qnh.2 ⟨n,h1⟩,h3⟩
def qLW(b:Option Bool)(c:qaB)(lin:Nat->List Nat)(T:List Nat)(d:Bool)(L:Nat)(o:VOper)(os:List VOper)(s:XS):Option XS:=
 match b with
 |some true=>(xOp c lin T d L o s).bind (qb9 c lin T d L os)
 |some false=>qb9 c lin T d L os (qbG T s o.dst .und)
 |none=>none
def qPK(r:Option XS)(c:qaB)(lin:Nat->List Nat)(T:List Nat)(d:Bool)(L:Nat)(os:List VOper):Option XS:=r.bind (qb9 c lin T d L os)
def qcQ(live:List Nat)(r:Option XS):Option (Ex×XS):=r.map fun s'=>(.normal,⟨keep s'.r live,s'.B⟩)
def quc(id:Nat)(r:Option (Ex×XS)):Option (Ex×XS):=r.map fun r=>if r.1= .exit id then(.normal,r.2)else r
noncomputable def qL1(v:Option AV)(X:XEnv)(T:List Nat)(a b:VCode)(s:XS):Option (Ex×XS):=
 match v with
 |some (.d (.bool true))=>qau X T a s
 |some (.d (.bool false))=>qau X T b s
 |_=>none
def qVc(L:Nat)(rs:List VRes)(r:Option (Ex×XS)):Option (AV×qam):=
 r.bind fun r=>match r.1 with
  | .exit _=>none
  |_=>qcU L r.2 rs
def qnx(T:List Nat)(s:XS)(dst:Option Nat)(v:Option AV):Option XS:=v.map fun v=>qbG T s dst v
def qeM(T:List Nat)(s:XS)(dst:Option Nat)(v:Option AV):Option XS:=v.map fun v=>qbG T s dst v.clr
def qFR(T:List Nat)(s:XS)(dst:Option Nat)(v:Option DV):Option XS:=v.map fun v=>qbG T s dst (.d v)
def qLI(T:List Nat)(s:XS)(dst:Option Nat)(B:Option qam):Option XS:=B.map fun B=>qbG T ⟨s.r,B⟩ dst .und
def qXk(T:List Nat)(dst:Option Nat)(s:XS)(v:Option (List DV)):Option XS:=v.map fun xs=>qbG T s dst (.d (.sl U xs))
def qPI(T:List Nat)(dst:Option Nat)(s:XS)(a b:VX)(v:Option AV):Option XS:=
 match v with
 |some (.d (.bool true))=>(qcn s.r a).map fun v=>qbG T (qd9 T dst s [a]) dst v
 |some (.d (.bool false))=>(qcn s.r b).map fun v=>qbG T (qd9 T dst s [b]) dst v
 |_=>none
def qXm(T:List Nat)(dst:Option Nat)(sz bytes:Nat)(x y:VX)(s:XS)(v w:Option AV):Option XS:=
 match v,w with
 |some (.d v),some (.d w)=>(qa7 sz bytes v w).map fun u=>qbG T ⟨qb2 T s.r (if qcF T dst then [x,y]else [x]),s.B⟩ dst (.d u)
 |_,_=>none
def qXl(T:List Nat)(L:Nat)(dst:Option Nat)(k:Nat)(x:VX)(s:XS)(v:Option AV):Option XS:=
 v.bind fun v=>if qcy s.B (L+k)/\v.cells.all AV.isCell/\v.safe (L+k)then some (qbG T ⟨qeP T s.r x,s.B.set (L+k) (some v.cells)⟩ dst (.ptr (L+k) 0))else none
def qVb(T:List Nat)(dst:Option Nat)(sz n:Nat)(g:Tag)(xs:List DV)(k:Nat)(s:XS)(e:Option DV):Option XS:=
 e.bind fun e=>if e.cells.length=sz/\sz≠0 then some (qbG T (if T.contains n then⟨(n,.d (.sl g (xs.set k e.clr)))::s.r,s.B⟩else s) dst (.ep e.cells))else none
def xTk(T:List Nat)(dst:Option Nat)(sz n:Nat)(s:XS)(v w:Option AV):Option XS:=
 match v,w with
 |some (.d (.sl g xs)),some (.d (.int _ k))=>if 0<=k then qVb T dst sz n g xs k.toNat s (xs[k.toNat]?)else none
 |_,_=>none
def qGu(T:List Nat)(d:Bool)(L:Nat)(dst:Option Nat)(agg:Bool)(sz:Nat)(x:VX)(s:XS)(a:Option AV):Option XS:=
 match a with
 |some (.ep cs)=>(cut agg sz cs).map fun v=>qbG T (qd9 T dst s [x]) dst (.d v)
 |some (.ptr b off)=>if d/\L<=b then none else(qak s.B agg sz b off).map fun v=>qbG T (if qcF T dst then⟨s.r,qfp s.B b off (if agg then sz else 1)⟩else s) dst v
 |_=>none
def qIX(T:List Nat)(d:Bool)(L:Nat)(dst:Option Nat)(init:Bool)(sz:Nat)(x:VX)(s:XS)(a v:Option AV):Option XS:=
 match a,v with
 |some (.ptr b off),some v=>if qbH d init L b then none else(qdj s.B sz b off v).map fun B=>qbG T ⟨qeP T s.r x,B⟩ dst .und
 |_,_=>none
def qAQ(T:List Nat)(d:Bool)(L:Nat)(dst:Option Nat)(sz:Nat)(x:VX)(av:List Nat)(s:XS)(a v:Option AV):Option XS:=
 match a,v with
 |some (.ptr b off),some v=>if qbH d false L b|| !qcL s.r b av then none else(qdj s.B sz b off v).map fun B=>qbG T ⟨qeP T s.r x,B⟩ dst .und
 |_,_=>none
def qYq(b:Nat):Option AV->Bool
 |some (.ptr b' _)=>b' !=b
 |_=>false
theorem qyM(r:List (Nat×AV))(b:Nat):qcL r b []=true:=_root_.id rfl
theorem qtD(r:List (Nat×AV))(b t:Nat)(av:List Nat):qcL r b (t::av)=(qYq b (lk r t)&&qcL r b av):=by
 unfold qcL;simp only[List.all_cons];congr 1
theorem qIj(b b' off:Nat):qYq b (some (.ptr b' off))=(b' !=b):=_root_.id rfl
def qPL(T:List Nat)(dst:Option Nat)(n i:Nat)(s:XS)(v:Option AV):Option XS:=
 match v with
 |some (.ag true vs)=>(vs[i]?).map fun v=>qbG T s dst v.clr
 |some (.d (.tup vs))=>(vs[i]?).map fun v=>qbG T (if qcF T dst&&T.contains n then⟨(n,.d (.tup (vs.set i v.clr)))::s.r,s.B⟩else s) dst (.d v)
 |_=>none
def xMk(T:List Nat)(d:Bool)(L:Nat)(dst:Option Nat)(k sz bytes:Nat)(z:DV)(s:XS)(v:Option AV):Option XS:=
 match v with
 |some (.d (.int _ n))=>
  if d=false/\qcy s.B (L+k)/\0<=n/\n.toNat*bytes<=140737488355328/\n<9223372036854775808/\z.cells.length=sz/\z.cells.all DV.isCell then
   some (qbG T ⟨s.r,s.B.set (L+k) (some (((List.replicate n.toNat z.cn).flatMap DV.cells).map .d))⟩ dst (.bsl [] (isAgg z) (L+k) sz n.toNat))else none
 |_=>none
def qUD(c:qaB)(T:List Nat)(dst:Option Nat)(s:XS)(f:Option AV)(vs:Option (List AV)):Option XS:=
 match f,vs with
 |some (.fn k caps),some vs=>
  match qaF vs,caps with
  |some _,[]=>
   match c k (qcq [] 0 vs) []with
   |some (.d v,_)=>some (qbG T s dst (.d v))
   |_=>none
  |_,_=>none
 |_,_=>none
def qLY(T:List Nat)(dst:Option Nat)(s:XS)(ds:Option (List DV))(r:Option (AV×qam)):Option XS:=
 match ds with
 |some _=>
  match r with
  |some (.d v,_)=>some (qbG T s dst (.d v))
  |_=>none
 |none=>none
def xN2(T:List Nat)(dst:Option Nat)(s:XS)(xs:List VX)(b:Bool)(r:Option (AV×qam)):Option XS:=
 if b then
  match r with
  |some (v,B)=>some (qbG T ⟨qb2 T s.r xs,B⟩ dst v)
  |none=>none
 else none
def xN(c:qaB)(lin:Nat->List Nat)(T:List Nat)(dst:Option Nat)(s:XS)(args:List VX)(f:Option AV)(vs:Option (List AV)):Option XS:=
 match f,vs with
 |some (.fn k caps),some vs=>xN2 T dst s (qbg (lin k) 0 args) (qat T (qbg (lin k) 0 args)) (c k (qcq (lin k) 0 vs++caps) s.B)
 |_,_=>none
def xT2(T:List Nat)(dst:Option Nat)(thaw:Bool)(s:XS)(r:Option (AV×qam)):Option XS:=
 match r with
 |some (.d v,_)=>qeQ T thaw s dst v
 |_=>none
def xT1(c:qaB)(T:List Nat)(dst:Option Nat)(thaw:Bool)(s:XS)(k:Nat)(ds:Option (List DV)):Option XS:=ds.bind fun ds=>xT2 T dst thaw s (c k (qcq [] 0 (ds.map .d)) [])
def xT(c:qaB)(T:List Nat)(d:Bool)(dst:Option Nat)(thaw:Bool)(s:XS)(f:Option AV)(vs:Option (List AV)):Option XS:=
 match f,vs with
 |some (.fn k []),some vs=>if d=false\/thaw=false then xT1 c T dst thaw s k (qji (AV.frz s.B) vs)else none
 |_,_=>none
def qYp(d:Option DV)(ds:Option (List DV)):Option (List DV):=d.bind fun d=>ds.map (d::·)
def qEO(v:Option AV)(vs:Option (List AV)):Option (List AV):=match v,vs with|some v,some vs=>some (v::vs)|_,_=>none
def qtR(v:DV)(vs:Option (List DV)):Option (List DV):=vs.map (v::·)
def dO(a:Option DV):Option AV:=a.map .d
def qUJ(v:Option AV):Option AV:=match v with|some (.ptr i o)=>some (.ptr i o)|some (.ep cs)=>some (.ep cs)|some (.fn f c)=>some (.fn f c)|_=>none
def qYt(op:BinOp)(x y:Option AV):Option AV:=match x,y with|some (.d a),some (.d b)=>(qeG op a b).map .d|_,_=>none
def qEu(neg:Bool)(ks:List Nat)(x y:Option AV):Option AV:=match x,y with|some (.d (.agg a)),some (.d (.agg b))=>(qbv ks a b).map fun e=> .d (.bool (if neg then !e else e))|_,_=>none
def qYs(neg:Bool)(x y:Option AV):Option AV:=match x,y with|some (.d (.bool a)),some (.d (.bool b))=>some (.d (.bool (if neg then !(a==b)else(a==b))))|_,_=>none
def qYr(x:Option AV):Option AV:=match x with|some (.d (.bool b))=>some (.d (.bool !b))|_=>none
def qT6(k:IntKind)(x:Option AV):Option AV:=match x with|some (.d (.int _ n))=>some (.d (.int k (k.wrap n)))|_=>none
def qT5(x:Option AV):Option AV:=match x with|some (.d (.int _ n))=>some (.d (.str (Utf8.encode n)))|_=>none
def qLf(x:Option AV):Option AV:=match x with|some (.d (.sl _ xs))=>(bytesOf xs).map fun bs=> .d (.str ⟨bs.toArray⟩)|_=>none
def qLe(x i:Option AV):Option AV:=match x,i with|some (.d (.str s)),some (.d (.int _ n))=>if 0<=n then(qlH s n.toNat).map fun b=> .d (.int .u8 b)else none|_,_=>none
def qEw(sz:Nat)(x i:Option AV):Option AV:=
 match x,i with
 |some (.d (.sl _ xs)),some (.d (.int _ n))=>if 0<=n then(xs[n.toNat]?).bind fun e=>if e.cells.length=sz/\sz≠0 then some (.ep e.cells)else none else none
 |some (.bsl _ _ b sz' m),some (.d (.int _ n))=>if sz'=sz/\0<=n/\n<m then some (.ptr b (n.toNat*sz))else none
 |some (.tsl _ b sz' m),some (.d (.int _ n))=>if sz'=sz/\0<=n/\n<m then some (.ptr b (n.toNat*sz))else none
 |_,_=>none
def qOr(sz:Nat)(e:Option DV):Option AV:=e.bind fun e=>if e.cells.length=sz/\sz≠0 then some (.ep e.cells)else none
def qXb(sz m:Nat)(x i:Option AV):Option AV:=
 match x,i with
 |some (.ptr b o),some (.d (.int _ n))=>if 0<=n/\n<m then some (.ptr b (o+n.toNat*sz))else none
 |some (.ep cs),some (.d (.int _ n))=>if 0<=n/\n<m/\n.toNat*sz<=cs.length then some (.ep (cs.drop (n.toNat*sz)))else none
 |_,_=>none
def qEt(off:Nat)(x:Option AV):Option AV:=match x with|some (.ptr b o)=>some (.ptr b (o+off))|some (.ep cs)=>if off<=cs.length then some (.ep (cs.drop off))else none|_=>none
def qPh(str:Bool)(x:Option AV):Option AV:=
 match str,x with
 |true,some (.d (.str s))=>some (.d (.int .i64 s.size))
 |false,some (.d (.sl _ xs))=>some (.d (.int .i64 xs.length))
 |false,some (.bsl _ _ _ _ n)=>some (.d (.int .i64 n))
 |false,some (.tsl _ _ _ n)=>some (.d (.int .i64 n))
 |_,_=>none
def qw0(str:Bool)(sz:Nat)(x:Option AV)(lo hi:Option (Option AV)):Option AV:=
 match str,x,lo,hi with
 |true,some (.d (.str s)),some lo,some hi=>(qbV s.size hi).bind fun h=>(qbU h lo).map fun l=> .d (.str (s.extract l h))
 |false,some (.d (.sl g xs)),some lo,some hi=>if xs.all (fun e=>e.cells.length=sz)then(qbV xs.length hi).bind fun h=>(qbU h lo).map fun l=> .d (.sl (if g= .nil then .nil else .sub) ((xs.take h).drop l))else none
 |_,_,_,_=>none
def qEv(g:VX->Option AV)(cs:List DV)(off size:Nat)(r:List (Nat×Nat×VX))(v:Option AV):Option (List DV):=
 match v with
 |some (.d v)=>if v.cells.length=size/\off+size<=cs.length/\v.cells.all DV.isCell then qaH g (splice cs off v.cells) r else none
 |_=>none
def qXa(g:VX->Option AV)(sz:Nat)(cs:List DV)(i:Nat)(r:List (Nat×VX))(v:Option AV):Option (List DV):=
 match v with
 |some (.d v)=>if v.cells.length=sz/\i<cs.length/\v.cells.all DV.isCell then qaV g sz (cs.set i v) r else none
 |_=>none
theorem qUV(c:qaB)(lin:Nat->List Nat)(T:List Nat)(d:Bool)(L:Nat)(o:VOper)(os:List VOper)(s:XS):qb9 c lin T d L (o::os) s=qLW (qcE s.r o.guard) c lin T d L o os s:=_root_.id rfl
theorem qUX(c:qaB)(lin:Nat->List Nat)(T:List Nat)(d:Bool)(L:Nat)(s:XS):qb9 c lin T d L [] s=some s:=_root_.id rfl
theorem qPm(c:qaB)(lin:Nat->List Nat)(T:List Nat)(d:Bool)(L:Nat)(o:VOper)(os:List VOper)(s:XS):qLW (some true) c lin T d L o os s=qPK (xOp c lin T d L o s) c lin T d L os:=_root_.id rfl
theorem qLw(c:qaB)(lin:Nat->List Nat)(T:List Nat)(d:Bool)(L:Nat)(o:VOper)(os:List VOper)(s:XS):qLW (some false) c lin T d L o os s=qb9 c lin T d L os (qbG T s o.dst .und):=_root_.id rfl
theorem qPq(s:XS)(c:qaB)(lin:Nat->List Nat)(T:List Nat)(d:Bool)(L:Nat)(os:List VOper):qPK (some s) c lin T d L os=qb9 c lin T d L os s:=_root_.id rfl
theorem qFJ(X:XEnv)(T:List Nat)(na:Nat)(live:List Nat)(ops:List VOper)(r:List (Nat×AV))(B:qam):
 qau X T (.region false na live ops) ⟨r,B⟩=qcQ live (qb9 (qac X) X.lin T false B.length ops ⟨r,B++List.replicate na none⟩):=by
 rw[qjm];simp[qd1,qcQ,Function.comp_def]
theorem qaN(X:XEnv)(T:List Nat)(na:Nat)(live:List Nat)(ops:List VOper)(h:qlA ops=true)(r:List (Nat×AV))(B:qam):
 qau X T (.region true na live ops) ⟨r,B⟩=qcQ live (qb9 (qac X) X.lin T true B.length ops ⟨r,B++List.replicate na none⟩):=by
 rw[qjm];simp[qd1,qcQ,Function.comp_def,h]
theorem qU1(live:List Nat)(r:List (Nat×AV))(B:qam):qcQ live (some ⟨r,B⟩)=some (.normal,⟨keep r live,B⟩):=_root_.id rfl
theorem qLC(X:XEnv)(T:List Nat)(id:Nat)(c:VCode)(s:XS):qau X T (.block id c) s=quc id (qau X T c s):=qtV X T id c s
theorem qzF(id:Nat)(e:Ex)(s:XS):quc id (some (e,s))=some (if e= .exit id then(.normal,s)else(e,s)):=_root_.id rfl
theorem qPw(X:XEnv)(T:List Nat)(x:VX)(a b:VCode)(s:XS):qau X T (.cond x a b) s=qL1 (qcn s.r x) X T a b s:=by rw[qy9];rfl
theorem qLz(X:XEnv)(T:List Nat)(a b:VCode)(s:XS):qL1 (some (.d (.bool true))) X T a b s=qau X T a s:=_root_.id rfl
theorem qFK(X:XEnv)(T:List Nat)(a b:VCode)(s:XS):qL1 (some (.d (.bool false))) X T a b s=qau X T b s:=_root_.id rfl
theorem qah(X:XEnv)(f:Nat)(as:List AV)(B:qam)(vf:VFn)(hn:X.nat f=none)(hf:X.env.code f=some vf)(hnp:as.length=vf.np):
 qac X f as B=qVc B.length vf.results (qau X (X.lin f) vf.code ⟨qao 0 as,B⟩):=qzm X f as B vf hn hf hnp
theorem qUT(L:Nat)(rs:List VRes)(s:XS):qVc L rs (some (.ret,s))=qcU L s rs:=_root_.id rfl
theorem qPp(L:Nat)(rs:List VRes)(s:XS):qVc L rs (some (.normal,s))=qcU L s rs:=_root_.id rfl
theorem qph(s:XS)(k:XS->Option (Ex×XS)):qpi (some (.normal,s)) k=k s:=_root_.id rfl
theorem qAP(s:XS)(k:XS->Option (Ex×XS)):qpi (some (.ret,s)) k=some (.ret,s):=_root_.id rfl
theorem qxG(id:Nat)(s:XS)(k:XS->Option (Ex×XS)):qpi (some (.exit id,s)) k=some (.exit id,s):=_root_.id rfl
section
variable (c:qaB) (lin:Nat->List Nat) (T:List Nat) (d:Bool) (L:Nat) (dst:Option Nat) (g:Option (Nat×Bool)) (af:List Nat) (s:XS)
theorem qPr(x:VX):xOp c lin T d L ⟨dst,.move x,g,af⟩ s=qnx T (qd9 T dst s [x]) dst (qcn s.r x):=_root_.id rfl
theorem qLB(z:List DV)(ps:List (Nat×Nat×VX)):xOp c lin T d L ⟨dst,.build z ps,g,af⟩ s=qnx T (qd9 T dst s (ps.map fun q=>q.2.2)) dst ((qaH (qcn s.r) (z.map DV.cn1) ps).map fun cs=> .d (.agg cs)):=by
 simp only[xOp,qnx,Option.map_map];rfl
theorem qxw(x:VX):xOp c lin T d L ⟨dst,.nilCheck x,g,af⟩ s=qeM T s dst (evP s.r (.nilCheck x)):=_root_.id rfl
theorem qU3(op:BinOp)(x y:VX):xOp c lin T d L ⟨dst,.bin op x y,g,af⟩ s=qeM T s dst (evP s.r (.bin op x y)):=_root_.id rfl
theorem qLx(neg:Bool)(ks:List Nat)(x y:VX):xOp c lin T d L ⟨dst,.eqAgg neg ks x y,g,af⟩ s=qeM T s dst (evP s.r (.eqAgg neg ks x y)):=_root_.id rfl
theorem qU0(neg:Bool)(x y:VX):xOp c lin T d L ⟨dst,.eqB neg x y,g,af⟩ s=qeM T s dst (evP s.r (.eqB neg x y)):=_root_.id rfl
theorem qUW(x:VX):xOp c lin T d L ⟨dst,.not x,g,af⟩ s=qeM T s dst (evP s.r (.not x)):=_root_.id rfl
theorem qPv(k:Conv)(x:VX):xOp c lin T d L ⟨dst,.conv k x,g,af⟩ s=qeM T s dst (evP s.r (.conv k x)):=_root_.id rfl
theorem qLv(x y:VX):xOp c lin T d L ⟨dst,.index x y,g,af⟩ s=qeM T s dst (evP s.r (.index x y)):=_root_.id rfl
theorem qrS(sz:Nat)(n:Nat)(y:VX):xOp c lin T d L ⟨dst,.indexAddr sz none (.t n) y,g,af⟩ s=if qcF T dst then xTk T dst sz n s (lk s.r n) (qcn s.r y)else qeM T s dst (evP s.r (.indexAddr sz none (.t n) y)):=by
 simp only[xOp,qeu];cases hl:qcF T dst with
 |true=>rfl
 |false=>rfl
theorem qpa(sz m:Nat)(x y:VX):xOp c lin T d L ⟨dst,.indexAddr sz (some m) x y,g,af⟩ s=qeM T s dst (evP s.r (.indexAddr sz (some m) x y)):=by
 simp only[xOp,qeu];cases hl:qcF T dst<;>cases x<;>rfl
theorem qo9(sz:Nat)(v:AV)(y:VX):xOp c lin T d L ⟨dst,.indexAddr sz none (.c v) y,g,af⟩ s=qeM T s dst (evP s.r (.indexAddr sz none (.c v) y)):=by
 simp only[xOp,qeu];cases hl:qcF T dst<;>rfl
theorem qrT(off:Nat)(x:VX):xOp c lin T d L ⟨dst,.fieldAddr off x,g,af⟩ s=qeM T s dst (evP s.r (.fieldAddr off x)):=_root_.id rfl
theorem qLt(str:Bool)(sz:Nat)(x:VX)(lo hi:Option VX):xOp c lin T d L ⟨dst,.slice str sz x lo hi,g,af⟩ s=qeM T s dst (evP s.r (.slice str sz x lo hi)):=_root_.id rfl
theorem qxx(f:Nat)(cs:List VX):xOp c lin T d L ⟨dst,.makeFunc f cs,g,af⟩ s=qeM T s dst (evP s.r (.makeFunc f cs)):=_root_.id rfl
theorem qUY(str:Bool)(x:VX):xOp c lin T d L ⟨dst,.len str x,g,af⟩ s=qeM T s dst (evP s.r (.len str x)):=_root_.id rfl
theorem qPn(v:AV):qeM T s dst (some v)=some (qbG T s dst v.clr):=_root_.id rfl
theorem qUU(v:AV):qnx T s dst (some v)=some (qbG T s dst v):=_root_.id rfl
theorem qPl(r:List (Nat×AV))(B:qam)(n:Nat)(v:AV):qbG T ⟨r,B⟩ (some n) v=⟨(n,if T.contains n then v else v.clr)::r,B⟩:=_root_.id rfl
theorem qrQ(v:AV):qbG T s none v=s:=_root_.id rfl
theorem qPt(r:List (Nat×AV))(B:qam)(xs:List VX):qd9 T dst ⟨r,B⟩ xs=if qcF T dst then⟨qb2 T r xs,B⟩else⟨r,B⟩:=_root_.id rfl
theorem qLD(k:Nat)(z:List DV):xOp c lin T d L ⟨dst,.alloc k z,g,af⟩ s=if qcy s.B (L+k)/\z.all DV.isCell then some (qbG T ⟨s.r,s.B.set (L+k) (some (z.map fun z=> .d z.cn1))⟩ dst (.ptr (L+k) 0))else none:=_root_.id rfl
theorem qFM(z:List DV):xOp c lin T d L ⟨dst,.allocE z,g,af⟩ s=if d=false/\z.all DV.isCell then some (qbG T ⟨s.r,s.B++[some (z.map fun z=>AV.d z.cn1)]⟩ dst (.ptr s.B.length 0))else none:=_root_.id rfl
theorem qPo(x a b:VX):xOp c lin T d L ⟨dst,.pick x a b,g,af⟩ s=qPI T dst s a b (qcn s.r x):=_root_.id rfl
theorem qFL(sz bytes:Nat)(x y:VX):xOp c lin T d L ⟨dst,.append sz bytes x y,g,af⟩ s=qXm T dst sz bytes x y s (qcn s.r x) (qcn s.r y):=_root_.id rfl
theorem qU2(k:Nat)(x:VX):xOp c lin T d L ⟨dst,.box k x,g,af⟩ s=qXl T L dst k x s (qcn s.r x):=_root_.id rfl
theorem qPs(agg:Bool)(sz:Nat)(a:VX):xOp c lin T d L ⟨dst,.load agg sz a,g,af⟩ s=qGu T d L dst agg sz a s (qcn s.r a):=_root_.id rfl
theorem qFI(sz:Nat)(a x:VX)(av:List Nat):xOp c lin T d L ⟨dst,.storeN sz a x av,g,af⟩ s=qAQ T d L dst sz x av s (qcn s.r a) (qcn s.r x):=_root_.id rfl
theorem qLs(init:Bool)(sz:Nat)(a x:VX):xOp c lin T d L ⟨dst,.store init sz a x,g,af⟩ s=qIX T d L dst init sz x s (qcn s.r a) (qcn s.r x):=_root_.id rfl
theorem qzH(n i:Nat):xOp c lin T d L ⟨dst,.extract (.t n) i,g,af⟩ s=qPL T dst n i s (lk s.r n):=_root_.id rfl
theorem qrR(k sz bytes:Nat)(z:DV)(x:VX):xOp c lin T d L ⟨dst,.makeSlice k sz bytes z x,g,af⟩ s=xMk T d L dst k sz bytes z s (qcn s.r x):=_root_.id rfl
theorem qpb(sz:Nat)(z:DV)(len:Nat)(ps:List (Nat×VX)):xOp c lin T d L ⟨dst,.buildSlice sz z len ps,g,af⟩ s=if z.cells.length=sz/\z.cells.all DV.isCell/\len*sz<=16777216/\len<=16777216 then qXk T dst (qd9 T dst s (ps.map fun q=>q.2)) (qaV (qcn s.r) sz (List.replicate len z.cn) ps)else none:=_root_.id rfl
theorem qUZ(f:VX)(args:List VX):xOp c lin T d L ⟨dst,.call true f args,g,af⟩ s=qUD c T dst s (qcn s.r f) (qfJ s.r args):=by
 simp only[xOp,qUD,if_true]<;>rfl
theorem qLu(f:VX)(args:List VX):xOp c lin T d L ⟨dst,.call false f args,g,af⟩ s=xN c lin T dst s args (qcn s.r f) (qfJ s.r args):=by
 simp only[xOp,xN,xN2,Bool.false_eq_true,if_false]<;>rfl
theorem qLA(th:Bool)(f:VX)(args:List VX):xOp c lin T d L ⟨dst,.callT th f args,g,af⟩ s=xT c T d dst th s (qcn s.r f) (qfJ s.r args):=by
 simp only[xOp,xT,xT1];cases h1:qcn s.r f with
 |none=>rfl
 |some a=>
  cases a with
  |fn k caps=>
   cases caps with
   |nil=>
    cases h2:qfJ s.r args with
    |none=>rfl
    |some vs=>
     simp only;split
     ·cases qji (AV.frz s.B) vs with
      |none=>rfl
      |some ds=>
       show(match c k (qcq [] 0 (ds.map .d)) []with|some (.d v,_)=>qeQ T th s dst v|_=>none)=xT2 T dst th s (c k (qcq [] 0 (ds.map .d)) []);generalize c k (qcq [] 0 (ds.map .d)) []=q;cases q with
       |none=>rfl
       |some q=>obtain⟨v,B⟩:=q;cases v<;>rfl
     ·rfl
   |cons _ _=>cases qfJ s.r args<;>rfl
  |_=>cases qfJ s.r args<;>rfl
theorem w_T(k:Nat)(th:Bool)(vs:List AV):xT c T false dst th s (some (.fn k [])) (some vs)=xT1 c T dst th s k (qji (AV.frz s.B) vs):=by simp only[xT,true_or,if_true]
theorem qYF(k:Nat)(vs:List AV):xT c T true dst false s (some (.fn k [])) (some vs)=xT1 c T dst false s k (qji (AV.frz s.B) vs):=by simp only[xT,or_true,if_true]
theorem qYH(k:Nat)(th:Bool)(ds:List DV):xT1 c T dst th s k (some ds)=xT2 T dst th s (c k (qcq [] 0 (ds.map .d)) []):=_root_.id rfl
theorem qYG(th:Bool)(v:DV)(B:qam):xT2 T dst th s (some (.d v,B))=qeQ T th s dst v:=_root_.id rfl
theorem qPV(v:DV):qeQ T false s dst v=if v.allUT then some (qbG T s dst (.d v))else none:=by simp[qeQ]
theorem qPU(r:List (Nat×AV))(B:qam)(v:DV):qeQ T true ⟨r,B⟩ dst v=if v.allUT then some (qbG T ⟨r,B++(v.clr.thaw B.length).2⟩ dst (v.clr.thaw B.length).1)else none:=by simp[qeQ]
theorem qPQ(a b:VX)(v:Bool):qPI T dst s a b (some (.d (.bool v)))=if v then qnx T (qd9 T dst s [a]) dst (qcn s.r a)else qnx T (qd9 T dst s [b]) dst (qcn s.r b):=by cases v<;>rfl
theorem qVk(sz bytes:Nat)(x y:VX)(v w:DV):qXm T dst sz bytes x y s (some (.d v)) (some (.d w))=qFR T ⟨qb2 T s.r (if qcF T dst then [x,y]else [x]),s.B⟩ dst (qa7 sz bytes v w):=_root_.id rfl
theorem qVj(k:Nat)(x:VX)(v:AV):qXl T L dst k x s (some v)=if qcy s.B (L+k)/\v.cells.all AV.isCell/\v.safe (L+k)then some (qbG T ⟨qeP T s.r x,s.B.set (L+k) (some v.cells)⟩ dst (.ptr (L+k) 0))else none:=_root_.id rfl
theorem qAU(agg:Bool)(sz:Nat)(x:VX)(cs:List DV):qGu T d L dst agg sz x s (some (.ep cs))=if qcF T dst then qnx T (qd9 T dst s [x]) dst ((cut agg sz cs).map .d)else qeM T s dst ((cut agg sz cs).map .d):=by
 simp only[qGu,qeM,qnx,Option.map_map];cases hl:qcF T dst with
 |true=>rfl
 |false=>
  simp only[Bool.false_eq_true,if_false];cases cut agg sz cs with
  |none=>rfl
  |some v=>
   simp only[Option.map_some,Function.comp,qd9,hl,Bool.false_eq_true,if_false];cases dst with
   |none=>rfl
   |some n=>
    simp only[qcF]at hl;simp only[qbG,hl,Bool.false_eq_true,if_false,AV.clr,DV.qgV]
theorem qYC(sz n:Nat)(g:Tag)(xs:List DV)(kd:IntKind)(k:Int):xTk T dst sz n s (some (.d (.sl g xs))) (some (.d (.int kd k)))=if 0<=k then qVb T dst sz n g xs k.toNat s (xs[k.toNat]?)else none:=_root_.id rfl
theorem qVf(sz n:Nat)(g:Tag)(xs:List DV)(k:Nat)(e:DV):qVb T dst sz n g xs k s (some e)=if e.cells.length=sz/\sz≠0 then some (qbG T (if T.contains n then⟨(n,.d (.sl g (xs.set k e.clr)))::s.r,s.B⟩else s) dst (.ep e.cells))else none:=_root_.id rfl
theorem qPR(agg:Bool)(sz b off:Nat)(x:VX):qGu T d L dst agg sz x s (some (.ptr b off))=if d/\L<=b then none else qnx T (if qcF T dst then⟨s.r,qfp s.B b off (if agg then sz else 1)⟩else s) dst (qak s.B agg sz b off):=_root_.id rfl
theorem qGw(sz:Nat)(x:VX)(av:List Nat)(b off:Nat)(v:AV):qAQ T d L dst sz x av s (some (.ptr b off)) (some v)=if qbH d false L b|| !qcL s.r b av then none else qLI T ⟨qeP T s.r x,s.B⟩ dst (qdj s.B sz b off v):=_root_.id rfl
theorem qL3(init:Bool)(sz:Nat)(x:VX)(b off:Nat)(v:AV):qIX T d L dst init sz x s (some (.ptr b off)) (some v)=if qbH d init L b then none else qLI T ⟨qeP T s.r x,s.B⟩ dst (qdj s.B sz b off v):=_root_.id rfl
theorem qPO(r:List (Nat×AV))(B B':qam):qLI T ⟨r,B⟩ dst (some B')=some (qbG T ⟨r,B'⟩ dst .und):=_root_.id rfl
theorem qVi(n i:Nat)(vs:List DV):qPL T dst n i s (some (.d (.tup vs)))=qFR T (if qcF T dst&&T.contains n then⟨(n,.d (.tup (vs.set i ((vs[i]?).getD (.bool false)).clr)))::s.r,s.B⟩else s) dst (vs[i]?):=by
 simp only[qPL,qFR];cases hv:vs[i]? with
 |none=>rfl
 |some v=>simp
theorem qPT(n i:Nat)(vs:List AV):qPL T dst n i s (some (.ag true vs))=qeM T s dst (vs[i]?):=by
 simp only[qPL,qeM]
theorem qYE(k sz bytes:Nat)(z:DV)(kk:IntKind)(n:Int):xMk T d L dst k sz bytes z s (some (.d (.int kk n)))=if d=false/\qcy s.B (L+k)/\0<=n/\n.toNat*bytes<=140737488355328/\n<9223372036854775808/\z.cells.length=sz/\z.cells.all DV.isCell then
 some (qbG T ⟨s.r,s.B.set (L+k) (some (((List.replicate n.toNat z.cn).flatMap DV.cells).map .d))⟩ dst (.bsl [] (isAgg z) (L+k) sz n.toNat))else none:=_root_.id rfl
theorem qVg(xs:List DV):qXk T dst s (some xs)=some (qbG T s dst (.d (.sl U xs))):=_root_.id rfl
theorem qVh(k:Nat)(vs:List AV):qUD c T dst s (some (.fn k [])) (some vs)=qLY T dst s (qaF vs) (c k (qcq [] 0 vs) []):=by
 simp only[qUD,qLY];cases qaF vs<;>rfl
theorem qPS(ds:List DV)(v:DV)(B:qam):qLY T dst s (some ds) (some (.d v,B))=some (qbG T s dst (.d v)):=_root_.id rfl
theorem w_n(args:List VX)(k:Nat)(caps vs:List AV):xN c lin T dst s args (some (.fn k caps)) (some vs)=xN2 T dst s (qbg (lin k) 0 args) (qat T (qbg (lin k) 0 args)) (c k (qcq (lin k) 0 vs++caps) s.B):=_root_.id rfl
theorem qYD(xs:List VX)(r:List (Nat×AV))(B0:qam)(v:AV)(B:qam):xN2 T dst ⟨r,B0⟩ xs true (some (v,B))=some (qbG T ⟨qb2 T r xs,B⟩ dst v):=_root_.id rfl
theorem qPP(v:DV):qFR T s dst (some v)=some (qbG T s dst (.d v)):=_root_.id rfl
end
theorem qma(r:List (Nat×AV))(x:VX):evP r (.nilCheck x)=qUJ (x.get r):=_root_.id rfl
theorem qW9(r:List (Nat×AV))(op:BinOp)(x y:VX):evP r (.bin op x y)=qYt op (x.get r) (y.get r):=_root_.id rfl
theorem qOo(r:List (Nat×AV))(neg:Bool)(ks:List Nat)(x y:VX):evP r (.eqAgg neg ks x y)=qEu neg ks (x.get r) (y.get r):=_root_.id rfl
theorem qW8(r:List (Nat×AV))(neg:Bool)(x y:VX):evP r (.eqB neg x y)=qYs neg (x.get r) (y.get r):=_root_.id rfl
theorem qW6(r:List (Nat×AV))(x:VX):evP r (.not x)=qYr (x.get r):=_root_.id rfl
theorem qT4(r:List (Nat×AV))(k:IntKind)(x:VX):evP r (.conv (.kind k) x)=qT6 k (x.get r):=_root_.id rfl
theorem qT3(r:List (Nat×AV))(x:VX):evP r (.conv .rune x)=qT5 (x.get r):=_root_.id rfl
theorem qOq(r:List (Nat×AV))(x:VX):evP r (.conv .bytes x)=qLf (x.get r):=_root_.id rfl
theorem qOn(r:List (Nat×AV))(x y:VX):evP r (.index x y)=qLe (x.get r) (y.get r):=_root_.id rfl
theorem qtK(r:List (Nat×AV))(sz:Nat)(x y:VX):evP r (.indexAddr sz none x y)=qEw sz (x.get r) (y.get r):=_root_.id rfl
theorem qyV(r:List (Nat×AV))(sz m:Nat)(x y:VX):evP r (.indexAddr sz (some m) x y)=qXb sz m (x.get r) (y.get r):=_root_.id rfl
theorem qtL(r:List (Nat×AV))(off:Nat)(x:VX):evP r (.fieldAddr off x)=qEt off (x.get r):=_root_.id rfl
theorem qyU(r:List (Nat×AV))(f:Nat)(cs:List VX):evP r (.makeFunc f cs)=(qgx r cs).map fun vs=> .fn f vs:=_root_.id rfl
theorem qW7(r:List (Nat×AV))(str:Bool)(x:VX):evP r (.len str x)=qPh str (x.get r):=by
 cases str<;>simp only[evP,qPh]<;>(cases h:x.get r with
  |none=>rfl
  |some v=>cases v with
   |d w=>cases w<;>rfl
   |_=>rfl)
theorem qOm(r:List (Nat×AV))(str:Bool)(sz:Nat)(x:VX)(lo hi:Option VX):evP r (.slice str sz x lo hi)=qw0 str sz (x.get r) (qhE r lo) (qhE r hi):=by
 cases str<;>simp only[evP,qw0]<;>(cases h:x.get r with
  |none=>rfl
  |some v=>cases v with
   |d w=>cases w<;>cases qhE r lo<;>cases qhE r hi<;>rfl
   |_=>rfl)
theorem qTQ(i o:Nat):qUJ (some (.ptr i o))=some (.ptr i o):=_root_.id rfl
theorem qTP(cs:List DV):qUJ (some (.ep cs))=some (.ep cs):=_root_.id rfl
theorem qTO(f:Nat)(c:List AV):qUJ (some (.fn f c))=some (.fn f c):=_root_.id rfl
theorem qW4(op:BinOp)(a b:DV):qYt op (some (.d a)) (some (.d b))=dO (qeG op a b):=_root_.id rfl
theorem qY0(a:DV):dO (some a)=some (.d a):=_root_.id rfl
theorem qOg(neg:Bool)(ks:List Nat)(a b:List DV):qEu neg ks (some (.d (.agg a))) (some (.d (.agg b)))=(qbv ks a b).map fun e=> .d (.bool (if neg then !e else e)):=_root_.id rfl
theorem qW3(neg:Bool)(a b:Bool):qYs neg (some (.d (.bool a))) (some (.d (.bool b)))=some (.d (.bool (if neg then !(a==b)else(a==b)))):=_root_.id rfl
theorem qW1(b:Bool):qYr (some (.d (.bool b)))=some (.d (.bool !b)):=_root_.id rfl
theorem qTV(k k':IntKind)(n:Int):qT6 k (some (.d (.int k' n)))=some (.d (.int k (k.wrap n))):=_root_.id rfl
theorem qTN(k':IntKind)(n:Int):qT5 (some (.d (.int k' n)))=some (.d (.str (Utf8.encode n))):=_root_.id rfl
theorem qOi(g:Tag)(xs:List DV):qLf (some (.d (.sl g xs)))=(bytesOf xs).map fun bs=> .d (.str ⟨bs.toArray⟩):=_root_.id rfl
theorem qOe(s:ByteArray)(k:IntKind)(n:Int):qLe (some (.d (.str s))) (some (.d (.int k n)))=if 0<=n then(qlH s n.toNat).map fun b=> .d (.int .u8 b)else none:=_root_.id rfl
theorem qTX(sz:Nat)(g:Tag)(xs:List DV)(k:IntKind)(n:Int):qEw sz (some (.d (.sl g xs))) (some (.d (.int k n)))=if 0<=n then qOr sz (xs[n.toNat]?)else none:=by
 simp only[qEw,qOr]
theorem qTU(sz:Nat)(e:DV):qOr sz (some e)=if e.cells.length=sz/\sz≠0 then some (.ep e.cells)else none:=_root_.id rfl
theorem qOk(sz:Nat)(id:Id)(a:Bool)(b s' m:Nat)(k:IntKind)(n:Int):qEw sz (some (.bsl id a b s' m)) (some (.d (.int k n)))=if s'=sz/\0<=n/\n<m then some (.ptr b (n.toNat*sz))else none:=_root_.id rfl
theorem qOj(sz:Nat)(a:Bool)(b s' m:Nat)(k:IntKind)(n:Int):qEw sz (some (.tsl a b s' m)) (some (.d (.int k n)))=if s'=sz/\0<=n/\n<m then some (.ptr b (n.toNat*sz))else none:=_root_.id rfl
theorem qW5(sz m b o:Nat)(k:IntKind)(n:Int):qXb sz m (some (.ptr b o)) (some (.d (.int k n)))=if 0<=n/\n<m then some (.ptr b (o+n.toNat*sz))else none:=_root_.id rfl
theorem qTW(sz m:Nat)(cs:List DV)(k:IntKind)(n:Int):qXb sz m (some (.ep cs)) (some (.d (.int k n)))=if 0<=n/\n<m/\n.toNat*sz<=cs.length then some (.ep (cs.drop (n.toNat*sz)))else none:=_root_.id rfl
theorem qOf(off b o:Nat):qEt off (some (.ptr b o))=some (.ptr b (o+off)):=_root_.id rfl
theorem qIm(off:Nat)(cs:List DV):qEt off (some (.ep cs))=if off<=cs.length then some (.ep (cs.drop off))else none:=_root_.id rfl
theorem qW2(s:ByteArray):qPh true (some (.d (.str s)))=some (.d (.int .i64 s.size)):=_root_.id rfl
theorem qTS(g:Tag)(xs:List DV):qPh false (some (.d (.sl g xs)))=some (.d (.int .i64 xs.length)):=_root_.id rfl
theorem qTR(a:Bool)(i s n:Nat):qPh false (some (.tsl a i s n))=some (.d (.int .i64 n)):=_root_.id rfl
theorem qEB(a:Bool)(i s n:Nat)(r:List AV):qaF (.tsl a i s n::r)=none:=_root_.id rfl
theorem qy2(v:DV):qtR v none=none:=_root_.id rfl
theorem qzs(cs:List AV):qiG cs none=if cs.all AV.plainT then some (.ag false cs)else none:=_root_.id rfl
theorem qyi(k:IntKind)(n:Int):(AV.d (.int k n)).plainT=true:=_root_.id rfl
theorem qs8(b:Bool):(AV.d (.bool b)).plainT=true:=_root_.id rfl
theorem qyg(b:ByteArray):(AV.d (.str b)).plainT=true:=_root_.id rfl
theorem qyh(g:Tag):(AV.d (.sl g [])).plainT=true:=_root_.id rfl
theorem qyf(a:Bool)(i s n:Nat):(AV.tsl a i s n).plainT=true:=_root_.id rfl
theorem qIA(a:Bool)(i s n:Nat):(AV.tsl a i s n).clr= .tsl a i s n:=by simp only[AV.clr]
theorem qOU(t:Bool)(cs:List AV):(AV.ag t cs).clr= .ag t (AV.clrs cs):=by simp only[AV.clr]
theorem qzr(cs:List AV)(ds:List DV):qiG cs (some ds)=some (.d (.agg ds)):=_root_.id rfl
theorem qwT(f:AV->Option DV):qji f []=some []:=_root_.id rfl
theorem qf3(f:AV->Option DV)(v:AV)(r:List AV):qji f (v::r)=qYp (f v) (qji f r):=_root_.id rfl
theorem qf2(d:DV)(ds:List DV):qYp (some d) (some ds)=some (d::ds):=_root_.id rfl
theorem qTI(B:qam)(v:DV):AV.frz B (.d v)=some v:=by
 unfold AV.frz;cases B.length<;>simp only[AV.frzC]
theorem qTT(id:Id)(a:Bool)(i s n:Nat):qPh false (some (.bsl id a i s n))=some (.d (.int .i64 n)):=_root_.id rfl
theorem qIl(sz:Nat)(s:ByteArray)(lo hi:Option AV):qw0 true sz (some (.d (.str s))) (some lo) (some hi)=(qbV s.size hi).bind fun h=>(qbU h lo).map fun l=> .d (.str (s.extract l h)):=_root_.id rfl
theorem qOd(sz:Nat)(g:Tag)(xs:List DV)(lo hi:Option AV):qw0 false sz (some (.d (.sl g xs))) (some lo) (some hi)=if xs.all (fun e=>e.cells.length=sz)then(qbV xs.length hi).bind fun h=>(qbU h lo).map fun l=> .d (.sl (if g= .nil then .nil else .sub) ((xs.take h).drop l))else none:=_root_.id rfl
theorem qD6(r:List (Nat×AV)):qhE r none=some none:=_root_.id rfl
theorem qD5(r:List (Nat×AV))(x:VX):qhE r (some x)=(x.get r).map some:=_root_.id rfl
theorem qNY(n:Nat):qbV n none=some n:=_root_.id rfl
theorem qNq(n:Nat):qbU n none=some 0:=_root_.id rfl
theorem qTD(n:Nat)(k:IntKind)(h:Int):qbV n (some (.d (.int k h)))=if 0<=h/\h.toNat<=n then some h.toNat else none:=_root_.id rfl
theorem qTq(n:Nat)(k:IntKind)(h:Int):qbU n (some (.d (.int k h)))=if 0<=h/\h.toNat<=n then some h.toNat else none:=_root_.id rfl
theorem qIe(r:List (Nat×AV)):qgx r []=some []:=_root_.id rfl
theorem qD0(r:List (Nat×AV))(x:VX)(xs:List VX):qgx r (x::xs)=qEO (x.get r) (qgx r xs):=by simp only[qgx,qEO];cases x.get r<;>cases qgx r xs<;>rfl
theorem qy0(v:AV)(vs:List AV):qEO (some v) (some vs)=some (v::vs):=_root_.id rfl
theorem qPB(r:List (Nat×AV))(n:Nat):qcn r (.t n)=lk r n:=_root_.id rfl
theorem qPC(r:List (Nat×AV))(v:DV):qcn r (.c (.d v))=some (.d v.cn):=_root_.id rfl
theorem qLJ(r:List (Nat×AV))(f:Nat):qcn r (.c (.fn f []))=some (.fn f []):=by simp[qcn,AV.clr,AV.clrs]
theorem qzQ(r:List (Nat×AV)):qcn r (.c .nilp)=some .nilp:=by simp[qcn,AV.clr]
theorem qxF(T:List Nat)(r:List (Nat×AV)):qb2 T r []=r:=_root_.id rfl
theorem qrX(T:List Nat)(r:List (Nat×AV))(x:VX)(xs:List VX):qb2 T r (x::xs)=qb2 T (qeP T r x) xs:=_root_.id rfl
theorem qLK(T:List Nat)(r:List (Nat×AV))(v:AV):qeP T r (.c v)=r:=_root_.id rfl
theorem qzR(T:List Nat)(r:List (Nat×AV))(n:Nat)(h:T.contains n=false):qeP T r (.t n)=r:=by simp only[qeP,h];simp
theorem qzS(T:List Nat)(r:List (Nat×AV))(n:Nat)(h:T.contains n=true)(v:AV)(hv:lk r n=some v):qeP T r (.t n)=(n,v.clr)::r:=by simp only[qeP,h,hv];simp
theorem qyC(T:List Nat):qcF T none=false:=_root_.id rfl
theorem qyB(T:List Nat)(d:Nat):qcF T (some d)=T.contains d:=_root_.id rfl
theorem qUm(k:IntKind)(n:Int):(DV.int k n).cn= .int k n:=by simp[DV.cn,DV.cn1,DV.clr]
theorem qOK(b:Bool):(DV.bool b).cn= .bool b:=by simp[DV.cn,DV.cn1,DV.clr]
theorem qUk(s:ByteArray):(DV.str s).cn= .str s:=by simp[DV.cn,DV.cn1,DV.clr]
theorem qUl:(DV.sl .nil []).cn= .sl U []:=by simp[DV.cn,DV.cn1]
theorem qUn(cs:List DV):(DV.agg cs).cn= .agg (cs.map DV.cn1):=_root_.id rfl
theorem qON(k:IntKind)(n:Int):(DV.int k n).cn1= .int k n:=by simp[DV.cn1,DV.clr]
theorem qIu(b:Bool):(DV.bool b).cn1= .bool b:=by simp[DV.cn1,DV.clr]
theorem qOL(s:ByteArray):(DV.str s).cn1= .str s:=by simp[DV.cn1,DV.clr]
theorem qOM:(DV.sl .nil []).cn1= .sl U []:=by simp[DV.cn1]
theorem qE0(k:IntKind)(n:Int):(DV.int k n).clr= .int k n:=by simp[DV.clr]
theorem qIy(b:Bool):(DV.bool b).clr= .bool b:=by simp[DV.clr]
theorem qEZ(s:ByteArray):(DV.str s).clr= .str s:=by simp[DV.clr]
theorem qLm(g:Tag)(xs:List DV):(DV.sl g xs).clr= .sl .sub (xs.map DV.clr):=by simp[DV.clr,DV.qaA]
theorem qOR(xs:List DV):(DV.agg xs).clr= .agg (xs.map DV.clr):=by simp[DV.clr,DV.qaA]
theorem qOO(xs:List DV):(DV.tup xs).clr= .tup (xs.map DV.clr):=by simp[DV.clr,DV.qaA]
theorem qUr(v:DV):(AV.d v).clr= .d v.clr:=by simp[AV.clr]
theorem qIB(i o:Nat):(AV.ptr i o).clr= .ptr i o:=by simp[AV.clr]
theorem qOT(cs:List DV):(AV.ep cs).clr= .ep (cs.map DV.clr):=by simp[AV.clr,DV.qaA]
theorem qOS(f:Nat)(cs:List AV):(AV.fn f cs).clr= .fn f (cs.map AV.clr):=by simp[AV.clr,AV.qaA]
theorem qE2:AV.nilp.clr= .nilp:=by simp[AV.clr]
theorem qIC(id:Id)(a:Bool)(i sz n:Nat):(AV.bsl id a i sz n).clr= .bsl id a i sz n:=by simp[AV.clr]
theorem qIz:AV.und.clr= .und:=by simp[AV.clr]
theorem qzL(LP:List Nat)(j:Nat):qcq LP j []=[]:=_root_.id rfl
theorem qxC(LP:List Nat)(j:Nat)(v:AV)(r:List AV):qcq LP j (v::r)=(if LP.contains j then v else v.clr)::qcq LP (j+1) r:=_root_.id rfl
theorem qrW(LP:List Nat)(j:Nat):qbg LP j []=[]:=_root_.id rfl
theorem qiT(j:Nat):∀xs:List VX,qbg [] j xs=[]
 | []=>rfl
 |x::xs=>by simp[qbg,qiT (j+1) xs]
theorem qpd(LP:List Nat)(j:Nat)(v:VX)(r:List VX):qbg LP j (v::r)=if LP.contains j then v::qbg LP (j+1) r else qbg LP (j+1) r:=_root_.id rfl
theorem qzP(r:List (Nat×AV)):qfJ r []=some []:=_root_.id rfl
theorem qxE(r:List (Nat×AV))(x:VX)(xs:List VX):qfJ r (x::xs)=qEO (qcn r x) (qfJ r xs):=by simp only[qfJ,qEO];cases qcn r x<;>cases qfJ r xs<;>rfl
theorem qEC:qaF []=some []:=_root_.id rfl
theorem qyX(v:DV)(r:List AV):qaF (.d v::r)=qtR v (qaF r):=_root_.id rfl
theorem qy1(v:DV)(r:List DV):qtR v (some r)=some (v::r):=_root_.id rfl
theorem qNu(T:List Nat):qat T []=true:=_root_.id rfl
theorem qmb(g:VX->Option AV)(cs:List DV):qaH g cs []=some cs:=_root_.id rfl
theorem qlJ(g:VX->Option AV)(cs:List DV)(off size:Nat)(x:VX)(r:List (Nat×Nat×VX)):qaH g cs ((off,size,x)::r)=qEv g cs off size r (g x):=by
 simp only[qaH,qEv]<;>rfl
theorem qOh(g:VX->Option AV)(cs:List DV)(off size:Nat)(r:List (Nat×Nat×VX))(v:DV):qEv g cs off size r (some (.d v))=if v.cells.length=size/\off+size<=cs.length/\v.cells.all DV.isCell then qaH g (splice cs off v.cells) r else none:=_root_.id rfl
theorem qrh(g:VX->Option AV)(sz:Nat)(cs:List DV):qaV g sz cs []=some cs:=_root_.id rfl
theorem qoT(g:VX->Option AV)(sz:Nat)(cs:List DV)(i:Nat)(x:VX)(r:List (Nat×VX)):qaV g sz cs ((i,x)::r)=qXa g sz cs i r (g x):=by
 simp only[qaV,qXa]<;>rfl
theorem qW0(g:VX->Option AV)(sz:Nat)(cs:List DV)(i:Nat)(r:List (Nat×VX))(v:DV):qXa g sz cs i r (some (.d v))=if v.cells.length=sz/\i<cs.length/\v.cells.all DV.isCell then qaV g sz (cs.set i v) r else none:=_root_.id rfl
theorem qEY:AV.clrs []=[]:=by simp only[AV.clrs]
theorem qzb(v:AV)(r:List AV):AV.clrs (v::r)=v.clr::AV.clrs r:=by simp only[AV.clrs]
attribute [simp] qEY qzb
def xFB(c:qaB)(lin:Nat->List Nat)(T:List Nat)(d:Bool)(L:Nat)(fs:List FOper)(o:Option XS):Option XS:=o.bind (xFs c lin T d L fs)
def xFA(c:qaB)(lin:Nat->List Nat)(T:List Nat)(d:Bool)(L:Nat)(f:FOper)(fs:List FOper)(o:Option XS):Option XS:=o.bind fun s=>xFB c lin T d L fs (qxI T f s)
def qU9(T:List Nat)(a d3 sz:Nat)(ok:Bool)(s:XS)(v:Option AV)(lo hi:Option (Option AV)):Option XS:=
 match v,lo,hi with
 |some (.d (.sl g xs)),some lo,some hi=>
  if ok=true/\xs.all (fun e=>e.cells.length=sz)then
   (qbV xs.length hi).bind fun h=>(qbU h lo).map fun l=>qbG T ⟨(a,.d (.sl g (qco xs l h)))::s.r,s.B⟩ (some d3) (.d (.sl .sub ((xs.take h).drop l)))
  else none
 |_,_,_=>none
def qAO(T:List Nat)(d4 sz:Nat)(s:XS)(b off:Nat)(cs:List AV)(g:Tag)(xs:List DV)(k:Nat)(e:Option DV):Option XS:=
 match e with
 |some (.agg es)=>if es.length=sz then some (qbG T ⟨s.r,s.B.set b (some (cs.set off (.d (.sl g (xs.set k (DV.agg es).clr)))))⟩ (some d4) (.d (.agg es)))else none
 |_=>none
def qGt(T:List Nat)(d4 sz:Nat)(s:XS)(b off:Nat)(cs:List AV)(k:Nat)(v:Option AV):Option XS:=
 match v with
 |some (.d (.sl g xs))=>qAO T d4 sz s b off cs g xs k (xs[k]?)
 |_=>none
def qVa(T:List Nat)(d4 sz:Nat)(ok:Bool)(s:XS)(v w:Option AV):Option XS:=
 match v,w with
 |some (.ptr b off),some (.d (.int _ k))=>if ok=true/\0<=k/\sz≠0 then(qcx s.B b).bind fun cs=>qGt T d4 sz s b off cs k.toNat (cs[off]?)else none
 |_,_=>none
theorem qYx(c:qaB)(lin:Nat->List Nat)(T:List Nat)(d:Bool)(L:Nat)(f:FOper)(fs:List FOper)(s:XS):xFs c lin T d L (f::fs) s=xFA c lin T d L f fs (qb9 c lin T d L f.pre s):=_root_.id rfl
theorem qPu(c:qaB)(lin:Nat->List Nat)(T:List Nat)(d:Bool)(L:Nat)(s:XS):xFs c lin T d L [] s=some s:=_root_.id rfl
theorem qYz(c:qaB)(lin:Nat->List Nat)(T:List Nat)(d:Bool)(L:Nat)(f:FOper)(fs:List FOper)(s:XS):xFA c lin T d L f fs (some s)=xFB c lin T d L fs (qxI T f s):=_root_.id rfl
theorem qYy(c:qaB)(lin:Nat->List Nat)(T:List Nat)(d:Bool)(L:Nat)(fs:List FOper)(s:XS):xFB c lin T d L fs (some s)=xFs c lin T d L fs s:=_root_.id rfl
theorem qUR(T:List Nat)(o:VOper)(s:XS):qxI T (.one o) s=some s:=_root_.id rfl
theorem qUQ(T:List Nat)(d1 a d2:Nat)(b:VX)(d3 sz:Nat)(lo hi:Option VX)(f1 f2 f3:List Nat)(s:XS):qxI T (.sl d1 a d2 b d3 sz lo hi f1 f2 f3) s=qU9 T a d3 sz (decide (T.contains a=true/\T.contains d3=true/\d1≠a/\d2≠a/\d1≠d2)) s (lk s.r a) (qhE s.r lo) (qhE s.r hi):=by
 simp only[qxI,qU9,decide_eq_true_eq];rfl
theorem qVd(T:List Nat)(a d3 sz:Nat)(ok:Bool)(s:XS)(g:Tag)(xs:List DV)(lo hi:Option AV):qU9 T a d3 sz ok s (some (.d (.sl g xs))) (some lo) (some hi)=if ok=true/\xs.all (fun e=>e.cells.length=sz)then
 (qbV xs.length hi).bind fun h=>(qbU h lo).map fun l=>qbG T ⟨(a,.d (.sl g (qco xs l h)))::s.r,s.B⟩ (some d3) (.d (.sl .sub ((xs.take h).drop l)))
 else none:=_root_.id rfl
theorem qUS(T:List Nat)(d1 q d2:Nat)(b:VX)(d3 sz d4:Nat)(f1 f2 f3 f4:List Nat)(s:XS):qxI T (.el d1 q d2 b d3 sz d4 f1 f2 f3 f4) s=qVa T d4 sz (decide (T.contains d4=true/\d1≠q/\d2≠q/\d3≠q/\d1≠d2/\d3≠d2)) s (lk s.r q) (lk s.r d2):=by
 simp only[qxI,qVa,qGt,qAO,decide_eq_true_eq];rfl
theorem qVe(T:List Nat)(d4 sz:Nat)(ok:Bool)(s:XS)(b off:Nat)(kd:IntKind)(k:Int):qVa T d4 sz ok s (some (.ptr b off)) (some (.d (.int kd k)))=if ok=true/\0<=k/\sz≠0 then(qcx s.B b).bind fun cs=>qGt T d4 sz s b off cs k.toNat (cs[off]?)else none:=_root_.id rfl
theorem qPN(T:List Nat)(d4 sz:Nat)(s:XS)(b off:Nat)(cs:List AV)(k:Nat)(g:Tag)(xs:List DV):qGt T d4 sz s b off cs k (some (.d (.sl g xs)))=qAO T d4 sz s b off cs g xs k (xs[k]?):=_root_.id rfl
theorem qPM(T:List Nat)(d4 sz:Nat)(s:XS)(b off:Nat)(cs:List AV)(g:Tag)(xs:List DV)(k:Nat)(es:List DV):qAO T d4 sz s b off cs g xs k (some (.agg es))=if es.length=sz then some (qbG T ⟨s.r,s.B.set b (some (cs.set off (.d (.sl g (xs.set k (DV.agg es).clr)))))⟩ (some d4) (.d (.agg es)))else none:=_root_.id rfl
theorem qzG(X:XEnv)(T:List Nat)(na:Nat)(live:List Nat)(fs:List FOper)(r:List (Nat×AV))(B:qam):
 qau X T (.regionF false na live fs) ⟨r,B⟩=qcQ live (xFs (qac X) X.lin T false B.length fs ⟨r,B++List.replicate na none⟩):=by
 rw[qhT];simp[qcI,qcQ,Function.comp_def]
theorem qLy(X:XEnv)(T:List Nat)(na:Nat)(live:List Nat)(fs:List FOper)(h:qlA (qhH fs)=true)(r:List (Nat×AV))(B:qam):
 qau X T (.regionF true na live fs) ⟨r,B⟩=qcQ live (xFs (qac X) X.lin T true B.length fs ⟨r,B++List.replicate na none⟩):=by
 rw[qhT];simp[qcI,qcQ,Function.comp_def,h]
attribute [simp] qYx qPu qYz qYy qUR qUQ qVd qUS qVe qPN qPM qzG FOper.pre
attribute [simp] qlD qEQ qy8 qy6 qy7 qUV qUX qPm qLw qPq qFJ qU1 qLC qzF qPw qLz qFK qUT qPp qph qAP qxG qPr qLB qxw qU3 qLx qU0 qUW qPv qLv qrS qpa qo9 qYC qVf qrT qLt qxx qUY qPn qUU qPl qrQ qPt qLD qFL qU2 qPs qFI qLs qzH qPo qrR qpb qUZ qLu qLA qFM qzr qEB qy2 qzs qyi qs8 qyg qyh qyf qIA qOU qPQ qVk qVj qAU qPR qL3 qGw qyM qtD qIj qAK qPO qVi qYE qVg qVh qPS w_n qYD qPP w_T qYF qYH qYG qPV qPU qPT qwT qf3 qf2 qTI qOj qTR qma qW9 qOo qW8 qW6 qT4 qT3 qOq qOn qtK qyV qtL qyU qW7 qOm qTQ qTP qTO qW4 qY0 qOg qW3 qW1 qTV qTN qOi qOe qTX qTU qOk qW5 qTW qOf qIm qW2 qTS qTT qIl qOd qD6 qD5 qNY qNq qTD qTq qIe qD0 qy0 qPB qPC qLJ qzQ qxF qrX qLK qzR qzS qyC qyB qUm qOK qUk qUl qUn qON qIu qOL qOM qE0 qIy qEZ qLm qOR qOO qUr qIB qOT qOS qE2 qIC qIz qzL qxC qrW qiT qpd qzP qxE qEC qyX qy1 qNu qmb qlJ qOh qrh qoT qW0 qcU qeO qny qgC qmf qdj qcy qcx qbH qfp qak
theorem qjR(q:Ex×XS)(k:XS->Option (Ex×XS))(h:q.1≠.normal):qpi (some q) k=some q:=by
 obtain⟨e,s'⟩:=q;cases e with
 |normal=>exact absurd rfl h
 |exit id=>rfl
 |ret=>rfl
def qLZ{β γ:Type}(L:Nat)(live:List Nat)(st:β->Nat->XS)(R:γ->Ex×XS)(i:Nat)(o:Option (Ex×XS)):β⊕γ->Prop
 | .inl a'=>∃s',o=some (.normal,s')/\qad L live s'=some (st a' (i+1))
 | .inr r=>(R r).1≠.normal/\o=some (R r)
theorem qeB{X:XEnv}{T:List Nat}{L:Nat}{live:List Nat}{b:VCode}{β γ:Type}{n:Nat}{st:β->Nat->XS}{step:β->Nat->β⊕γ}{F:β->Ex×XS}{R:γ->Ex×XS}(Inv:β->Nat->Prop)
 (hend:∀a,Inv a n->(F a).1≠.normal/\qau X T b (st a n)=some (F a))
 (hstep:∀a i,i<n->Inv a i->qLZ L live st R i (qau X T b (st a i)) (step a i)/\∀a',step a i= .inl a'->Inv a' (i+1)):
 ∀(k:Nat) (a:β) (i:Nat) (s:XS),i+k=n->Inv a i->qad L live s=some (st a i)->qbu X T L live b s=some (match runN step k a i with| .inl a'=>F a'| .inr r=>R r)
 |0,a,i,s,hk,hi,hs=>by
  have:i=n:=by omega
  subst this;obtain⟨h1,h2⟩:=hend a hi;rw[qeh,hs];simp only[Option.bind_some,h2,runN];exact qjR _ _ h1
 |k+1,a,i,s,hk,hi,hs=>by
  obtain⟨h,hinv⟩:=hstep a i (by omega) hi;rw[qeh,hs];simp only[Option.bind_some,runN];generalize step a i=q at h hinv;cases q with
  |inl a'=>
   obtain⟨s',h1,h2⟩:=h;have h3:=qeB Inv hend hstep k a' (i+1) s' (by omega) (hinv a' rfl) h2;rw[h1];exact h3
  |inr r=>
   obtain⟨h1,h2⟩:=h;rw[h2];exact qjR _ _ h1
theorem qag{X:XEnv}{T:List Nat}{L:Nat}{live:List Nat}{b:VCode}{β γ:Type}{n:Nat}{st:β->Nat->XS}{step:β->Nat->β⊕γ}{F:β->Ex×XS}{R:γ->Ex×XS}
 (hend:∀a,(F a).1≠.normal/\qau X T b (st a n)=some (F a))
 (hstep:∀a i,i<n->qLZ L live st R i (qau X T b (st a i)) (step a i)) (k:Nat) (a:β) (i:Nat) (s:XS) (hk:i+k=n) (hs:qad L live s=some (st a i)):
 qbu X T L live b s=some (match runN step k a i with| .inl a'=>F a'| .inr r=>R r):=
 qeB (fun _ _=>True) (fun a _=>hend a) (fun a i hi _=>⟨hstep a i hi,fun _ _=>trivial⟩) k a i s hk trivial hs
theorem qbB{X:XEnv}{T:List Nat}{L:Nat}{live:List Nat}{b:VCode}{s s0 s':XS}(h:qad L live s=some s0)(hb:qau X T b s0=some (.normal,s')):qbu X T L live b s=qbu X T L live b s':=by
 rw[qeh,h];simp only[Option.bind_some,hb];rfl
theorem qa5{X:XEnv}{T:List Nat}{L:Nat}{live:List Nat}{b:VCode}{s s0:XS}{q:Ex×XS}(h:qad L live s=some s0)(hb:qau X T b s0=some q)(hq:q.1≠.normal):qbu X T L live b s=some q:=by
 rw[qeh,h];simp only[Option.bind_some,hb];exact qjR _ _ hq
end Go.Proofs.YtbcbkiaineacpaaGreat.VS
