/- The engine, part 3: a call of the program answers what an evaluator of values without memory answers, for the functions whose code is the one that the evaluator is given. -/
import Derived.Test.YtfiakfiocdfpbaaEngB
import Derived.Orders
import Derived.ChangeAt
import Derived.Below
import Derived.WideShapes
import Derived.ChangeArms
import Derived.DataReads
import Derived.WalkKit
import Derived.ProofKit
import Derived.OpenShut
import Derived.ChangeOld
import Derived.SizedLaws
set_option linter.unusedSimpArgs false
set_option linter.unusedVariables false
namespace Go.Proofs.Ytfiakfiocdfpbaa.VS
variable {P:Program} {fid:Nat->FuncId}
theorem qhP:∀(os:List VOper) (acc:List (List Nat)),
 (∀k,k<acc.length->(qdn os acc).getD k []=acc.getD k [])/\
 (∀m o x,os[m]?=some o->x∈(qdn os acc).getD (acc.length+m) []->∃j,j∈o.after/\(x=j\/(j<acc.length+m/\x∈(qdn os acc).getD j [])))
 | [],acc=>⟨fun k hk=>rfl,fun m o x h=>by simp at h⟩
 |o::os,acc=>by
  obtain⟨h1,h2⟩:=qhP os (acc++[dd (o.after.flatMap fun j=>j::acc.getD j [])]);simp only[qdn];have hold:∀k,k<acc.length->(qdn os (acc++[dd (o.after.flatMap fun j=>j::acc.getD j [])])).getD k []=acc.getD k []:=by
   intro k hk;rw[h1 k (by simp;omega)];simp[List.getD,List.getElem?_append_left hk]
  refine⟨hold,fun m o' x hm hx=> ?_⟩;cases m with
  |zero=>
   simp at hm;subst hm
   rw[Nat.add_zero,h1 acc.length (by simp)]at hx;simp only[List.getD,List.getElem?_append_right (Nat.le_refl _),Nat.sub_self,List.getElem?_cons_zero,Option.getD_some,quC,List.mem_flatMap]at hx;obtain⟨j,hj,hx⟩:=hx;refine⟨j,hj,?_⟩;rcases List.mem_cons.1 hx with h|h
   ·exact .inl h
   ·right
    have hlt:j<acc.length:=by
     rcases Nat.lt_or_ge j acc.length with h'|h'
     ·exact h'
     ·rw[List.getElem?_eq_none h']at h;simp at h
    exact⟨by omega,by rw[hold j hlt];exact h⟩
  |succ m=>
   simp at hm;obtain⟨j,hj,h3⟩:=h2 m o' x hm (by
    have e:(acc++[dd (o.after.flatMap fun j=>j::acc.getD j [])]).length+m=acc.length+(m+1):=by simp;omega
    rw[e];exact hx)
   refine⟨j,hj,?_⟩;rcases h3 with h|⟨h,h'⟩
   ·exact .inl h
   ·exact .inr ⟨by simp at h;omega,h'⟩
theorem qq5{vs:List VOper}{L:Nat->Prop}(hL:∀(i:Nat) (o:VOper),vs[i]?=some o->L i->∀j,j∈o.after->L j)(hlt:∀(i:Nat) (o:VOper),vs[i]?=some o->∀j,j∈o.after->j<i):
 ∀(i:Nat) (o:VOper),vs[i]?=some o->(∀j,j∈o.after->L j)->∀x,x∈(qdn vs []).getD i []->L x:=by
 intro i
 induction i using Nat.strongRecOn with
 |_ i ih=>
  intro o ho ha x hx;obtain⟨j,hj,h⟩:=(qhP vs []).2 i o x ho (by simpa using hx);rcases h with rfl|⟨h1,h2⟩
  ·exact ha _ hj
  ·have hji:j<i:=by simpa using h1
   have hjl:j<vs.length:=by have:=(List.getElem?_eq_some_iff.1 ho).1;omega
   exact ih j hji vs[j] (by simp) (hL j vs[j] (by simp) (ha j hj)) x h2
theorem quu{cl:List (List Nat)}{i:Nat}{a:VOper}:∀{l:List VOper} {j:Nat},qoh cl i a j l=true->∀(m:Nat) (b:VOper),l[m]?=some b->qqh cl i (j+m) a b=true
 | [],j,_,m,b,h=>by simp at h
 |c::r,j,h,m,b,hm=>by
  simp only[qoh,Bool.and_eq_true]at h;cases m with
  |zero=>simp at hm;subst hm;exact h.1
  |succ m=>
   have:=quu h.2 m b (by simpa using hm);rw[show j+(m+1)=j+1+m by omega];exact this
theorem qCS{cl:List (List Nat)}:∀{l:List VOper} {i:Nat},qj9 cl i l=true->∀(m n:Nat) (a b:VOper),m<n->l[m]?=some a->l[n]?=some b->qqh cl (i+m) (i+n) a b=true
 | [],i,_,m,n,a,b,_,h,_=>by simp at h
 |c::r,i,h,m,n,a,b,hmn,hm,hn=>by
  simp only[qj9,Bool.and_eq_true]at h;cases n with
  |zero=>omega
  |succ n=>
   cases m with
   |zero=>
    simp at hm hn;subst hm
    have:=quu h.1 n b hn;rw[show i+0=i by omega,show i+(n+1)=i+1+n by omega];exact this
   |succ m=>
    simp at hm hn;have:=qCS h.2 m n a b (by omega) hm hn;rw[show i+(m+1)=i+1+m by omega,show i+(n+1)=i+1+n by omega];exact this
theorem qoQ:∀{l:List VOper} {i:Nat},ahead i l=true->∀(m:Nat) (o:VOper),l[m]?=some o->∀j,j∈o.after->j<i+m
 | [],i,_,m,o,h=>by simp at h
 |c::r,i,h,m,o,hm=>by
  simp only[ahead,Bool.and_eq_true]at h;cases m with
  |zero=>
   simp at hm;subst hm
   intro j hj;simpa using List.all_eq_true.1 h.1 j hj
  |succ m=>
   intro j hj;have:=qoQ h.2 m o (by simpa using hm) j hj;omega
theorem qge{N:Nat}{ops:Array Oper}:∀{os:List Oper} {vs:List VOper},qbi P fid N ops true os vs=true->os.length=vs.length/\∀(i:Nat) (o:Oper) (v:VOper),os[i]?=some o->vs[i]?=some v->
 qeL P fid N ops o v=true/\(∀j,j∈v.after↔j∈qcP o)
 | [],[],_=>⟨rfl,fun i o v h=>by simp at h⟩
 |o::os,v::vs,h=>by
  simp only[qbi,Bool.and_eq_true,Bool.not_true,Bool.false_or]at h;obtain⟨⟨⟨h1,h2⟩,h3⟩,h4⟩:=h;obtain⟨h5,h6⟩:=qge h4;refine⟨by simp[h5],fun i o' v' ho hv=> ?_⟩;cases i with
  |zero=>
   simp at ho hv;subst ho;subst hv
   refine⟨h1,fun j=>⟨fun hj=> ?_,fun hj=> ?_⟩⟩
   ·simpa using List.all_eq_true.1 h3 j hj
   ·simpa using List.all_eq_true.1 h2 j hj
  |succ i=>simp at ho hv;exact h6 i o' v' ho hv
 | [],_::_,h=>by simp[qbi]at h
 |_::_,[],h=>by simp[qbi]at h
def rest(vs:List VOper)(listed:Array Bool):List (Nat×VOper):=((List.range' 0 vs.length).zip vs).filter fun q=> !listed.getD q.1 true
theorem qiC{vs:List VOper}{q:Nat×VOper}(h:q∈(List.range' 0 vs.length).zip vs):vs[q.1]?=some q.2:=by
 obtain⟨i,hi⟩:=List.mem_iff_getElem?.1 h;rw[List.getElem?_zip_eq_some]at hi;obtain⟨h1,h2⟩:=hi;have h3:=List.getElem?_eq_some_iff.1 h1;obtain⟨h4,h5⟩:=h3;simp at h5;rw[<-h5];exact h2
theorem qxu{vs:List VOper}{i:Nat}{o:VOper}(h:vs[i]?=some o):
 ∃b1 b2,(List.range' 0 vs.length).zip vs=b1++(i,o)::b2/\(∀q,q∈b1->q.1<i)/\(∀q,q∈b2->i<q.1):=by
 have hi:i<vs.length:=(List.getElem?_eq_some_iff.1 h).1;refine⟨(List.range' 0 i).zip (vs.take i),(List.range' (i+1) (vs.length-(i+1))).zip (vs.drop (i+1)),?_,fun q hq=> ?_,fun q hq=> ?_⟩
 ·have e1:List.range' 0 vs.length=List.range' 0 i++i::List.range' (i+1) (vs.length-(i+1)):=by
   have h1:List.range' 0 vs.length=List.range' 0 i++List.range' i (vs.length-i):=by
    have h2:= @List.range'_append_1 0 i (vs.length-i);rw[Nat.zero_add]at h2;rw[h2]
    congr 1;omega
   rw[h1,show vs.length-i=(vs.length-(i+1))+1 by omega,List.range'_succ]
  have e2:vs=vs.take i++o::vs.drop (i+1):=by
   conv=>lhs;rw[<-List.take_append_drop i vs,List.drop_eq_getElem_cons hi]
   congr 2
   have:=(List.getElem?_eq_some_iff.1 h).2;exact this
  rw[e1]
  conv=>lhs;rw[e2]
  rw[List.zip_append (by simp;omega),List.zip_cons_cons];simp
  congr 2
  omega
 ·have:=(List.of_mem_zip hq).1
  simp at this;omega
 ·have:=(List.of_mem_zip hq).1
  simp at this;omega
theorem qgb{vs:List VOper}{listed:Array Bool}{i:Nat}{o:VOper}(h:vs[i]?=some o)(hl:listed.getD i true=false):
 ∃pre post,rest vs listed=pre++(i,o)::post/\rest vs (listed.setIfInBounds i true)=pre++post/\(∀q,q∈pre->q.1<i/\vs[q.1]?=some q.2/\listed.getD q.1 true=false):=by
 obtain⟨b1,b2,hb,h1,h2⟩:=qxu h;have hsz:i<listed.size:=by
  rcases Nat.lt_or_ge i listed.size with h'|h'
  ·exact h'
  ·simp[Array.getD_eq_getD_getElem?,Array.getElem?_eq_none h']at hl
 have same:∀k,k≠i->(listed.setIfInBounds i true).getD k true=listed.getD k true:=fun k hk=>by
  simp[Array.getD_eq_getD_getElem?,Array.getElem?_setIfInBounds_ne (Ne.symm hk)]
 have self:(listed.setIfInBounds i true).getD i true=true:=by
  simp[Array.getD_eq_getD_getElem?,hsz]
 refine⟨b1.filter fun q=> !listed.getD q.1 true,b2.filter fun q=> !listed.getD q.1 true,?_,?_,fun q hq=> ?_⟩
 ·unfold rest
  rw[hb,List.filter_append,List.filter_cons];simp only[hl,Bool.not_false,if_true]
 ·unfold rest
  rw[hb,List.filter_append,List.filter_cons];simp only[self,Bool.not_true,Bool.false_eq_true,if_false]
  congr 1
  ·exact List.filter_congr fun q hq=>by rw[same q.1 (by have:=h1 q hq;omega)]
  ·exact List.filter_congr fun q hq=>by rw[same q.1 (by have:=h2 q hq;omega)]
 ·obtain⟨h3,h4⟩:=List.mem_filter.1 hq
  exact⟨h1 q h3,qiC (by rw[hb];exact List.mem_append_left _ h3),by simpa using h4⟩
theorem qtC{g:Gh}{w:World}{s s':St}{tm:Array Value}(h:s.eqv s')(hr:qcK fid g w s.r tm):qcK fid g w s'.r tm:=fun t v hv=>hr t v (by rw[h.1 t];exact hv)
theorem qOV{call:qav}(hcall:qeq P fid call){p:Id}{L0 N c:Nat}{ops:Array Oper}{vs:List VOper}(hok:qbi P fid N ops true ops.toList vs=true)(hdraw:qfs vs=true){sf:St}
 {Q:Exit->Act->World->Prop} {g0:Gh} {w0:World} {A0:Ids} {a0:Act}
 (hQ:∀g' a' w',Core fid g' w' sf.B sf.A->Boxes g0 w0 g'->Step (fun x=>∃q j,c<=j/\j<c+vs.length/\x=q++j::p) g0 w0 A0 g' w' sf.A->qcK fid g' w' sf.r a'.tmps->a'.tmps.size=N->a'.defers=a0.defers->Q .normal a' w'):
 ∀(fuel:Nat) (listed:Array Bool) (g:Gh) (w:World) (a:Act) (s t:St),(rest vs listed).length=fuel->listed.size=vs.length->s.c=c->Core fid g w s.B s.A->qcK fid g w s.r a.tmps->a.tmps.size=N->a.defers=a0.defers->
  Boxes g0 w0 g->Step (fun x=>∃q j,c<=j/\j<c+vs.length/\x=q++j::p) g0 w0 A0 g w s.A->
  (∀i,listed.getD i true=false->∀q,g.row (q++(c+i)::p)=none)->(∀(i:Nat) (o:VOper),vs[i]?=some o->listed.getD i true=true->∀j,j∈o.after->listed.getD j true=true)->
  qgr call p L0 (rest vs listed) s=some t->t.eqv sf->wpAny P .any ops Q fuel listed a w:=by
 obtain⟨hlen,hat⟩:=qge hok;simp only[qfs,Bool.and_eq_true]at hdraw;obtain⟨hahead,hpairs⟩:=hdraw;have hafter:∀(i:Nat) (o:VOper),vs[i]?=some o->∀j,j∈o.after->j<i:=fun i o h j hj=>by simpa using qoQ hahead i o h j hj
 intro fuel
 induction fuel with
 |zero=>
  intro listed g w a s t hfuel hsz hc hcore hr hN hdef hbox hstep hfr hcl hseq heq;have hnil:rest vs listed=[]:=List.eq_nil_of_length_eq_zero hfuel;rw[hnil]at hseq;simp[qgr]at hseq;subst hseq
  refine⟨?_,hQ g a w (by rw[<-heq.2.1,<-heq.2.2.1];exact hcore) hbox (by rw[<-heq.2.2.1];exact hstep) (qtC heq hr) hN hdef⟩;rw[Region.ready,List.filter_eq_nil_iff];intro i hi hcond;simp only[List.mem_range]at hi;simp only[Bool.and_eq_true,Bool.not_eq_true']at hcond;have hi':i<vs.length:=by simpa[<-hlen]using hi
  obtain⟨pre,post,h1,_⟩:=qgb (vs:=vs) (i:=i) (o:=vs[i]) (by simp) hcond.1;rw[hnil]at h1;simp at h1
 |succ fuel ih=>
  intro listed g w a s t hfuel hsz hc hcore hr hN hdef hbox hstep hfr hcl hseq heq;refine⟨fun hready=> ?_,fun i hi=> ?_⟩
  ·
   exfalso;have hne:rest vs listed≠[]:=by intro h;rw[h]at hfuel;simp at hfuel
   obtain⟨q,hq⟩:=List.exists_mem_of_ne_nil _ hne;have hex:∃i,i<vs.length/\listed.getD i true=false:=by
    obtain⟨h1,h2⟩:=List.mem_filter.1 hq;have h3:=qiC h1;exact⟨q.1,(List.getElem?_eq_some_iff.1 h3).1,by simpa using h2⟩
   have least:∀n,(∃i,i<n/\i<vs.length/\listed.getD i true=false)->∃i,i<vs.length/\listed.getD i true=false/\∀j,j<i->listed.getD j true=true:=by
    intro n
    induction n with
    |zero=>rintro⟨i,h,_⟩;omega
    |succ n ihn=>
     rintro⟨i,h1,h2,h3⟩
     by_cases hl:∃i,i<n/\i<vs.length/\listed.getD i true=false
     ·exact ihn hl
     ·refine⟨i,h2,h3,fun j hj=> ?_⟩
      cases hjl:listed.getD j true with
      |true=>rfl
      |false=>exact absurd ⟨j,by omega,by omega,hjl⟩ hl
   obtain⟨i0,h1,h2⟩:=hex;obtain⟨i,h3,h4,h5⟩:=least (i0+1) ⟨i0,by omega,h1,h2⟩;have hio:i<ops.size:=by have:=hlen;simp at this;omega
   have hmem:i∈Region.ready .any ops listed:=by
    rw[Region.ready,List.mem_filter];refine⟨by simpa using hio,?_⟩;have ho:ops[i]?=some ops[i]:=by simp[hio]
    simp only[h4,ho,Bool.not_false,Bool.true_and,Option.map_some,Option.getD_some];rw[Array.all_eq_true];intro k hk;simp only[Bool.or_eq_true,Bool.not_eq_true']
    by_cases hb:Region.binds .any ops[i].after[k]=true
    ·right
     have hj:(ops[i].after[k]).on∈vs[i].after:=by
      rw[(hat i ops[i] vs[i] (by simp[hio]) (by simp)).2];unfold qcP;refine List.mem_map.2 ⟨ops[i].after[k],List.mem_filter.2 ⟨by simp,hb⟩,rfl⟩
     have hlt:=hafter i vs[i] (by simp) _ hj;have h6:=h5 _ hlt;have h7:(ops[i].after[k]).on<listed.size:=by omega
     simp[Array.getD_eq_getD_getElem?,h7]at h6⊢
     exact h6
    ·left;simpa using hb
   rw[hready]at hmem;simp at hmem
  ·
   rw[Region.ready,List.mem_filter]at hi;obtain⟨hi1,hi2⟩:=hi;simp only[List.mem_range]at hi1;simp only[Bool.and_eq_true,Bool.not_eq_true']at hi2;obtain⟨hnl,hpre⟩:=hi2;have hiv:i<vs.length:=by simpa[<-hlen]using hi1
   have ho:ops[i]?=some ops[i]:=by simp[hi1]
   have hv:vs[i]?=some vs[i]:=by simp[hiv]
   obtain⟨hokop,haft⟩:=hat i ops[i] vs[i] (by simp[hi1]) hv;have hall:∀j,j∈vs[i].after->listed.getD j true=true:=by
    intro j hj;rw[haft]at hj;unfold qcP at hj;obtain⟨e,he,rfl⟩:=List.mem_map.1 hj;obtain⟨he1,he2⟩:=List.mem_filter.1 he;rw[ho]at hpre;simp only[Option.map_some,Option.getD_some]at hpre;obtain⟨k,hk,hke⟩:=Array.mem_iff_getElem.1 (Array.mem_toList_iff.1 he1);have:=(Array.all_eq_true.1 hpre) k hk;rw[hke]at this;simp only[he2,Bool.not_true,Bool.false_or]at this;have hlt:e.on<listed.size:=by
     rcases Nat.lt_or_ge e.on listed.size with h|h
     ·exact h
     ·simp[Array.getD_eq_getD_getElem?,Array.getElem?_eq_none h]at this
    simp[Array.getD_eq_getD_getElem?,hlt]at this⊢
    exact this
   obtain⟨pre,post,hr1,hr2,hpre2⟩:=qgb hv hnl;rw[hr1]at hseq;have hcompat:∀q,q∈pre->quZ q.2 vs[i]:=by
    intro q hq;obtain⟨q1,q2,q3⟩:=hpre2 q hq;have hp:=qCS hpairs q.1 i q.2 vs[i] q1 q2 hv;simp only[Nat.zero_add,qqh,Bool.or_eq_true,Bool.and_eq_true]at hp;rcases hp with hp|⟨⟨hp1,hp2⟩,hp3⟩
    ·exfalso
     have hx:q.1∈(qdn vs []).getD i []:=by simpa using hp
     have:=qq5 (L:=fun k=>listed.getD k true=true) (fun i o h1 h2 j hj=>hcl i o h1 h2 j hj) hafter i vs[i] hv hall q.1 hx;rw[q3]at this;simp at this
    ·exact⟨hp1,hp2,hp3⟩
   obtain⟨s1,t',hone,hseq',heq'⟩:=qks hcompat hseq;have hcs:=qlN hone;unfold wpOp;rw[ho];simp only;have key:=quv (g:=g) (w:=w) (ops:=ops) hcall hcore hr hN (fun q=>by rw[hc];exact hfr i hnl q) hokop hone (wpAny P .any ops Q fuel (listed.setIfInBounds i true)) Q (fun g1 w1 u c1 b1 st1 r1=>by
    refine ih (listed.setIfInBounds i true) g1 w1 (a.put ops[i].dst u) s1 t' ?_ (by simpa using hsz) (by rw[hcs,hc]) c1 r1 (by rw[qbH];exact hN) (by rw[put_defers];exact hdef) (hbox.trans hstep.size b1) (hstep.trans hbox (st1.weaken (fun x ⟨q,hx⟩=>⟨q,s.c+i,by omega,by omega,hx⟩))) (fun k hk q=> ?_) (fun k o hk hkl j hj=> ?_) (by rw[hr2];exact hseq') ?_
    ·rw[hr2]
     have h8:=congrArg List.length hr1;simp only[List.length_append,List.length_cons]at h8⊢
     omega
    ·have hki:k≠i:=by
      intro h;subst h
      have:k<listed.size:=by omega
      simp[Array.getD_eq_getD_getElem?,this]at hk
     have hk':listed.getD k true=false:=by
      rw[<-hk];simp[Array.getD_eq_getD_getElem?,Array.getElem?_setIfInBounds_ne (Ne.symm hki)]
     exact qlH st1 (by omega) (fun q=>hfr k hk' q) q
    ·have hset:∀m,listed.getD m true=true->(listed.setIfInBounds i true).getD m true=true:=by
      intro m hm
      by_cases hmi:m=i
      ·subst hmi
       have:m<listed.size:=by omega
       simp[Array.getD_eq_getD_getElem?,this]
      ·have e:(listed.setIfInBounds i true).getD m true=listed.getD m true:=by
        simp[Array.getD_eq_getD_getElem?,Array.getElem?_setIfInBounds_ne (Ne.symm hmi)]
       rw[e];exact hm
     by_cases hki:k=i
     ·subst hki
      rw[hv]at hk;simp at hk;subst hk
      exact hset j (hall j hj)
     ·have:listed.getD k true=true:=by
       have e:(listed.setIfInBounds i true).getD k true=listed.getD k true:=by
        simp[Array.getD_eq_getD_getElem?,Array.getElem?_setIfInBounds_ne (Ne.symm hki)]
       rw[<-e];exact hkl
      exact hset j (hcl k o hk this j hj)
    ·refine⟨fun x=> ?_,?_,?_,?_⟩
     ·rw[<-heq'.1 x];exact heq.1 x
     ·rw[<-heq'.2.1];exact heq.2.1
     ·rw[<-heq'.2.2.1];exact heq.2.2.1
     ·rw[<-heq'.2.2.2];exact heq.2.2.2)
   split
   ·rename_i hw
    rw[if_pos hw]at key;exact .inl key
   ·rename_i hw
    rw[if_neg hw]at key;exact key
end Go.Proofs.Ytfiakfiocdfpbaa.VS
namespace Go.Proofs.Ytfiakfiocdfpbaa.VS
variable {P:Program} {fid:Nat->FuncId}
theorem qFk{sz:Nat}:∀(xs:List DV),(∀x,x∈xs->x.cells.length=sz)->∀(k:Nat) (v:DV),(xs.flatMap DV.cells)[k]?=some v->∃(i:Nat) (x:DV) (j:Nat),xs[i]?=some x/\x.cells[j]?=some v/\k=i*sz+j/\j<sz
 | [],_,k,v,h=>by simp at h
 |x::r,hs,k,v,h=>by
  simp only[List.flatMap_cons]at h;have hx:=hs x (by simp)
  by_cases hk:k<sz
  ·rw[List.getElem?_append_left (by omega)]at h
   exact⟨0,x,k,rfl,h,by simp,hk⟩
  ·rw[List.getElem?_append_right (by omega),hx]at h
   obtain⟨i,y,j,h1,h2,h3,h4⟩:=qFk r (fun y hy=>hs y (by simp[hy])) _ _ h;exact⟨i+1,y,j,by simpa using h1,h2,by rw[Nat.add_mul];omega,h4⟩
theorem quQ{sz:Nat}:∀(xs:List DV),(∀x,x∈xs->x.cells.length=sz)->(xs.flatMap DV.cells).length=xs.length*sz
 | [],_=>by simp
 |x::r,hs=>by
  simp only[List.flatMap_cons,List.length_append,List.length_cons,hs x (by simp),quQ r (fun y hy=>hs y (by simp[hy]))];rw[Nat.add_mul];omega
theorem qJN{g:Gh}{w:World}{c r:DV}{u:Value}(h1:VR g w c u)(h2:VR g w r u)(hc:c.isCell=true)(hr:r.isCell=true):c.like r=true:=by
 cases c<;>cases r<;>first|rfl|(simp[DV.isCell]at hc;done)|(simp[DV.isCell]at hr;done)|((cases h1<;>cases h2);done)|(cases h1;cases h2;simp[DV.like])
theorem qeG{A:Ids}{a:Id}{rs:List DV}:∀{cs:List DV},DV.rests A a rs cs=true->∀v:DV,v∈cs->v.rest A a rs=true
 | [],_,v,hv=>by simp at hv
 |c::r,h,v,hv=>by
  simp only[DV.rests,Bool.and_eq_true]at h;rcases List.mem_cons.1 hv with rfl|hv
  ·exact h.1
  ·exact qeG h.2 v hv
theorem qvL{A:Ids}{a:Id}{rs:List DV}{x:DV}(h:x.rest A a rs=true)(v:DV)(hv:v∈x.cells):v.rest A a rs=true:=by
 cases x with
 |agg cs=>simp only[DV.rest]at h;exact qeG h v hv
 |_=>simp only[DV.cells,List.mem_singleton]at hv;subst hv;exact h
theorem qzl{g g2:Gh}{w:World}{A:Ids}{a:Id}{b:Nat}{rs:List DV}(hrow:g2.row=g.row)(hK:∀x,x≠b->g2.K x=g.K x)
 (hb:∃arr e,w.heap[b]?=some (.cells arr e (0,0))/\∀(k:Nat) (u:Value),k<g.K b->arr[k]?=some u->∃r:DV,r∈rs/\r.isCell=true/\VR g w r u)
 (hap:∀a' x,A a'=true->a'≠a->g.row a'=some x->x.1≠b) {v:DV} {u:Value} (h:VR g w v u):v.rest A a rs=true->VR g2 w v u:=by
 induction h with
 |int k n=>intro _;exact .int k n
 |bool k=>intro _;exact .bool k
 |str s=>intro _;exact .str s
 |agg cs us hs hc _ ih=>
  intro hr;simp only[DV.rest]at hr;exact .agg cs us hs hc fun j v u hj hu=>ih j v u hj hu (qeG hr v (List.mem_of_getElem? hj))
 |tup cs us hs _ ih=>
  intro hr;simp only[DV.rest]at hr;exact .tup cs us hs fun j v u hj hu=>ih j v u hj hu (qeG hr v (List.mem_of_getElem? hj))
 |nil=>intro _;exact .nil
 |row t xs ad c s U ht hl hm hcell hKK hc hv hown ih=>
  intro hr;simp only[DV.rest,Bool.and_eq_true,Bool.or_eq_true]at hr;obtain⟨h1,h2⟩:=hr;refine .row t xs ad c s U ht hl hm hcell ?_ hc (fun i x j v hi hj=>ih i x j v hi hj (qvL (qeG h2 x (List.mem_of_getElem? hi)) v (List.mem_of_getElem? hj))) (fun a sz ha=>by rw[hrow];exact hown a sz ha)
  by_cases hbb:ad.block=b
  ·rcases h1 with(h1|h1)|h1
   ·left
    have:xs=[]:=by simpa using h1
    simp[this]
   ·obtain⟨c0,hc0,hno⟩:=List.any_eq_true.1 h1
    obtain⟨k,hk⟩:=List.mem_iff_getElem?.1 hc0;have hlen:∀x,x∈xs->x.cells.length=s:=fun x hx=>by
     obtain⟨i,hi⟩:=List.mem_iff_getElem?.1 hx;exact(hc i x hi).1
    obtain⟨i,x,j,q1,q2,q3,q4⟩:=qFk xs hlen k c0 hk;have hklt:k<xs.length*s:=by rw[<-quQ xs hlen];exact(List.getElem?_eq_some_iff.1 hk).1
    have hkk:ad.off+xs.length*s<=g.K ad.block:=by
     rcases hKK with h|h
     ·omega
     ·exact h
    obtain⟨arr,e,b1,b2⟩:=hb;have hcl:=hcell k hklt;have harr:arr[ad.off+k]?=some (U k):=by
     unfold World.cell? at hcl;rw[add_block,hbb,b1]at hcl;simp only[qgX]at hcl;split at hcl
     ·simp at hcl
     ·exact hcl
    obtain⟨r,r1,r2,r3⟩:=b2 (ad.off+k) (U k) (by rw[<-hbb];omega) harr;have hvv:=hv i x j c0 q1 q2;rw[<-q3]at hvv;have hcc:c0.isCell=true:=(hc i x q1).2 c0 (List.mem_of_getElem? q2);have:=qJN hvv r3 hcc r2;have hno':=List.all_eq_true.1 hno r r1;rw[this]at hno';simp at hno'
   ·cases t with
    |own b' sz=>
     simp only[Bool.and_eq_true,Bool.not_eq_true',decide_eq_false_iff_not]at h1;obtain⟨o1,o2,o3,o4,o5⟩:=hown b' sz rfl;exact absurd hbb (hap b' _ h1.1 h1.2 o4)
    |nil=>simp at h1
    |sub=>simp at h1
  ·rw[hK _ hbb];exact hKK
theorem qFU{g g2:Gh}{w:World}{A:Ids}{a:Id}{b:Nat}{rs:List DV}(hrow:g2.row=g.row)(hK:∀x,x≠b->g2.K x=g.K x)(hbx:∀i b',g.bx i=some b'->g2.bx i=some b')
 (hb:∃arr e,w.heap[b]?=some (.cells arr e (0,0))/\∀(k:Nat) (u:Value),k<g.K b->arr[k]?=some u->∃r:DV,r∈rs/\r.isCell=true/\VR g w r u)
 (hap:∀a' x,A a'=true->a'≠a->g.row a'=some x->x.1≠b) {v:AV} {u:Value} (h:AVR fid g w v u) (hr:v.rest A a rs=true):AVR fid g2 w v u:=by
 cases h with
 |d v u h=>exact .d _ _ (qzl hrow hK hb hap h hr)
 |ptr i off b' h=>exact .ptr i off b' (hbx _ _ h)
 |ep cs ad U h1 h2 h3=>simp[AV.rest]at hr
 |nilp=>exact .nilp
 |fn f cap us h1 h2=>
  cases cap with
  |nil=>exact .fn f [] us h1 (fun j v u h=>by simp at h)
  |cons c r=>simp[AV.rest]at hr
 |bsl id ag i sz n b' h=>exact .bsl id ag i sz n b' (hbx _ _ h)
 |tsl ag i sz n c b' h h1 h2=>exact .tsl ag i sz n c b' (hbx _ _ h) h1 h2
 |ag cs us h1 h2=>simp[AV.rest]at hr
 |tp cs us h1 h2=>simp[AV.rest]at hr
 |und=>exact .und
theorem qlj{g:Gh}{w:World}{B:qan}{A:Ids}(hc:Core fid g w B A){a:Id}{sz:Nat}{x:DV}{xs:List DV}{u:Value}(ha:A a=true)(hv:VR g w (.sl (.own a sz) (x::xs)) u):
 ∃b c arr e,u= .slice (some ⟨b,0,none⟩) (xs.length+1) c/\g.row a=some (b,xs.length+1,c,sz)/\w.heap[b]?=some (.cells arr e (0,0))/\c*sz<=arr.size/\g.K b=(xs.length+1)*sz/\xs.length+1<=c/\c<=maxLen/\
  (∀i,g.bx i≠some b)/\((x::xs).flatMap DV.cells).length=(xs.length+1)*sz/\(∀d:DV,d∈(x::xs).flatMap DV.cells->d.isCell=true)/\
  (∀(k:Nat) (d:DV) (u':Value),((x::xs).flatMap DV.cells)[k]?=some d->arr[k]?=some u'->VR g w d u'):=by
 cases hv with
 |row _ _ ad c s U ht hle hm hcell hK hcc hrel hown=>
  obtain⟨o1,o2,o3,o4,o5⟩:=hown a sz rfl;subst o3;obtain⟨b',n',c',sz',arr,e,q1,q2,q3,q4,q5,q6⟩:=hc.opn a ha;rw[q1]at o4;simp only[Option.some.injEq,Prod.mk.injEq]at o4;obtain⟨rfl,rfl,rfl,rfl⟩:=o4;have had:ad=⟨ad.block,0,none⟩:=by cases ad;simp at o1 o2;simp[o1,o2]
  have hlen:∀y,y∈x::xs->y.cells.length=sz':=fun y hy=>by
   obtain⟨i,hi⟩:=List.mem_iff_getElem?.1 hy;exact(hcc i y hi).1
  have hfl:=quQ _ hlen;refine⟨ad.block,c',arr,e,by rw[<-had];rfl,q1,q2,q3,by rw[q4];simp,hle,hm,q6,by rw[hfl];simp,fun d hd=> ?_,fun k d u' hk hu=> ?_⟩
  ·obtain⟨k,hk⟩:=List.mem_iff_getElem?.1 hd
   obtain⟨i,y,j,h1,h2,h3,h4⟩:=qFk _ hlen k d hk;exact(hcc i y h1).2 d (List.mem_of_getElem? h2)
  ·obtain⟨i,y,j,h1,h2,h3,h4⟩:=qFk _ hlen k d hk
   have hlt:k<(x::xs).length*sz':=by rw[<-hfl];exact(List.getElem?_eq_some_iff.1 hk).1
   have h5:=hcell k hlt;have h6:w.cell? (ad.add k)=arr[k]?:=by
    rw[had,qbZ];simp[World.cell?,q2]
   rw[h6,hu]at h5;simp only[Option.some.injEq]at h5;have h7:=hrel i y j d h1 h2;rw[<-h3,<-h5]at h7;exact h7
def Gh.foc(b idx:Nat)(g:Gh):Gh:={K:=fun x=>if x=b then 0 else g.K x,row:=g.row,bx:=fun i=>if i=idx then some b else g.bx i}
theorem qFi{g:Gh}{w:World}{B B2:qan}{A:Ids}(hc:Core fid g w B A){a:Id}{b c n sz idx:Nat}{arr:Array Value}{e:TypeId}{rs:List DV}(ha:A a=true)(hrow:g.row a=some (b,n,c,sz))(hb:w.heap[b]?=some (.cells arr e (0,0)))(hsz:c*sz<=arr.size)(hn:n<=c)
 (hnb:∀i,g.bx i≠some b) (hfree:g.bx idx=none) (hl:rs.length=n*sz) (hcell:∀d:DV,d∈rs->d.isCell=true) (hrs:∀(k:Nat) (d:DV) (u':Value),rs[k]?=some d->arr[k]?=some u'->VR (g.foc b idx) w d u') (h2:B2[idx]?=some (some (rs.map .d)))
 (hbox:∀i b',g.bx i=some b'->∃cs arr e,B2[i]?=some (some cs)/\w.heap[b']?=some (.cells arr e (0,0))/\cs.length<=arr.size/\(∀(j:Nat) (v:AV) (u:Value),cs[j]?=some v->arr[j]?=some u->AVR fid (g.foc b idx) w v u)/\(∀v,v∈cs->v.isCell=true/\v.safe i=true)):
 Core fid (g.foc b idx) w B2 (Ids.del a A):=by
 refine⟨fun i b' h=> ?_,fun i j b' h1 h2=> ?_,fun a' ha'=> ?_,fun a1 a2 b' x x' h1 h2=> ?_,fun b' hb'=> ?_⟩
 ·simp only[Gh.foc]at h
  split at h
  ·rename_i hi
   subst hi;simp only[Option.some.injEq]at h;subst h
   refine⟨rs.map .d,arr,e,h2,hb,?_,fun j v u hj hu=> ?_,fun v hv=> ?_,by simp[Gh.foc]⟩
   ·rw[List.length_map,hl];exact Nat.le_trans (Nat.mul_le_mul_right _ hn) hsz
   ·simp only[List.getElem?_map]at hj
    obtain⟨d,hd,rfl⟩:=Option.map_eq_some_iff.1 hj;exact .d _ _ (hrs j d u hd hu)
   ·obtain⟨d,hd,rfl⟩:=List.mem_map.1 hv
    exact⟨hcell d hd,qai _ _⟩
  ·obtain⟨cs,arr',e',q1,q2,q3,q4,q5⟩:=hbox i b' h
   obtain⟨_,_,_,_,_,_,_,_,q6⟩:=hc.box i b' h;have hne:b'≠b:=fun he=>hnb i (by rw[<-he];exact h)
   exact⟨cs,arr',e',q1,q2,q3,q4,q5,by simp only[Gh.foc,if_neg hne];exact q6⟩
 ·simp only[Gh.foc]at h1 h2
  split at h1<;>split at h2
  ·omega
  ·simp only[Option.some.injEq]at h1;subst h1;exact absurd h2 (hnb j)
  ·simp only[Option.some.injEq]at h2;subst h2;exact absurd h1 (hnb i)
  ·exact hc.inj i j b' h1 h2
 ·simp only[Ids.del,Bool.and_eq_true,Bool.not_eq_true',decide_eq_false_iff_not]at ha'
  obtain⟨b',n',c',sz',arr',e',o1,o2,o3,o4,o5,o6⟩:=hc.opn a' ha'.2;have hne:b'≠b:=fun he=>ha'.1 (hc.apart a' a b _ _ ha'.2 ha (by rw[o1,he]) hrow)
  refine⟨b',n',c',sz',arr',e',o1,o2,o3,by simp only[Gh.foc,if_neg hne];exact o4,o5,fun i hi=> ?_⟩;simp only[Gh.foc]at hi;split at hi
  ·simp only[Option.some.injEq]at hi;exact hne hi.symm
  ·exact o6 i hi
 ·simp only[Ids.del,Bool.and_eq_true]at h1 h2
  exact hc.apart a1 a2 b' x x' h1.2 h2.2
 ·simp only[Gh.foc]
  split
  ·rfl
  ·exact hc.K0 b' hb'
end Go.Proofs.Ytfiakfiocdfpbaa.VS
namespace Go.Proofs.Ytfiakfiocdfpbaa.VS
variable {P:Program} {fid:Nat->FuncId}
theorem qqR{s s1:St}{new:Id}{sz bytes:Nat}{g gy:Tag}{xs:List DV}{z u:DV}{rv:AV}(hnil:g= .nil->xs=[])(hz:z.cells.length=sz/\z.cells.all DV.isCell=true)(h:qbr s new sz bytes (.sl g xs) (.sl gy [u])=some (rv,s1)):
 rv= .d (.sl (.own new sz) (xs++[u]))/\qbr s new sz bytes (.sl g xs) (.sl gy [z])=some (.d (.sl (.own new sz) (xs++[z])),s1)/\s1.r=s.r/\s1.B=s.B/\s1.c=s.c/\s1.A new=true/\
  (∀a,s.A a=true->s1.A a=true\/((∃sz',g= .own a sz')/\xs≠[])):=by
 have hzz:([z]:List DV).all (fun e=>decide (e.cells.length=sz/\e.cells.all DV.isCell=true))=true:=by
  simp only[List.all_cons,List.all_nil,Bool.and_true,decide_eq_true_eq];exact hz
 unfold qbr at h⊢
 simp only at h⊢
 split at h
 ·simp only[List.isEmpty_cons,Bool.false_eq_true,if_false]at h
  rw[if_pos hzz];simp only[List.isEmpty_cons,Bool.false_eq_true,if_false];split at h
  ·rename_i hb
   have hb':(xs.length+[z].length)*bytes<=140737488355328:=hb;rw[if_pos hb'];cases g with
   |nil=>
    have:=hnil rfl;subst this;simp only[Option.some.injEq,Prod.mk.injEq]at h;obtain⟨rfl,rfl⟩:=h;exact⟨rfl,rfl,rfl,rfl,rfl,by simp[Ids.add],fun b hb=> .inl (by simp[Ids.add,hb])⟩
   |sub=>simp at h
   |own a sz'=>
    simp only at h⊢
    cases xs with
    |nil=>
     simp only[List.isEmpty_nil,if_true,Option.some.injEq,Prod.mk.injEq]at h;obtain⟨rfl,rfl⟩:=h;exact⟨rfl,rfl,rfl,rfl,rfl,by simp[Ids.add],fun b hb=> .inl (by simp[Ids.add,hb])⟩
    |cons x r=>
     simp only[List.isEmpty_cons,Bool.false_eq_true,if_false]at h⊢
     split at h
     ·rename_i hc
      rw[if_pos hc];simp only[Option.some.injEq,Prod.mk.injEq]at h;obtain⟨rfl,rfl⟩:=h;refine⟨rfl,rfl,rfl,rfl,rfl,by simp[Ids.add],fun b hb=> ?_⟩
      by_cases hba:b=a
      ·subst hba;exact .inr ⟨⟨_,rfl⟩,by simp⟩
      ·exact .inl (by simp[Ids.add,Ids.del,hb,hba])
     ·simp at h
  ·simp at h
 ·simp at h
theorem qgi(a:Act)(d t:Nat)(u:Value)(h:t≠d):(a.put (some d) u).tmps.getD t undef=a.tmps.getD t undef:=by
 rw[qej,if_neg (fun hh=>h (by simpa using hh.1.symm))]
theorem qfQ(a:Act)(d:Nat)(u:Value)(h:d<a.tmps.size):(a.put (some d) u).tmps.getD d undef=u:=by
 rw[qej,if_pos ⟨rfl,h⟩]
theorem qm3{o:Oper}(h:o.guard.isNone=true)(l:Nat->Option Bool):Region.wanted o l=true:=by
 unfold Region.wanted;cases hg:o.guard with
 |none=>rfl
 |some q=>rw[hg]at h;simp at h
theorem qoj{op:Op}{sz bytes:Nat}{x y:VX}(h:qaM P fid op (.append sz bytes x y)=true):∃px py,okX fid px x=true/\okX fid py y=true:=by
 cases op with
 |call cc=>
  obtain⟨callee,args,argTypes⟩:=cc;cases callee with
  |builtin b=>
   cases b with
   |append=>
    simp only[qaM]at h;split at h
    ·rename_i px py t t' ha ht
     simp only[Bool.and_eq_true,decide_eq_true_eq]at h;exact⟨px,py,h.1.1.1,h.1.1.2⟩
    ·simp at h
   |_=>simp[qaM]at h
  |_=>simp[qaM]at h
 |_=>simp[qaM]at h
theorem qKw{g:Gh}{w:World}{r:List (Nat×AV)}{a:Act}{d8 t9:Nat}{u8 u9:Value}{o:Operand}{x:VX}{v:AV}(hr:qcK fid g w r a.tmps)(h1:x.tmps.contains d8=false)(h2:x.tmps.contains t9=false)(ho:okX fid o x=true)(hx:x.get r=some v):
 AVR fid g w v (((a.put (some d8) u8).put (some t9) u9).eval o):=by
 cases x with
 |c c0=>
  have hr0:qcK fid g w [] ((a.put (some d8) u8).put (some t9) u9).tmps:=by intro t v h;simp[lk]at h
  exact qaq hr0 ho hx
 |t t=>
  simp only[VX.tmps,List.contains_cons,List.contains_nil,Bool.or_false,beq_eq_false_iff_ne]at h1 h2;have hr2:qcK fid g w [(t,v)] ((a.put (some d8) u8).put (some t9) u9).tmps:=by
   intro t' v' h;simp only[lk]at h;split at h
   ·rename_i he
    simp only[Option.some.injEq]at h;subst h;subst he
    rw[qgi _ _ _ _ (fun he=>h2 he.symm),qgi _ _ _ _ (fun he=>h1 he.symm)];exact hr t' v hx
   ·simp at h
  exact qaq hr2 ho (by simp[VX.get,lk])
theorem qqH{sz:Nat}:∀{xs:List DV},(∀q:DV,q∈xs->q.cells.length=sz)->∀{i:Nat} {x:DV} {j:Nat} {v:DV},xs[i]?=some x->x.cells[j]?=some v->(xs.flatMap DV.cells)[i*sz+j]?=some v
 | [],_,i,x,j,v,h,_=>by simp at h
 |y::ys,hs,i,x,j,v,h,hj=>by
  simp only[List.flatMap_cons];cases i with
  |zero=>
   simp only[List.getElem?_cons_zero,Option.some.injEq]at h;subst h
   rw[List.getElem?_append_left (by have:=(List.getElem?_eq_some_iff.1 hj).1;omega)];simpa using hj
  |succ i=>
   simp only[List.getElem?_cons_succ]at h;have hy:=hs y (by simp);rw[List.getElem?_append_right (by rw[hy,Nat.add_mul];omega),hy,show(i+1)*sz+j-sz=i*sz+j by rw[Nat.add_mul];omega];exact qqH (fun q hq=>hs q (by simp[hq])) h hj
theorem qyQ{g:Gh}{w:World}{v:DV}{u:Value}(h:VR g w v u)(hc:∀c:DV,c∈v.cells->c.isCell=true):u.cells.size=v.cells.length/\∀(m:Nat) (c:DV) (x:Value),v.cells[m]?=some c->u.cells[m]?=some x->VR g w c x:=by
 have ha:(AV.d v).cells.all AV.isCell=true:=by
  cases v with
  |agg cs=>simp only[AV.cells,List.all_map,List.all_eq_true];intro c hcm;exact hc c hcm
  |tup vs=>have:=hc (.tup vs) (by simp[DV.cells]);simp[DV.isCell]at this
  |_=>rfl
 obtain⟨h1,h2,_⟩:=qf4 (fid:=fun _=>0) (.d _ _ h) ha;refine⟨by rw[h1];cases v<;>simp[AV.cells,DV.cells],fun m c x h3 h4=> ?_⟩;have h5:(AV.d v).cells[m]?=some (.d c):=by
  cases v with
  |agg cs=>simp only[AV.cells,DV.cells,List.getElem?_map]at h3⊢;rw[h3];rfl
  |_=>
   simp only[AV.cells,DV.cells]at h3⊢
   cases m with
   |zero=>simp at h3⊢;exact h3
   |succ m=>simp at h3
 exact qdb (h2 m _ x h5 h4)
theorem qvw{call:qav}{p:Id}{L0 i N:Nat}{g:Gh}{w:World}{a:Act}{s s':St}{o8 o9 o10:Oper}{vo:VOper}
 (hcore:Core fid g w s.B s.A) (hr:qcK fid g w s.r a.tmps) (hN:a.tmps.size=N) (hfr:∀q,g.row (q++(s.c+i)::p)=none) (hok:qoi P fid N o8 o9 o10 vo=true) (hv:qdv call p false L0 i vo s=some s'):
 ∃(d8 t9:Nat) (u8:Value) (b off:Nat) (arr arr':Array Value) (e:TypeId) (w1:World) (g2:Gh),o8.dst=some d8/\o9.dst=some t9/\o10.dst=none/\o8.guard.isNone=true/\o9.guard.isNone=true/\o10.guard.isNone=true/\
  (∃n,(execOp a.eval o8).run P w= .ok n w1/\(n= .value u8\/(n= .skip/\u8=undef)))/\
  (∀ww:World,(execOp (a.put (some d8) u8).eval o9).run P ww= .ok (.value (.pointer (some ⟨b,off,none⟩))) ww)/\w1.heap[b]?=some (.cells arr e (0,0))/\
  (∀ww:World,ww.heap[b]?=some (.cells arr e (0,0))->(execOp ((a.put (some d8) u8).put (some t9) (.pointer (some ⟨b,off,none⟩))).eval o10).run P ww= .ok .skip (ww.setRow b arr'))/\
  (∀i' b',g2.bx i'=some b'->b'≠b)/\
  Core fid g2 (w1.setRow b arr') s'.B s'.A/\Boxes g w g2/\Step (under (s.c+i) p) g w s.A g2 (w1.setRow b arr') s'.A/\qcK fid g2 (w1.setRow b arr') s'.r ((a.put (some d8) u8).put (some t9) (.pointer (some ⟨b,off,none⟩))).tmps:=by
 unfold qoi at hok;split at hok
 rotate_left
 ·simp at hok
 rename_i vo0 d8 sz bytes x y ix v t9 af;simp only[Bool.and_eq_true,beq_iff_eq,decide_eq_true_eq,Bool.not_eq_true']at hok;obtain⟨⟨⟨⟨⟨⟨⟨⟨⟨⟨⟨⟨⟨⟨k1,k2⟩,k3⟩,k4⟩,k5⟩,k6⟩,k7⟩,k8⟩,k9⟩,k10⟩,k11⟩,k12⟩,k13⟩,k14⟩,k15⟩:=hok;have hv':qa4 call p false L0 i ⟨some d8,.append1 sz bytes x y ix v t9,none,af⟩ s=some s':=by
  unfold qdv at hv;simpa[qcH]using hv
 simp only[qa4]at hv';split at hv'
 rotate_left
 ·simp at hv'
 rename_i gx xs gy z kk n wv e1 e2 e3 e4;split at hv'
 rotate_left
 ·simp at hv'
 rename_i hc;obtain⟨-,hn,hz1,hz2,hw1,hw2,ht9⟩:=hc;obtain⟨⟨rv,s1⟩,hap,hs'⟩:=Option.map_eq_some_iff.1 hv';simp only at hs';obtain⟨px,py,hpx,hpy⟩:=qoj k9;have hxv:=qdb (qaq (w:=w) hr hpx e1);have hnil:gx= .nil->xs=[]:=by
  intro he;subst he
  generalize a.eval px=q0 at hxv;cases hxv with
  |nil=>rfl
  |row _ _ _ _ _ _ ht=>exact absurd rfl ht
 have hf0:g.row ((s.c+i)::p)=none:=by have:=hfr [];simpa using this
 obtain⟨rfl,hapz,hs1r,hs1B,hs1c,hnewA,hold⟩:=qqR hnil ⟨hz1,hz2⟩ hap;subst hs';have hd8s:d8<a.tmps.size:=by rw[hN];exact k4
 have hd8:∀d,o8.dst=some d->d<a.tmps.size:=fun d hd=>by
  rw[k1]at hd;have:=Option.some.inj hd;rw[<-this];exact hd8s
 obtain⟨D,hheap,hcells⟩:=qm9 (call:=call) (p:=p) (draw:=false) (L0:=L0) (i:=i) (s':=s1.put (some d8) (.d (.sl (.own ((s.c+i)::p) sz) (xs++[z])))) (gd:=none) (af:=[]) hcore hr hd8 k9 (by rw[k1];simp only[qa4,e1,e2,hapz,Option.map_some]) hf0;obtain⟨nx,u8,w1,g1,run8,res8,c1,b1,st1,r1⟩:=D;simp only at hheap hcells;obtain⟨bn,ln,cn,hun,hcells⟩:=hcells gx xs gy [z] e1 e2 (by simp);rw[qgq]at c1;rw[qcQ]at c1 st1;have hnx:nx= .value u8\/(nx= .skip/\u8=undef):=res8;rw[k1]at r1;have hu8:AVR fid g1 w1 (.d (.sl (.own ((s.c+i)::p) sz) (xs++[z]))) u8:=by
  have h:=r1 d8 (.d (.sl (.own ((s.c+i)::p) sz) (xs++[z]))) (by simp[St.put,lk]);rw[qfQ a d8 u8 hd8s]at h;exact h
 obtain⟨y0,ys0,hy0⟩:∃y0 ys0,xs++[z]=y0::ys0:=by
  cases xs with
  |nil=>exact⟨_,_,rfl⟩
  |cons q r=>exact⟨_,_,rfl⟩
 have hlen:ys0.length+1=xs.length+1:=by have:=congrArg List.length hy0;simp at this;omega
 have hu8':=qdb hu8;rw[hy0]at hu8';obtain⟨b,c,arr,e,hu,hrow,hb,hsz,hKb,hnc,hm,hnb,hfl,hfc,hrel⟩:=qlj c1 hnewA hu8';rw[hlen]at hu hrow hKb hnc hfl;rw[<-hy0]at hfl hfc hrel;have hxsl:∀q:DV,q∈xs++[z]->q.cells.length=sz:=by
  cases hu8' with
  |row _ _ ad cc ss U ht hl hm' hcell hK' hcs hvs hown=>
   obtain⟨_,_,rfl,_,_⟩:=hown _ _ rfl;intro q hq;rw[hy0]at hq;obtain⟨j,hj⟩:=List.mem_iff_getElem?.1 hq;exact(hcs j q hj).1
 have hxl:(xs.flatMap DV.cells).length=xs.length*sz:=quQ xs fun q hq=>hxsl q (by simp[hq])
 have hx1:(xs++[z]).flatMap DV.cells=xs.flatMap DV.cells++z.cells:=by simp
 have hoff:xs.length*sz+sz<=arr.size:=by
  have h1:(xs.length+1)*sz<=c*sz:=Nat.mul_le_mul_right _ hnc;rw[Nat.add_mul]at h1;omega
 have hu9:∀ww:World,(execOp (a.put (some d8) u8).eval o9).run P ww= .ok (.value (.pointer (some ⟨b,xs.length*sz,none⟩))) ww:=by
  intro ww;obtain⟨dst9,op9,ty9,pos9,after9,guard9⟩:=o9;cases op9 with
  |indexAddr t yy jj=>
   simp only[qaM,Bool.and_eq_true]at k10;obtain⟨⟨q1,q2⟩,q3⟩:=k10;split at q3
   ·rename_i el he
    simp only[decide_eq_true_eq]at q3;have hue:=qlo he;obtain⟨ti,hti,hsz'⟩:=qln q3;have hyy:(a.put (some d8) u8).eval yy=u8:=by
     cases yy with
     |tmp t'=>
      simp only[okX,beq_iff_eq]at q1;subst q1
      exact qfQ a _ u8 hd8s
     |_=>simp[okX]at q1
    have hjj:(a.put (some d8) u8).eval jj= .int kk n:=by
     have hr2:qcK fid g w s.r a.tmps:=hr;cases ix with
     |c c0=>
      have hr0:qcK fid g w [] (a.put (some d8) u8).tmps:=by intro t v h;simp[lk]at h
      exact qbY (qaq hr0 q2 e3)
     |t t'=>
      simp only[VX.tmps,List.contains_cons,List.contains_nil,Bool.or_false,beq_eq_false_iff_ne]at k12;have hr3:qcK fid g w [(t',.d (.int kk n))] (a.put (some d8) u8).tmps:=by
       intro t2 v2 h2;simp only[lk]at h2;split at h2
       ·rename_i he2
        simp only[Option.some.injEq]at h2;subst h2;subst he2
        rw[qgi _ _ _ _ (fun he3=>k12 he3.symm)];exact hr _ _ e3
       ·simp at h2
      exact qbY (qaq hr3 q2 (by simp[VX.get,lk]))
    have hn0:0<=n:=by omega
    have hnl:n<((xs.length+1:Nat):Int):=by omega
    have hnt:n.toNat=xs.length:=by omega
    have hyy:=hyy.trans hu;generalize (a.put (some d8) u8).eval=ev at hyy hjj⊢
    have hadd:(⟨b,0,none⟩:Addr).add (n.toNat*sz)=⟨b,xs.length*sz,none⟩:=by rw[qbZ,hnt]
    simp[execOp,Instr.indexAt,hyy,hjj,asIntOf,underlying,hue,sizeOf,typeInfo,hti,hsz'];simp[hn0,hnt,qbZ];intro hh;omega
   ·simp at q3
  |_=>simp[qaM]at k10
 have hq:=qKw (u8:=u8) (u9:= .pointer (some ⟨b,xs.length*sz,none⟩)) hr k13 k14 (o:=(match o10.op with| .store _ _ y=>y|_=> .tmp 0)) (x:=v) (v:= .d wv) (by
  obtain⟨dst10,op10,ty10,pos10,after10,guard10⟩:=o10;cases op10 with
  |store t xx yy=>
   simp only[qaM,Bool.and_eq_true]at k11;exact k11.2
  |_=>simp[qaM]at k11) e4
 have hu10:∃q:Value,AVR fid g w (.d wv) q/\q.cells.size=sz/\∀ww:World,ww.heap[b]?=some (.cells arr e (0,0))->(execOp ((a.put (some d8) u8).put (some t9) (.pointer (some ⟨b,xs.length*sz,none⟩))).eval o10).run P ww= .ok .skip (ww.setRow b (splice arr.toList (xs.length*sz) q.cells.toList).toArray):=by
  obtain⟨dst10,op10,ty10,pos10,after10,guard10⟩:=o10;cases op10 with
  |store t xx yy=>
   simp only[qaM,Bool.and_eq_true,decide_eq_true_eq]at k11;obtain⟨⟨q1,q2⟩,q3⟩:=k11;simp only at hq;refine⟨_,hq,?_⟩;have hsx:((a.put (some d8) u8).put (some t9) (.pointer (some ⟨b,xs.length*sz,none⟩))).eval xx= .pointer (some ⟨b,xs.length*sz,none⟩):=by
    cases xx with
    |tmp t'=>
     simp only[okX,beq_iff_eq]at q2;subst q2
     exact qfQ _ _ _ (by rw[qbH];omega)
    |_=>simp[okX]at q2
   have hall:(AV.d wv).cells.all AV.isCell=true:=by
    cases wv with
    |agg cs=>simpa[AV.cells,DV.cells,AV.isCell]using hw2
    |_=>simpa[AV.cells,DV.cells,AV.isCell]using hw2
   have hcl:(AV.d wv).cells.length=sz:=by
    rw[<-hw1];cases wv<;>simp[AV.cells,DV.cells]
   obtain⟨z1,z2,z3⟩:=qf4 hq hall;rw[hcl]at z1;refine⟨z1,fun ww hww=> ?_⟩;generalize ((a.put (some d8) u8).put (some t9) (.pointer (some ⟨b,xs.length*sz,none⟩))).eval=ev at hsx z1 z3⊢
   generalize hqq:ev yy=q at z1 z3⊢
   have hst:=run_storeCells_at (P:=P) b (xs.length*sz) e q.cells.toList 0 arr ww hww (by simp;omega) z3;simp only[execOp,Instr.storeAt,hsx,Instr.sureAddr,hqq,Sem.run_bind,Sem.run_pure,Result.andThen_ok,storeVar,qh8 q1];rw[if_neg (by simp;omega),hst];simp[splice]
  |_=>simp[qaM]at k11
 obtain⟨q,hqv,hqs,hrun10⟩:=hu10;have hlt9:t9<(a.put (some d8) u8).tmps.size:=by rw[qbH,hN];exact k5
 let w2:=w1.setRow b (splice arr.toList (xs.length*sz) q.cells.toList).toArray
 let g2:Gh:={K:=g1.K,row:=g1.row,bx:=g.bx}
 have hKle:g.K b<=xs.length*sz:=by
  rcases Nat.lt_or_ge b w.heap.size with hlt|hge
  ·rcases st1.org ((s.c+i)::p) b hnewA (by simp[Gh.blk,hrow])with h1|⟨a0,h1,h2⟩
   ·omega
   ·rcases hold a0 h1 with h3|⟨⟨sz',h3⟩,h4⟩
    ·exfalso
     obtain⟨bb,x0,hb0⟩:∃bb x0,g.row a0=some (bb,x0)/\bb=b:=by
      simp only[Gh.blk,Option.map_eq_some_iff]at h2;obtain⟨q0,h5,h6⟩:=h2;exact⟨q0.1,q0.2,h5,h6⟩
     obtain⟨hb0,rfl⟩:=hb0;have h5:=st1.ext.row a0 _ hb0;have h6:=c1.apart a0 ((s.c+i)::p) bb _ _ h3 hnewA h5 hrow;rw[<-h6]at hf0;rw[hb0]at hf0;simp at hf0
    ·subst h3
     cases xs with
     |nil=>exact absurd rfl h4
     |cons x0 xr=>
      have hszx:sz'=sz:=by
       have hxv':=hxv;generalize a.eval px=q0 at hxv';cases hxv' with
       |row _ _ ad cc ss U ht hl hm' hcell hK' hcs hvs hown=>
        obtain⟨_,_,rfl,_,_⟩:=hown a0 sz' rfl;rw[<-(hcs 0 x0 rfl).1];exact hxsl x0 (by simp)
      obtain⟨b',c',arr',e',f1,f2,f3,f4,f5,_⟩:=qlj hcore h1 hxv;simp only[Gh.blk,f2,Option.map_some,Option.some.injEq]at h2;subst h2;rw[f5,hszx];simp
  ·rw[hcore.K0 b hge];exact Nat.zero_le _
 have hheap2:∀b',b'≠b->w2.heap[b']?=w1.heap[b']?:=fun b' hb'=>setRow_other w1 b b' _ hb'
 have hheapb:w2.heap[b]?=some (.cells (splice arr.toList (xs.length*sz) q.cells.toList).toArray e (0,0)):=setRow_heap w1 b arr _ e (0,0) hb;have hqll:q.cells.toList.length=sz:=by simpa using hqs
 have hspl:(splice arr.toList (xs.length*sz) q.cells.toList).length=arr.size:=by rw[qb8 _ _ _ (by rw[hqll];simpa using hoff)];simp
 have hlow:∀k,k<xs.length*sz->(splice arr.toList (xs.length*sz) q.cells.toList).toArray[k]?=arr[k]?:=fun k hk=>by
  simp only[List.getElem?_toArray];rw[qb9 _ _ _ (by rw[hqll];simpa using hoff),if_neg (by omega)];simp
 have hext:Ext g w g2 w2:=by
  refine⟨⟨fun x=>st1.ext.K x,fun ad had=> ?_,st1.ext.row⟩,fun _ _ h=>h⟩;rw[<-st1.ext.cell ad had]
  by_cases hbb:ad.block=b
  ·simp only[World.cell?]
   rw[hbb,hheapb,hb];simp only;split
   ·rfl
   ·rw[hlow ad.off (by rw[hbb]at had;omega)]
  ·simp only[World.cell?,hheap2 _ hbb]
 have hnbg:∀i',g.bx i'≠some b:=fun i' hi'=>hnb i' (b1.old i' b hi')
 have hwv:VR g w wv q:=qdb hqv;refine⟨d8,t9,u8,b,xs.length*sz,arr,(splice arr.toList (xs.length*sz) q.cells.toList).toArray,e,w1,g2,k1,k2,k3,k6,k7,k8,⟨nx,run8,hnx⟩,hu9,hb,hrun10,fun i' b' hi' he=>hnbg i' (by rw[<-he];exact hi'),?_,⟨fun _ _ h=>h,fun _ _ h=> .inl h⟩,?_,fun t v0 hv0=> ?_⟩
 ·rw[qgq,qcQ,hs1B]
  refine⟨fun i' b' hi'=> ?_,hcore.inj,fun a' ha'=> ?_,fun a1 a2 b' x1 x2 h1 h2 h3 h4=>c1.apart a1 a2 b' x1 x2 h1 h2 h3 h4,fun b' hb'=>c1.K0 b' (by simpa[w2,World.setRow]using hb')⟩
  ·obtain⟨cs,arr',e',f1,f2,f3,f4,f5,f6⟩:=hcore.box i' b' hi'
   have hne:b'≠b:=fun he=>hnbg i' (by rw[<-he];exact hi')
   obtain⟨cs2,arr2,e2',m1,m2,m3,m4,m5,m6⟩:=c1.box i' b' (b1.old i' b' hi');exact⟨cs,arr',e',f1,by rw[hheap2 b' hne,hheap i' b' hi'];exact f2,f3,fun j v0 u0 q1 q2=>(f4 j v0 u0 q1 q2).mono fid hext,f5,m6⟩
  ·obtain⟨b',n',c',sz',arr',e',f1,f2,f3,f4,f5,f6⟩:=c1.opn a' ha'
   by_cases hbb:b'=b
   ·subst hbb
    rw[hb]at f2;simp only[Option.some.injEq,Obj.cells.injEq]at f2;obtain⟨rfl,rfl,_⟩:=f2;exact⟨b',n',c',sz',_,e,f1,hheapb,by rw[List.size_toArray,hspl];exact f3,f4,f5,hnbg⟩
   ·exact⟨b',n',c',sz',arr',e',f1,by rw[hheap2 b' hbb];exact f2,f3,f4,f5,fun i' hi'=>f6 i' (b1.old i' b' hi')⟩
 ·rw[qcQ]
  refine⟨st1.os,st1.tape,st1.output,by simpa[w2,World.setRow]using st1.size,hext.toExtV,fun b' hb' h1 h2=> ?_,st1.new,fun a' b' ha' hb'=>st1.org a' b' ha' hb',fun b' c0 e0 z0 hb'=> ?_⟩
  ·obtain⟨m1,m2⟩:=st1.keep b' hb' h1 h2
   refine⟨?_,m2⟩;rw[hheap2 b' (fun he=> ?_)]
   ·exact m1
   ·subst he
    rcases st1.org ((s.c+i)::p) b' hnewA (by simp[Gh.blk,hrow])with h3|⟨a0,h3,h4⟩
    ·omega
    ·exact h2 a0 h3 h4
  ·obtain⟨c2,m1,m2⟩:=st1.arr b' c0 e0 z0 hb'
   by_cases hbb:b'=b
   ·subst hbb
    rw[hb]at m1;simp only[Option.some.injEq,Obj.cells.injEq]at m1;obtain⟨rfl,rfl,rfl⟩:=m1;exact⟨_,hheapb,by rw[List.size_toArray,hspl];exact m2⟩
   ·exact⟨c2,by rw[hheap2 b' hbb];exact m1,m2⟩
 ·simp only[St.put,lk]at hv0
  split at hv0
  ·rename_i he
   simp only[Option.some.injEq]at hv0;subst hv0;subst he
   rw[qgi _ _ _ _ k15,qfQ a _ u8 hd8s,hu];have hxl1:(xs++[wv]).length=xs.length+1:=by simp
   have key:VR g2 w2 (.sl (.own ((s.c+i)::p) sz) (xs++[wv])) (.slice (some ⟨b,0,none⟩) (xs++[wv]).length c):=by
    have hget:∀k,k<(xs.length+1)*sz->∃u0,(splice arr.toList (xs.length*sz) q.cells.toList).toArray[k]?=some u0:=fun k hk=>by
     refine⟨_,Array.getElem?_eq_getElem (by rw[List.size_toArray,hspl];rw[Nat.add_mul]at hk;omega)⟩
    refine .row _ _ ⟨b,0,none⟩ c sz (fun k=>(splice arr.toList (xs.length*sz) q.cells.toList).toArray.getD k undef) (by simp) (by rw[hxl1];exact hnc) hm (fun k hk=> ?_) (.inr ?_) (fun j y hj=> ?_) (fun j y m v1 hj hm1=> ?_) (fun a' sz' ht=> ?_)
    ·rw[qbZ]
     rw[hxl1]at hk;obtain⟨u0,hu0⟩:=hget k hk;simp only[World.cell?,hheapb,Option.isSome_none,Bool.false_eq_true,if_false,hu0,Array.getD_eq_getD_getElem?,Option.getD_some]
    ·simp only[hxl1];show 0+_<=g1.K b;rw[hKb];omega
    ·by_cases hjx:j<xs.length
     ·rw[List.getElem?_append_left hjx]at hj
      refine⟨hxsl y (by simp[List.mem_of_getElem? hj]),fun v1 hv1=>hfc v1 ?_⟩;exact List.mem_flatMap.2 ⟨y,by simp[List.mem_of_getElem? hj],hv1⟩
     ·rw[List.getElem?_append_right (by omega)]at hj
      have:j-xs.length=0:=by have:=(List.getElem?_eq_some_iff.1 hj).1;simp at this;omega
      rw[this]at hj;simp only[List.getElem?_cons_zero,Option.some.injEq]at hj;subst hj
      exact⟨hw1,fun v1 hv1=>List.all_eq_true.1 hw2 v1 hv1⟩
    ·by_cases hjx:j<xs.length
     ·rw[List.getElem?_append_left hjx]at hj
      have hyl:=hxsl y (by simp[List.mem_of_getElem? hj]);have hmlt:m<sz:=by have:=(List.getElem?_eq_some_iff.1 hm1).1;omega
      have hklt:j*sz+m<xs.length*sz:=by
       have:=Nat.mul_le_mul_right sz (show j+1<=xs.length by omega);rw[Nat.add_mul]at this;omega
      have hat:(flat (xs++[z]))[j*sz+m]?=some v1:=by
       have:=qqH (xs:=xs++[z]) (sz:=sz) hxsl (i:=j) (x:=y) (j:=m) (v:=v1) (by rw[List.getElem?_append_left hjx];exact hj) hm1;exact this
      obtain⟨u0,h1,h2⟩:=hcells _ v1 hat;rw[hu]at hun;simp only[Value.slice.injEq,Option.some.injEq,Addr.mk.injEq]at hun;obtain⟨⟨rfl,-,-⟩,-,-⟩:=hun;have h3:arr[j*sz+m]?=some u0:=by simpa[World.cell?,hb]using h1
      have h4:=hlow (j*sz+m) hklt;rw[Array.getD_eq_getD_getElem?,h4,h3,Option.getD_some];exact h2.mono hext.toExtV
     ·rw[List.getElem?_append_right (by omega)]at hj
      have hj0:j-xs.length=0:=by have:=(List.getElem?_eq_some_iff.1 hj).1;simp at this;omega
      have hje:j=xs.length:=by omega
      rw[hj0]at hj;simp only[List.getElem?_cons_zero,Option.some.injEq]at hj;subst hj
      have hmlt:m<sz:=by have:=(List.getElem?_eq_some_iff.1 hm1).1;omega
      have hcells2:=qyQ hwv (List.all_eq_true.1 hw2);obtain⟨w3,w4⟩:=hcells2;have hqm:∃u0,q.cells[m]?=some u0:=⟨_,Array.getElem?_eq_getElem (by omega)⟩;obtain⟨u0,hqm⟩:=hqm;have h3:(splice arr.toList (xs.length*sz) q.cells.toList).toArray[j*sz+m]?=some u0:=by
       simp only[List.getElem?_toArray];rw[qb9 _ _ _ (by rw[hqll];simpa using hoff),if_pos (by rw[hqll,hje];omega),hje,show xs.length*sz+m-xs.length*sz=m by omega];simpa using hqm
      rw[Array.getD_eq_getD_getElem?,h3,Option.getD_some];exact(w4 m v1 u0 hm1 hqm).mono hext.toExtV
    ·simp only[Tag.own.injEq]at ht
     obtain⟨rfl,rfl⟩:=ht;exact⟨rfl,rfl,rfl,by rw[hxl1];exact hrow,fun h=>by simp at h⟩
   rw[hxl1]at key;exact .d _ _ key
  ·rename_i he
   rw[hs1r]at hv0;have hne9:t≠t9:=fun h9=>by rw[h9,ht9]at hv0;simp at hv0
   rw[qgi _ _ _ _ hne9,qgi _ _ _ _ he];exact(hr t v0 hv0).mono fid hext
end Go.Proofs.Ytfiakfiocdfpbaa.VS
namespace Go.Proofs.Ytfiakfiocdfpbaa.VS
variable {P:Program} {fid:Nat->FuncId}
def qD6(n k:Nat):Array Bool:=Array.ofFn (n:=n) fun i=>decide (i.1<k)
theorem qyT(n k:Nat):(qD6 n k).size=n:=by simp[qD6]
theorem qD5{n k i:Nat}(h:i<n)(b:Bool):(qD6 n k).getD i b=decide (i<k):=by
 simp[qD6,Array.getD_eq_getD_getElem?,h]
theorem qyU{n k:Nat}{l:Array Bool}(hs:l.size=n)(h:∀i,i<n->l.getD i true=decide (i<k)):l=qD6 n k:=by
 refine Array.ext (by rw[hs,qyT]) fun i h1 h2=> ?_
 have h3:=h i (by omega);have h4:=qD5 (n:=n) (k:=k) (i:=i) (by omega) true;simp only[Array.getD_eq_getD_getElem?,Array.getElem?_eq_getElem h1,Array.getElem?_eq_getElem h2,Option.getD_some]at h3 h4;rw[h3,h4]
theorem qKy{call:qav}(hcall:qeq P fid call){p:Id}{L0 N c:Nat}{ops:Array Oper}{vs:List VOper}(hok:qbi P fid N ops true (ops.toList.take vs.length) vs=true)(hK:vs.length<=ops.size)(htail:∀i,vs.length<=i->i<ops.size->∀j,j<vs.length->∀o,ops[i]?=some o->j∈qcP o)(hdraw:qfs vs=true){sf:St}
 {Q:Exit->Act->World->Prop} {g0:Gh} {w0:World} {A0:Ids} {a0:Act}
 (hQ:∀g' a' w',Core fid g' w' sf.B sf.A->Boxes g0 w0 g'->Step (fun x=>∃q j,c<=j/\j<c+vs.length/\x=q++j::p) g0 w0 A0 g' w' sf.A->qcK fid g' w' sf.r a'.tmps->a'.tmps.size=N->a'.defers=a0.defers->wpAny P .any ops Q (ops.size-vs.length) (qD6 ops.size vs.length) a' w'):
 ∀(fuel:Nat) (listed:Array Bool) (g:Gh) (w:World) (a:Act) (s t:St),(rest vs listed).length=fuel->listed.size=ops.size->(∀i,vs.length<=i->i<ops.size->listed.getD i true=false)->s.c=c->Core fid g w s.B s.A->qcK fid g w s.r a.tmps->a.tmps.size=N->a.defers=a0.defers->
  Boxes g0 w0 g->Step (fun x=>∃q j,c<=j/\j<c+vs.length/\x=q++j::p) g0 w0 A0 g w s.A->
  (∀i,listed.getD i true=false->∀q,g.row (q++(c+i)::p)=none)->(∀(i:Nat) (o:VOper),vs[i]?=some o->listed.getD i true=true->∀j,j∈o.after->listed.getD j true=true)->
  qgr call p L0 (rest vs listed) s=some t->t.eqv sf->wpAny P .any ops Q (fuel+(ops.size-vs.length)) listed a w:=by
 obtain⟨hlen0,hat0⟩:=qge hok;have hat:∀(i:Nat) (o:Oper) (v:VOper),ops[i]?=some o->vs[i]?=some v->qeL P fid N ops o v=true/\(∀j,j∈v.after↔j∈qcP o):=fun i o v ho hv=>by
  have hi:i<vs.length:=(List.getElem?_eq_some_iff.1 hv).1;exact hat0 i o v (by rw[List.getElem?_take,if_pos hi];simpa using ho) hv
 simp only[qfs,Bool.and_eq_true]at hdraw;obtain⟨hahead,hpairs⟩:=hdraw;have hafter:∀(i:Nat) (o:VOper),vs[i]?=some o->∀j,j∈o.after->j<i:=fun i o h j hj=>by simpa using qoQ hahead i o h j hj
 intro fuel
 induction fuel with
 |zero=>
  intro listed g w a s t hfuel hsz hlast hc hcore hr hN hdef hbox hstep hfr hcl hseq heq;have hnil:rest vs listed=[]:=List.eq_nil_of_length_eq_zero hfuel;rw[hnil]at hseq;simp[qgr]at hseq;subst hseq
  have hup:listed=qD6 ops.size vs.length:=by
   refine qyU hsz fun i hi=> ?_
   by_cases hiK:i<vs.length
   ·rw[decide_eq_true hiK]
    cases hl:listed.getD i true with
    |true=>rfl
    |false=>
     obtain⟨pre,post,h1,_⟩:=qgb (vs:=vs) (i:=i) (o:=vs[i]) (by simp) hl;rw[hnil]at h1;simp at h1
   ·rw[decide_eq_false hiK];exact hlast i (by omega) hi
  subst hup;rw[Nat.zero_add];exact hQ g a w (by rw[<-heq.2.1,<-heq.2.2.1];exact hcore) hbox (by rw[<-heq.2.2.1];exact hstep) (qtC heq hr) hN hdef
 |succ fuel ih=>
  intro listed g w a s t hfuel hsz hlast hc hcore hr hN hdef hbox hstep hfr hcl hseq heq;rw[show fuel+1+(ops.size-vs.length)=(fuel+(ops.size-vs.length))+1 by omega];refine⟨fun hready=> ?_,fun i hi=> ?_⟩
  ·
   exfalso;have hne:rest vs listed≠[]:=by intro h;rw[h]at hfuel;simp at hfuel
   obtain⟨q,hq⟩:=List.exists_mem_of_ne_nil _ hne;have hex:∃i,i<vs.length/\listed.getD i true=false:=by
    obtain⟨h1,h2⟩:=List.mem_filter.1 hq;have h3:=qiC h1;exact⟨q.1,(List.getElem?_eq_some_iff.1 h3).1,by simpa using h2⟩
   have least:∀n,(∃i,i<n/\i<vs.length/\listed.getD i true=false)->∃i,i<vs.length/\listed.getD i true=false/\∀j,j<i->listed.getD j true=true:=by
    intro n
    induction n with
    |zero=>rintro⟨i,h,_⟩;omega
    |succ n ihn=>
     rintro⟨i,h1,h2,h3⟩
     by_cases hl:∃i,i<n/\i<vs.length/\listed.getD i true=false
     ·exact ihn hl
     ·refine⟨i,h2,h3,fun j hj=> ?_⟩
      cases hjl:listed.getD j true with
      |true=>rfl
      |false=>exact absurd ⟨j,by omega,by omega,hjl⟩ hl
   obtain⟨i0,h1,h2⟩:=hex;obtain⟨i,h3,h4,h5⟩:=least (i0+1) ⟨i0,by omega,h1,h2⟩;have hio:i<ops.size:=by omega
   have hmem:i∈Region.ready .any ops listed:=by
    rw[Region.ready,List.mem_filter];refine⟨by simpa using hio,?_⟩;have ho:ops[i]?=some ops[i]:=by simp[hio]
    simp only[h4,ho,Bool.not_false,Bool.true_and,Option.map_some,Option.getD_some];rw[Array.all_eq_true];intro k hk;simp only[Bool.or_eq_true,Bool.not_eq_true']
    by_cases hb:Region.binds .any ops[i].after[k]=true
    ·right
     have hj:(ops[i].after[k]).on∈vs[i].after:=by
      rw[(hat i ops[i] vs[i] (by simp[hio]) (by simp)).2];unfold qcP;refine List.mem_map.2 ⟨ops[i].after[k],List.mem_filter.2 ⟨by simp,hb⟩,rfl⟩
     have hlt:=hafter i vs[i] (by simp) _ hj;have h6:=h5 _ hlt;have h7:(ops[i].after[k]).on<listed.size:=by omega
     simp[Array.getD_eq_getD_getElem?,h7]at h6⊢
     exact h6
    ·left;simpa using hb
   rw[hready]at hmem;simp at hmem
  ·
   rw[Region.ready,List.mem_filter]at hi;obtain⟨hi1,hi2⟩:=hi;simp only[List.mem_range]at hi1;simp only[Bool.and_eq_true,Bool.not_eq_true']at hi2;obtain⟨hnl,hpre⟩:=hi2;have hne:rest vs listed≠[]:=by intro h;rw[h]at hfuel;simp at hfuel
   have hiv:i<vs.length:=by
    rcases Nat.lt_or_ge i vs.length with h|h
    ·exact h
    ·exfalso
     obtain⟨q,hq⟩:=List.exists_mem_of_ne_nil _ hne;obtain⟨h1,h2⟩:=List.mem_filter.1 hq;have h3:=(List.getElem?_eq_some_iff.1 (qiC h1)).1;have h4:ops[i]?=some ops[i]:=by simp[hi1]
     have h5:=htail i h hi1 q.1 (by omega) ops[i] h4;unfold qcP at h5;obtain⟨e,he,he0⟩:=List.mem_map.1 h5;obtain⟨he1,he2⟩:=List.mem_filter.1 he;rw[h4]at hpre;simp only[Option.map_some,Option.getD_some]at hpre;obtain⟨k,hk,hke⟩:=Array.mem_iff_getElem.1 (Array.mem_toList_iff.1 he1);have h6:=(Array.all_eq_true.1 hpre) k hk;rw[hke]at h6;simp only[he2,Bool.not_true,Bool.false_or]at h6;have h7:listed.getD q.1 true=false:=by simpa using h2
     have h8:q.1<listed.size:=by omega
     rw[he0]at h6;simp[Array.getD_eq_getD_getElem?,h8]at h6 h7;rw[h6]at h7;simp at h7
   have ho:ops[i]?=some ops[i]:=by simp[hi1]
   have hv:vs[i]?=some vs[i]:=by simp[hiv]
   obtain⟨hokop,haft⟩:=hat i ops[i] vs[i] (by simp[hi1]) hv;have hall:∀j,j∈vs[i].after->listed.getD j true=true:=by
    intro j hj;rw[haft]at hj;unfold qcP at hj;obtain⟨e,he,rfl⟩:=List.mem_map.1 hj;obtain⟨he1,he2⟩:=List.mem_filter.1 he;rw[ho]at hpre;simp only[Option.map_some,Option.getD_some]at hpre;obtain⟨k,hk,hke⟩:=Array.mem_iff_getElem.1 (Array.mem_toList_iff.1 he1);have:=(Array.all_eq_true.1 hpre) k hk;rw[hke]at this;simp only[he2,Bool.not_true,Bool.false_or]at this;have hlt:e.on<listed.size:=by
     rcases Nat.lt_or_ge e.on listed.size with h|h
     ·exact h
     ·simp[Array.getD_eq_getD_getElem?,Array.getElem?_eq_none h]at this
    simp[Array.getD_eq_getD_getElem?,hlt]at this⊢
    exact this
   obtain⟨pre,post,hr1,hr2,hpre2⟩:=qgb hv hnl;rw[hr1]at hseq;have hcompat:∀q,q∈pre->quZ q.2 vs[i]:=by
    intro q hq;obtain⟨q1,q2,q3⟩:=hpre2 q hq;have hp:=qCS hpairs q.1 i q.2 vs[i] q1 q2 hv;simp only[Nat.zero_add,qqh,Bool.or_eq_true,Bool.and_eq_true]at hp;rcases hp with hp|⟨⟨hp1,hp2⟩,hp3⟩
    ·exfalso
     have hx:q.1∈(qdn vs []).getD i []:=by simpa using hp
     have:=qq5 (L:=fun k=>listed.getD k true=true) (fun i o h1 h2 j hj=>hcl i o h1 h2 j hj) hafter i vs[i] hv hall q.1 hx;rw[q3]at this;simp at this
    ·exact⟨hp1,hp2,hp3⟩
   obtain⟨s1,t',hone,hseq',heq'⟩:=qks hcompat hseq;have hcs:=qlN hone;unfold wpOp;rw[ho];simp only;have key:=quv (g:=g) (w:=w) (ops:=ops) hcall hcore hr hN (fun q=>by rw[hc];exact hfr i hnl q) hokop hone (wpAny P .any ops Q (fuel+(ops.size-vs.length)) (listed.setIfInBounds i true)) Q (fun g1 w1 u c1 b1 st1 r1=>by
    refine ih (listed.setIfInBounds i true) g1 w1 (a.put ops[i].dst u) s1 t' ?_ (by simpa using hsz) (fun k hk1 hk2=>by rw[<-hlast k hk1 hk2];simp[Array.getD_eq_getD_getElem?,Array.getElem?_setIfInBounds_ne (show i≠k by omega)]) (by rw[hcs,hc]) c1 r1 (by rw[qbH];exact hN) (by rw[put_defers];exact hdef) (hbox.trans hstep.size b1) (hstep.trans hbox (st1.weaken (fun x ⟨q,hx⟩=>⟨q,s.c+i,by omega,by omega,hx⟩))) (fun k hk q=> ?_) (fun k o hk hkl j hj=> ?_) (by rw[hr2];exact hseq') ?_
    ·rw[hr2]
     have h8:=congrArg List.length hr1;simp only[List.length_append,List.length_cons]at h8⊢
     omega
    ·have hki:k≠i:=by
      intro h;subst h
      have:k<listed.size:=by omega
      simp[Array.getD_eq_getD_getElem?,this]at hk
     have hk':listed.getD k true=false:=by
      rw[<-hk];simp[Array.getD_eq_getD_getElem?,Array.getElem?_setIfInBounds_ne (Ne.symm hki)]
     exact qlH st1 (by omega) (fun q=>hfr k hk' q) q
    ·have hset:∀m,listed.getD m true=true->(listed.setIfInBounds i true).getD m true=true:=by
      intro m hm
      by_cases hmi:m=i
      ·subst hmi
       have:m<listed.size:=by omega
       simp[Array.getD_eq_getD_getElem?,this]
      ·have e:(listed.setIfInBounds i true).getD m true=listed.getD m true:=by
        simp[Array.getD_eq_getD_getElem?,Array.getElem?_setIfInBounds_ne (Ne.symm hmi)]
       rw[e];exact hm
     by_cases hki:k=i
     ·subst hki
      rw[hv]at hk;simp at hk;subst hk
      exact hset j (hall j hj)
     ·have:listed.getD k true=true:=by
       have e:(listed.setIfInBounds i true).getD k true=listed.getD k true:=by
        simp[Array.getD_eq_getD_getElem?,Array.getElem?_setIfInBounds_ne (Ne.symm hki)]
       rw[<-e];exact hkl
      exact hset j (hcl k o hk this j hj)
    ·refine⟨fun x=> ?_,?_,?_,?_⟩
     ·rw[<-heq'.1 x];exact heq.1 x
     ·rw[<-heq'.2.1];exact heq.2.1
     ·rw[<-heq'.2.2.1];exact heq.2.2.1
     ·rw[<-heq'.2.2.2];exact heq.2.2.2)
   split
   ·rename_i hw
    rw[if_pos hw]at key;exact .inl key
   ·rename_i hw
    rw[if_neg hw]at key;exact key
theorem qE3(n K:Nat):lst n K=qD6 n K:=by
 refine qyU (by simp[lst]) fun i hi=> ?_
 simp[lst,Array.getD_eq_getD_getElem?,hi]
theorem qrZ(w:World)(b c:Nat)(x y:Array Value)(h:b≠c):(w.setRow b x).setRow c y=(w.setRow c y).setRow b x:=by
 unfold World.setRow
 congr 1
 apply Array.ext_getElem?;intro i;simp only[Array.getElem?_modify]
 by_cases hb:b=i
 ·subst hb
  rw[if_neg (Ne.symm h),if_pos rfl,if_pos rfl,if_neg (Ne.symm h)]
 ·by_cases hc:c=i
  ·subst hc
   rw[if_pos rfl,if_neg hb,if_neg hb,if_pos rfl]
  ·simp only[if_neg hb,if_neg hc]
def qww(Q:Exit->Act->World->Prop):Exit->Act->World->Prop
 | .normal=>Q .normal
 |_=>fun _ _=>False
theorem qdz(a:Act)(u:Value):a.put none u=a:=rfl
theorem qEa{ops:Array Oper}{Q:Exit->Act->World->Prop}{K:Nat}(hok:qpa ops K=true){o8 o9 o10 o11 o12 o13:Oper}(e8:ops[K]?=some o8)(e9:ops[K+1]?=some o9)(e10:ops[K+2]?=some o10)(e11:ops[K+3]?=some o11)(e12:ops[K+4]?=some o12)(e13:ops[K+5]?=some o13)
 (g8:o8.guard.isNone=true) (g9:o9.guard.isNone=true) (g10:o10.guard.isNone=true) (g11:o11.guard.isNone=true) (g12:o12.guard.isNone=true) (g13:o13.guard.isNone=true) (d10:o10.dst=none) (d13:o13.dst=none)
 {a:Act} {w w1:World} {u8 u9 u11 u12:Value} {b blk:Nat} {arr arr' arr2 arr2':Array Value} {e e2:TypeId}
 (h8:∃n,(execOp a.eval o8).run P w= .ok n w1/\(n= .value u8\/(n= .skip/\u8=undef)))
 (h9:∀ww:World,(execOp (a.put o8.dst u8).eval o9).run P ww= .ok (.value u9) ww)
 (hb:w1.heap[b]?=some (.cells arr e (0,0)))
 (h10:∀ww:World,ww.heap[b]?=some (.cells arr e (0,0))->(execOp ((a.put o8.dst u8).put o9.dst u9).eval o10).run P ww= .ok .skip (ww.setRow b arr'))
 (h11:∀ww:World,(execOp ((a.put o8.dst u8).put o9.dst u9).eval o11).run P ww= .ok (.value u11) ww)
 (h12:∀ww:World,(execOp (((a.put o8.dst u8).put o9.dst u9).put o11.dst u11).eval o12).run P ww= .ok (.value u12) ww)
 (hne:b≠blk) (hblk:(w1.setRow b arr').heap[blk]?=some (.cells arr2 e2 (0,0)))
 (h13:∀ww:World,ww.heap[blk]?=some (.cells arr2 e2 (0,0))->(execOp ((((a.put o8.dst u8).put o9.dst u9).put o11.dst u11).put o12.dst u12).eval o13).run P ww= .ok .skip (ww.setRow blk arr2'))
 (hQ:Q .normal ((((a.put o8.dst u8).put o9.dst u9).put o11.dst u11).put o12.dst u12) ((w1.setRow b arr').setRow blk arr2')):
 wpAny P .any ops (qww Q) (ops.size-K) (qD6 ops.size K) a w:=by
 simp only[qpa,Bool.and_eq_true,decide_eq_true_eq]at hok;obtain⟨⟨⟨⟨⟨⟨⟨⟨⟨⟨⟨⟨⟨⟨⟨hn,hsel⟩,hall⟩,r0⟩,f1⟩,r1⟩,f2⟩,r2⟩,f3⟩,r3⟩,r4⟩,r5⟩,r6⟩,r7⟩,r8⟩,hap⟩:=hok;rw[e10,e11,e12]at hap;simp only[Bool.and_eq_true]at hap;obtain⟨ap1,ap2⟩:=hap;obtain⟨p1,_,_⟩:=Oper.apart_spec ap1;obtain⟨p2,_,_⟩:=Oper.apart_spec ap2;have hs10:∀cs bb,o10.op≠.select cs bb:=fun cs bb=>Region.noSelect_spec hsel _ o10 cs bb e10
 have h10':∀ww:World,ww.heap[b]?=some (.cells arr e (0,0))->(execOp ((((a.put o8.dst u8).put o9.dst u9).put o11.dst u11).put o12.dst u12).eval o10).run P ww= .ok .skip (ww.setRow b arr'):=fun ww hw=>by
  rw[execOp_put (ops:=ops) o10 hs10 _ _ _ p2,execOp_put (ops:=ops) o10 hs10 _ _ _ p1];exact h10 ww hw
 have hnb:w1.heap[blk]?=some (.cells arr2 e2 (0,0)):=by rw[<-hblk];exact(setRow_other w1 b blk arr' (Ne.symm hne)).symm
 rw[show ops.size-K=6 by omega,<-qE3];have hQp:∀(a':Act) (o:Oper) (v:Value),∀c a w,qww Q (.panic c) (a.put o.dst v) w->qww Q (.panic c) a w:=fun _ _ _ c a w h=>h
 have one:∀(m:Nat) (o:Oper) (n:Next) (u:Value) (ac:Act) (wa wb:World) (Kn:Act->World->Prop),ops[m]?=some o->o.guard.isNone=true->(execOp ac.eval o).run P wa= .ok n wb->(n= .value u\/(n= .skip/\u=undef))->Kn (ac.put o.dst u) wb->wpOp P ops (qww Q) m Kn ac wa:=by
  intro m o n u ac wa wb Kn ho hg hrun hnu hK;unfold wpOp;rw[ho];simp only;rw[if_pos (qm3 hg _)];left;unfold Oper.wp;rw[hrun];rcases hnu with rfl|⟨rfl,rfl⟩
  ·rw[Oper.upon_value];exact hK
  ·rw[Oper.upon_skip];exact hK
 have yl:∀(o:Oper) (ac:Act) (v:Value),o.guard.isNone=true->(∀ww:World,(execOp ac.eval o).run P ww= .ok (.value v) ww)->Go.Yields P ops o v ac:=fun o ac v hg hr=> .inl ⟨qm3 hg _,hr⟩
 obtain⟨n8,hr8,hn8⟩:=h8;refine wpAny_all r0 (by simp) fun i hi=> ?_
 rw[List.mem_singleton]at hi;subst hi
 refine one _ o8 n8 u8 a w w1 _ e8 g8 hr8 hn8 ?_;refine wpAny_take e9 hsel f1 r1 (fun c a w h=>h) (yl o9 _ u9 g9 h9) ?_;refine wpAny_take e11 hsel f2 r2 (fun c a w h=>h) (yl o11 _ u11 g11 h11) ?_;refine wpAny_take e12 hsel f3 r3 (fun c a w h=>h) (yl o12 _ u12 g12 h12) ?_;refine wpAny_all r4 (by simp) fun i' hi=> ?_
 simp only[List.mem_cons,List.not_mem_nil,or_false]at hi;rcases hi with rfl|rfl
 ·refine one _ o10 .skip undef _ w1 (w1.setRow b arr') _ e10 g10 (h10' w1 hb) (.inr ⟨rfl,rfl⟩) ?_
  rw[d10,qdz];refine wpAny_all r5 (by simp) fun i'' hi=> ?_
  rw[List.mem_singleton]at hi;subst hi
  refine one _ o13 .skip undef _ _ _ _ e13 g13 (h13 _ hblk) (.inr ⟨rfl,rfl⟩) ?_;rw[d13,qdz];exact⟨r7,hQ⟩
 ·refine one _ o13 .skip undef _ w1 (w1.setRow blk arr2') _ e13 g13 (h13 _ hnb) (.inr ⟨rfl,rfl⟩) ?_
  rw[d13,qdz];refine wpAny_all r6 (by simp) fun i'' hi=> ?_
  rw[List.mem_singleton]at hi;subst hi
  refine one _ o10 .skip undef _ _ _ _ e10 g10 (h10' _ (by rw[setRow_other w1 blk b arr2' hne];exact hb)) (.inr ⟨rfl,rfl⟩) ?_;rw[d10,qdz,qrZ _ _ _ _ _ (Ne.symm hne)];exact⟨r8,hQ⟩
theorem qy5{g:Gh}{w:World}{r:List (Nat×AV)}{B:qan}{A:Ids}{a:Act}{o:Oper}{ini:Bool}{sz:Nat}{x y:VX}{b off:Nat}{v:AV}(hcore:Core fid g w B A)(hr:qcK fid g w r a.tmps)(h:qaM P fid o.op (.store ini sz x y)=true)(hx:x.get r=some (.ptr b off))(hy:y.get r=some v)
 {cs:List AV} (hcs:qa6 B b=some cs) (hc:v.cells.length=sz/\off+sz<=cs.length/\v.cells.all AV.isCell=true):
 ∃(blk:Nat) (arr arr':Array Value) (e:TypeId),g.bx b=some blk/\w.heap[blk]?=some (.cells arr e (0,0))/\∀ww:World,ww.heap[blk]?=some (.cells arr e (0,0))->(execOp a.eval o).run P ww= .ok .skip (ww.setRow blk arr'):=by
 obtain⟨dst,op,ty,pos,after,guard⟩:=o;cases op with
 |store t x' y'=>
  simp only[qaM,Bool.and_eq_true,decide_eq_true_eq]at h;obtain⟨⟨h1,h2⟩,h3⟩:=h;obtain⟨hsz,hlen,hall⟩:=hc;obtain⟨blk,hb,he⟩:=qcp (qaq (w:=w) hr h2 hx);have hy':=qaq (w:=w) hr h3 hy;generalize hq:a.eval y'=q at hy';obtain⟨c1,c2,c3⟩:=qf4 hy' hall;obtain⟨cs',arr,e,b1,b2,b3,b4,b5,b6⟩:=hcore.box b blk hb;have:cs'=cs:=by have:=qb5.1 hcs;rw[b1]at this;simpa using this
  subst this;refine⟨blk,arr,(arr.toList.take (off+0)++q.cells.toList++arr.toList.drop (off+0+q.cells.toList.length)).toArray,e,hb,b2,fun ww hww=> ?_⟩;have hst:=run_storeCells_at (P:=P) blk off e q.cells.toList 0 arr ww hww (by simp;omega) c3;simp only[execOp,Instr.storeAt,he,Instr.sureAddr,hq,Sem.run_bind,Sem.run_pure,Result.andThen_ok,storeVar,qh8 h1];rw[if_neg (by simp;omega),hst];rfl
 |_=>simp[qaM]at h
end Go.Proofs.Ytfiakfiocdfpbaa.VS
namespace Go.Proofs.Ytfiakfiocdfpbaa.VS
variable {P:Program} {fid:Nat->FuncId}
def between(p:Id)(c c':Nat)(x:Id):Prop:=∃q j,c<=j/\j<c'/\x=q++j::p
theorem qbw{p:Id}{c c':Nat}{g g':Gh}{w w':World}{A A':Ids}(hs:Step (between p c c') g w A g' w' A')(hc:c<=c')(h:qgZ g p c):qgZ g' p c':=by
 intro q j hj
 by_cases he:g'.row (q++j::p)=g.row (q++j::p)
 ·rw[he];exact h q j (by omega)
 ·obtain⟨q',j',h1,h2,h3⟩:=hs.new _ he
  have:=List.append_inj' h3 (by simp);simp at this;omega
theorem qgR{r:List (Nat×AV)}:∀{live:List Nat} {t:Nat} {v:AV},lk (keep r live) t=some v->lk r t=some v
 | [],t,v,h=>by simp[keep,lk]at h
 |x::xs,t,v,h=>by
  unfold keep at h;split at h
  ·rename_i u hu
   simp only[lk]at h;split at h
   ·rename_i ht
    simp at h;subst h;subst ht;exact hu
   ·exact qgR h
  ·exact qgR h
theorem qhs{g:Gh}{w:World}{r:List (Nat×AV)}{tm:Array Value}(h:qcK fid g w r tm)(live:List Nat):qcK fid g w (keep r live) tm:=fun t v hv=>h t v (qgR hv)
theorem qnc{g:Gh}{w w':World}{B:qan}{A:Ids}(h:Core fid g w B A)(hw:w'.heap=w.heap)(hc:∀ad,w'.cell? ad=w.cell? ad):Core fid g w' B A:=by
 have e:Ext g w g w':=⟨⟨fun _=>Nat.le_refl _,fun ad _=>hc ad,fun _ _ h=>h⟩,fun _ _ h=>h⟩;refine⟨fun i b hb=> ?_,h.inj,fun a ha=> ?_,h.apart,fun b hb=>h.K0 b (by rw[<-hw];exact hb)⟩
 ·obtain⟨cs,arr,el,h1,h2,h3,h4,h5,h6⟩:=h.box i b hb
  exact⟨cs,arr,el,h1,by rw[hw];exact h2,h3,fun j v u h7 h8=>(h4 j v u h7 h8).mono fid e,h5,h6⟩
 ·obtain⟨b,n,c,sz,arr,el,o1,o2,o3⟩:=h.opn a ha
  exact⟨b,n,c,sz,arr,el,o1,by rw[hw];exact o2,o3⟩
theorem qpr{call:qav}(hcall:qeq P fid call)(hm:P.follows .mixedOrders=true){p:Id}{N id na:Nat}{live:List Nat}{draw:Bool}{ops:Array Oper}{vs:List VOper}(hok:qbi P fid N ops draw ops.toList vs=true)
 {g:Gh} {w:World} {a:Act} {s s':St} (hcore:Core fid g w s.B s.A) (hr:qcK fid g w s.r a.tmps) (hN:a.tmps.size=N) (hfr:qgZ g p s.c) (hv:qcO call p draw na live vs s=some s')
 {Q:Exit->Act->World->Prop} (hQ:∀g' a' w',Core fid g' w' s'.B s'.A->Boxes g w g'->Step (between p s.c s'.c) g w s.A g' w' s'.A->qcK fid g' w' s'.r a'.tmps->a'.tmps.size=N->a'.defers=a.defers->s.c<=s'.c->Q .normal a' w'):
 (Code.region id ops draw).wp P Q a w:=by
 unfold qcO at hv;split at hv
 ·simp at hv
 rename_i hdr;obtain⟨t,hv1,rfl⟩:=Option.map_eq_some_iff.1 hv;have hmore:Core fid g w (s.B++List.replicate na none) s.A:=hcore.more fun i cs h=>by
  have:=(List.getElem?_eq_some_iff.1 h).1;rw[List.getElem?_append_left this];exact h
 have htc:t.c=s.c:=by have:=qoB hv1;simpa using this
 cases draw with
 |false=>
  refine wp_region_list (qHj hcall ops.toList vs 0 g w a {s with B:=s.B++List.replicate na none} t hok hmore hr hN (fun q j hj=>hfr q j (by simpa using hj)) hv1 Q fun g' a' w' c1 b1 st1 r1 n1 d1=> ?_);exact hQ g' a' w' c1 b1 (st1.weaken fun x hx=>hx) (qhs r1 live) n1 d1 (by simp)
 |true=>
  simp only[Bool.true_and,Bool.not_eq_true',Bool.not_eq_false]at hdr;refine wp_region_any hm ?_;obtain⟨hl,_⟩:=qge hok;have hl':ops.size=vs.length:=by simpa using hl
  have hcell:∀ad,({w with drawn:=w.drawn+1}:World).cell? ad=w.cell? ad:=fun _=>rfl
  have hE:Ext g w g {w with drawn:=w.drawn+1}:=⟨⟨fun _=>Nat.le_refl _,fun ad _=>hcell ad,fun _ _ h=>h⟩,fun _ _ h=>h⟩;have hE':ExtV g w g {w with drawn:=w.drawn+1}:=hE.toExtV;have hrest:rest vs (Array.replicate ops.size false)=(List.range' 0 vs.length).zip vs:=by
   unfold rest;rw[List.filter_eq_self];intro q hq;have:=qiC hq;have h3:=(List.getElem?_eq_some_iff.1 this).1;simp[Array.getD_eq_getD_getElem?,hl',h3]
  rw[hl'];rw[hl']at hrest;refine qOV (N:=N) (c:=s.c) (L0:=s.B.length) (p:=p) (g0:=g) (w0:={w with drawn:=w.drawn+1}) (A0:=s.A) (a0:=a) (sf:=t) hcall hok hdr (fun g' a' w' c1 b1 st1 r1 n1 d1=> ?_) vs.length (Array.replicate vs.length false) g {w with drawn:=w.drawn+1} a {s with B:=s.B++List.replicate na none} t ?_ (by simp) rfl (qnc hmore rfl hcell) (hr.mono fid hE) hN rfl (.refl _ _) (.refl _ _ _ _) (fun i _ q=>hfr q _ (by omega)) (fun i o hi hc=> ?_) ?_ (.refl t)
  ·refine hQ g' a' w' c1 ⟨b1.old,b1.new⟩ ⟨st1.os,st1.tape,st1.output,st1.size,⟨st1.ext.K,st1.ext.cell,st1.ext.row⟩,st1.keep,fun x hx=> ?_,st1.org,st1.arr⟩ (qhs r1 live) n1 d1 (by simp)
   exact st1.new x hx
  ·rw[hrest];simp
  ·have h3:=(List.getElem?_eq_some_iff.1 hi).1
   simp[Array.getD_eq_getD_getElem?,h3]at hc
  ·rw[hrest,<-qlM];exact hv1
theorem qrK{ops:Array Oper}{K:Nat}(h:qpa ops K=true):ops.size=K+6/\∀m,m<6->∃o,ops[K+m]?=some o/\o.guard.isNone=true/\∀j,j<K->j∈qcP o:=by
 simp only[qpa,Bool.and_eq_true,decide_eq_true_eq]at h;obtain⟨⟨⟨⟨⟨⟨⟨⟨⟨⟨⟨⟨⟨⟨⟨hn,-⟩,hall⟩,-⟩,-⟩,-⟩,-⟩,-⟩,-⟩,-⟩,-⟩,-⟩,-⟩,-⟩,-⟩,-⟩:=h;refine⟨hn,fun m hm=> ?_⟩;have h1:=List.all_eq_true.1 hall m (by simpa using hm);cases ho:ops[K+m]? with
 |none=>rw[ho]at h1;simp at h1
 |some o=>
  rw[ho]at h1;simp only[Bool.and_eq_true]at h1;exact⟨o,rfl,h1.1,fun j hj=>by simpa using List.all_eq_true.1 h1.2 j (by simpa using hj)⟩
theorem qvM{call:qav}(hcall:qeq P fid call)(hm:P.follows .mixedOrders=true){p:Id}{N id na:Nat}{live:List Nat}{ops:Array Oper}{pre tl:List VOper}(hok:qaK P fid N (.region id ops true) (.regionT na live pre tl)=true)
 {g:Gh} {w:World} {a:Act} {s s':St} (hcore:Core fid g w s.B s.A) (hr:qcK fid g w s.r a.tmps) (hN:a.tmps.size=N) (hfr:qgZ g p s.c) (hv:qeO call p na live pre tl s=some s')
 {Q:Exit->Act->World->Prop} (hQ:∀g' a' w',Core fid g' w' s'.B s'.A->Boxes g w g'->Step (between p s.c s'.c) g w s.A g' w' s'.A->qcK fid g' w' s'.r a'.tmps->a'.tmps.size=N->a'.defers=a.defers->s.c<=s'.c->Q .normal a' w'):
 (Code.region id ops true).wp P Q a w:=by
 cases tl with
 |nil=>simp[qaK]at hok
 |cons t tl=>
  simp only[qaK,Bool.and_eq_true]at hok;obtain⟨⟨⟨⟨o1,o2⟩,o3⟩,otl⟩,o4⟩:=hok;obtain⟨hn6,htail⟩:=qrK o3;split at o4
  rotate_left
  ·simp at o4
  rename_i o8 o9 o10 e8 e9 e10;have hsz:pre.length+3<=ops.size:=by have:=(Array.getElem?_eq_some_iff.1 e10).1;omega
  unfold qeO at hv;split at hv
  ·simp at hv
  rename_i hdr;simp only[Bool.not_eq_false]at hdr;obtain⟨s1,hv1,hv⟩:=Option.bind_eq_some_iff.1 hv;obtain⟨s2,hv2,rfl⟩:=Option.map_eq_some_iff.1 hv;rw[qhF]at hv2;obtain⟨s3,hv3,hv4⟩:=Option.bind_eq_some_iff.1 hv2;have hmore:Core fid g w (s.B++List.replicate na none) s.A:=hcore.more fun i cs h=>by
   have:=(List.getElem?_eq_some_iff.1 h).1;rw[List.getElem?_append_left this];exact h
  have hc1:s1.c=s.c:=by have:=qoB hv1;simpa using this
  have hc3:s3.c=s.c:=by rw[qlN hv3,hc1]
  have hc2:s2.c=s.c:=by rw[qoB hv4,hc3]
  refine Code.wp_mono (Q:=qww Q) (fun e a w h=>by cases e<;>first|exact h|exact(show False from h).elim) ?_;refine wp_region_any hm ?_;have hcell:∀ad,({w with drawn:=w.drawn+1}:World).cell? ad=w.cell? ad:=fun _=>rfl
  have hE:Ext g w g {w with drawn:=w.drawn+1}:=⟨⟨fun _=>Nat.le_refl _,fun ad _=>hcell ad,fun _ _ h=>h⟩,fun _ _ h=>h⟩;have hrest:rest pre (Array.replicate ops.size false)=(List.range' 0 pre.length).zip pre:=by
   unfold rest;rw[List.filter_eq_self];intro q hq;have:=qiC hq;have h3:=(List.getElem?_eq_some_iff.1 this).1;simp[Array.getD_eq_getD_getElem?,show q.1<ops.size by omega]
  have hstart:(rest pre (Array.replicate ops.size false)).length+(ops.size-pre.length)=ops.size:=by
   rw[hrest];simp;omega
  suffices hfin:wpAny P .any ops (qww Q) ((rest pre (Array.replicate ops.size false)).length+(ops.size-pre.length)) (Array.replicate ops.size false) a {w with drawn:=w.drawn+1}by
   rw[hstart]at hfin;exact hfin
  refine qKy (N:=N) (c:=s.c) (L0:=s.B.length) (p:=p) (g0:=g) (w0:={w with drawn:=w.drawn+1}) (A0:=s.A) (a0:=a) (sf:=s1) hcall o1 (by omega) (fun i hK hi j hj o ho=>by
   obtain⟨o',h1,_,h2⟩:=htail (i-pre.length) (by omega);rw[show pre.length+(i-pre.length)=i by omega,ho]at h1;simp only[Option.some.injEq]at h1;subst h1
   exact h2 j hj) hdr (fun g1 a1 w1 c1 b1 st1 r1 n1 d1=> ?_) _ (Array.replicate ops.size false) g {w with drawn:=w.drawn+1} a {s with B:=s.B++List.replicate na none} s1 rfl (by simp) (fun i _ hi=>by simp[Array.getD_eq_getD_getElem?,hi]) rfl (qnc hmore rfl hcell) (hr.mono fid hE) hN rfl (.refl _ _) (.refl _ _ _ _) (fun i _ q=>hfr q _ (by omega)) (fun i o hi hc=> ?_) ?_ (.refl s1)
  ·have hfr1:∀q j,s.c+pre.length<=j->g1.row (q++j::p)=none:=fun q j hj=>by
    by_cases he:g1.row (q++j::p)=g.row (q++j::p)
    ·rw[he];exact hfr q j (by omega)
    ·obtain⟨q',j',h1,h2,h3⟩:=st1.new _ he
     have:=List.append_inj' h3 (by simp);simp at this;omega
   obtain⟨d8,t9,u8,b,off9,arr,arr',e,w1',g2,k8,k9,k10,q8,q9,q10,h8,h9,hb,h10,hnb,c2,b2,st2,r2⟩:=qvw c1 r1 n1 (fun q=>hfr1 q _ (by rw[hc1];exact Nat.le_refl _)) o4 hv3;unfold qS4 at otl;split at otl
   rotate_left
   ·simp at otl
   rename_i d11 x11 f11 d12 o12 y12 f12 sz13 z13 y13 f13 _ex;simp only[Bool.and_eq_true,beq_iff_eq]at otl;obtain⟨hy12,hz13⟩:=otl;have hy12:=hy12.symm;have hz13:=hz13.symm;subst hy12;subst hz13
   obtain⟨o11,e11,g11,_⟩:=htail 3 (by omega);obtain⟨o12',e12,g12,_⟩:=htail 4 (by omega);obtain⟨o13,e13,g13,_⟩:=htail 5 (by omega);have hdr3:ops.toList.drop (pre.length+3)=[o11,o12',o13]:=by
    have d1:∀m o,ops[m]?=some o->ops.toList.drop m=o::ops.toList.drop (m+1):=fun m o h=>by
     obtain⟨h1,h2⟩:=Array.getElem?_eq_some_iff.1 h;rw[List.drop_eq_getElem_cons (by simpa using h1)];simp[<-h2]
    rw[d1 _ _ e11,d1 _ _ e12,d1 _ _ e13,List.drop_eq_nil_of_le (by simp;omega)]
   rw[hdr3]at o2;simp only[qbi,qeL,Bool.and_eq_true,beq_iff_eq,Bool.not_false,Bool.true_or,and_true]at o2;obtain⟨⟨⟨⟨k11,l11⟩,okp11⟩,-⟩,⟨⟨⟨k12,l12⟩,okp12⟩,-⟩,⟨⟨k13,-⟩,okp13⟩,-⟩:=o2;simp only[qcw,qcH,qa4]at hv4;obtain⟨s4,v4,hv4⟩:=Option.bind_eq_some_iff.1 hv4;obtain⟨s5,v5,hv4⟩:=Option.bind_eq_some_iff.1 hv4;obtain⟨s6,v6,hv4⟩:=Option.bind_eq_some_iff.1 hv4;simp only[Option.some.injEq]at hv4;subst hv4
   obtain⟨w4,e4,h4⟩:=Option.map_eq_some_iff.1 v4;clear v4;subst h4
   obtain⟨w5,e5,h5⟩:=Option.map_eq_some_iff.1 v5;clear v5;subst h5
   simp only[evP,St.put,VX.get,lk,if_true]at e4 e5 v6;have hst0:∃(jj oo:Nat) (v:AV) (cs:List AV),w4= .ptr jj oo/\w5= .ptr jj (oo+o12)/\y13.get ((d12,w5)::(d11,w4)::s3.r)=some v/\qa6 s3.B jj=some cs/\(v.cells.length=sz13/\oo+o12+sz13<=cs.length/\v.cells.all AV.isCell=true):=by
    split at v6
    ·rename_i bb oo v h1 h2
     simp only[Option.some.injEq]at h1;subst h1
     split at v6
     ·simp at v6
     ·obtain⟨s7,h3,-⟩:=Option.map_eq_some_iff.1 v6
      unfold qc0 at h3;obtain⟨cs,h4,h5⟩:=Option.bind_eq_some_iff.1 h3;split at h5
      ·rename_i hc
       cases w4 with
       |ptr jj off=>
        simp only[Option.some.injEq,AV.ptr.injEq]at e5;obtain⟨rfl,rfl⟩:=e5;exact⟨_,_,v,cs,rfl,rfl,h2,h4,hc.1,hc.2.1,hc.2.2.1⟩
       |ep l=>(exfalso;by_cases hq:o12<=l.length<;>simp[hq]at e5)
       |_=>simp at e5
      ·simp at h5
    ·simp at v6
   obtain⟨jj,oo,v,cs,rfl,rfl,hy13,hcs,hcond⟩:=hst0;have hx11:lk s3.r x11=some (.ptr jj oo):=by
    generalize lk s3.r x11=q at e4;cases q with
    |none=>simp at e4
    |some q=>cases q<;>first|exact e4|(simp at e4;done)
   rw[<-k8,<-k9]at h10 r2;rw[<-k8]at h9;obtain⟨blk0,hbx0,hu11⟩:=qcp (r2 x11 _ hx11);have h11:∀ww:World,(execOp ((a1.put o8.dst u8).put o9.dst (.pointer (some ⟨b,off9,none⟩))).eval o11).run P ww= .ok (.value (.pointer (some ⟨blk0,oo,none⟩))) ww:=fun ww=>by
    have hrr:qcK fid g2 ww [(x11,.ptr jj oo)] ((a1.put o8.dst u8).put o9.dst (.pointer (some ⟨b,off9,none⟩))).tmps:=fun t' v' ht'=>by
     simp only[lk]at ht';split at ht'
     ·rename_i he;subst he
      simp only[Option.some.injEq]at ht';subst ht'
      rw[hu11];exact .ptr _ _ _ hbx0
     ·simp at ht'
    obtain⟨u,e1,e2⟩:=qmx (g:=g2) hrr okp11 (v:= .ptr jj oo) (by simp[evP,VX.get,lk]);obtain⟨b0,e3,rfl⟩:=qcp e2;rw[hbx0]at e3;simp only[Option.some.injEq]at e3;subst e3
    exact e1
   have hl11:d11<((a1.put o8.dst u8).put o9.dst (.pointer (some ⟨b,off9,none⟩))).tmps.size:=by rw[qbH,qbH,n1];simpa[k11]using l11
   have hl12:d12<(((a1.put o8.dst u8).put o9.dst (.pointer (some ⟨b,off9,none⟩))).put o11.dst (.pointer (some ⟨blk0,oo,none⟩))).tmps.size:=by rw[qbH,qbH,qbH,n1];simpa[k12]using l12
   have h12:∀ww:World,(execOp (((a1.put o8.dst u8).put o9.dst (.pointer (some ⟨b,off9,none⟩))).put o11.dst (.pointer (some ⟨blk0,oo,none⟩))).eval o12').run P ww= .ok (.value (.pointer (some ⟨blk0,oo+o12,none⟩))) ww:=fun ww=>by
    have hrr:qcK fid g2 ww [(d11,.ptr jj oo)] (((a1.put o8.dst u8).put o9.dst (.pointer (some ⟨b,off9,none⟩))).put o11.dst (.pointer (some ⟨blk0,oo,none⟩))).tmps:=fun t' v' ht'=>by
     simp only[lk]at ht';split at ht'
     ·rename_i he;subst he
      simp only[Option.some.injEq]at ht';subst ht'
      rw[k11,qfQ _ _ _ hl11];exact .ptr _ _ _ hbx0
     ·simp at ht'
    obtain⟨u,e1,e2⟩:=qkc (g:=g2) hrr okp12 (v:= .ptr jj (oo+o12)) (by simp[evP,VX.get,lk]);obtain⟨b0,e3,rfl⟩:=qcp e2;rw[hbx0]at e3;simp only[Option.some.injEq]at e3;subst e3
    exact e1
   have r5:qcK fid g2 (w1'.setRow b arr') ((s3.put o11.dst (.ptr jj oo)).put o12'.dst (.ptr jj (oo+o12))).r ((((a1.put o8.dst u8).put o9.dst (.pointer (some ⟨b,off9,none⟩))).put o11.dst (.pointer (some ⟨blk0,oo,none⟩))).put o12'.dst (.pointer (some ⟨blk0,oo+o12,none⟩))).tmps:=
    qbq (qbq r2 (.ptr _ _ _ hbx0) (fun d hd=>by rw[k11]at hd;simp only[Option.some.injEq]at hd;subst hd;exact hl11)) (.ptr _ _ _ hbx0) (fun d hd=>by rw[k12]at hd;simp only[Option.some.injEq]at hd;subst hd;exact hl12)
   rw[k11,k12]at r5;simp only[St.put]at r5;rw[<-k11,<-k12]at r5;obtain⟨blk,arr2,arr2',e2,hbx,hheap,h13⟩:=qy5 c2 r5 okp13 (by simp[VX.get,lk]) hy13 hcs hcond;have hne:b≠blk:=fun h=>hnb jj blk hbx h.symm
   have c5:Core fid g2 (w1'.setRow b arr') (⟨(d12,.ptr jj (oo+o12))::(d11,.ptr jj oo)::s3.r,s3.B,s3.A,s3.c⟩:St).B (⟨(d12,.ptr jj (oo+o12))::(d11,.ptr jj oo)::s3.r,s3.B,s3.A,s3.c⟩:St).A:=c2;obtain⟨⟨nx,ux,w3,g3,run3,res3,c3,b3,st3,r3⟩⟩:=qoG (call:=call) (p:=p) (draw:=false) (L0:=s.B.length) (i:=0) (s:=⟨(d12,.ptr jj (oo+o12))::(d11,.ptr jj oo)::s3.r,s3.B,s3.A,s3.c⟩) (s':=s6) (gd:=none) (af:=[]) c5 r5 (fun d hd=>by rw[k13]at hd;simp at hd) okp13 (by rw[k13];simp only[qa4,VX.get,lk,if_true];exact v6) (fun _=>False);rw[h13 _ hheap]at run3;simp only[Result.ok.injEq]at run3;obtain⟨rfl,rfl⟩:=run3;have hux:ux=undef:=by
    rcases res3 with h|h
    ·simp at h
    ·exact h.2
   subst hux;refine qEa o3 e8 e9 e10 e11 e12 e13 q8 q9 q10 g11 g12 g13 k10 k13 h8 h9 hb h10 h11 h12 hne hheap h13 ?_;have B12:=b1.trans st1.size b2;have S12:=(st1.weaken (N':=between p s.c (s.c+(pre.length+4))) (fun x ⟨q,j,h1,h2,h3⟩=>⟨q,j,h1,by omega,h3⟩)).trans b1 (st2.weaken (fun x ⟨q,hx⟩=>⟨q,s1.c+pre.length,by omega,by omega,hx⟩));have S13:=S12.trans B12 (st3.weaken (N':=between p s.c (s.c+(pre.length+4))) (fun x h=>h.elim));have B13:=B12.trans S12.size b3;refine hQ g3 _ _ c3 ⟨B13.old,B13.new⟩ ⟨S13.os,S13.tape,S13.output,S13.size,⟨S13.ext.K,S13.ext.cell,S13.ext.row⟩,S13.keep,fun x hx=> ?_,S13.org,S13.arr⟩ (by have hk:=qhs r3 live;rw[k13,qdz]at hk;exact hk) (by simp only[qbH];exact n1) (by simp only[put_defers];exact d1) (by simp);have:=S13.new x hx;simpa using this
  ·have h3:=(List.getElem?_eq_some_iff.1 hi).1
   simp[Array.getD_eq_getD_getElem?,show i<ops.size by omega]at hc
  ·rw[hrest,<-qlM];exact hv1
structure Reach(fid:Nat->FuncId)(p:Id)(N:Nat)(g:Gh)(w:World)(s:St)(a:Act)(g':Gh)(w':World)(s':St)(a':Act):Prop where
 core:Core fid g' w' s'.B s'.A
 boxes:Boxes g w g'
 step:Step (between p s.c s'.c) g w s.A g' w' s'.A
 regs:qcK fid g' w' s'.r a'.tmps
 size:a'.tmps.size=N
 defers:a'.defers=a.defers
 le:s.c<=s'.c
theorem Reach.trans{p:Id}{N:Nat}{g g' g'':Gh}{w w' w'':World}{s s' s'':St}{a a' a'':Act}(h:Reach fid p N g w s a g' w' s' a')(h':Reach fid p N g' w' s' a' g'' w'' s'' a''):Reach fid p N g w s a g'' w'' s'' a'':=by
 have l1:=h.le;have l2:=h'.le;exact⟨h'.core,h.boxes.trans h.step.size h'.boxes,(h.step.weaken fun x ⟨q,j,h1,h2,h3⟩=>⟨q,j,h1,by omega,h3⟩).trans h.boxes (h'.step.weaken fun x ⟨q,j,h1,h2,h3⟩=>⟨q,j,by omega,h2,h3⟩),h'.regs,h'.size,h'.defers.trans h.defers,by omega⟩
theorem Reach.refl{p:Id}{N:Nat}{g:Gh}{w:World}{s:St}{a:Act}(hc:Core fid g w s.B s.A)(hr:qcK fid g w s.r a.tmps)(hN:a.tmps.size=N):Reach fid p N g w s a g w s a:=
 ⟨hc,.refl _ _,.refl _ _ _ _,hr,hN,rfl,Nat.le_refl _⟩
def Ex.toExit:Ex->Exit
 | .normal=> .normal
 | .exit id=> .exit id
 | .ret=> .ret
theorem qe2{m:Nat}:∀{r:List (Nat×AV)} {t:Nat} {v:AV},qad m r=true->lk r t=some v->v.safe m=true
 | [],t,v,_,h=>by simp[lk]at h
 |(x,u)::r,t,v,hs,h=>by
  simp only[qad,Bool.and_eq_true]at hs;simp only[lk]at h;split at h
  ·simp at h;subst h;exact hs.1
  ·exact qe2 hs.2 h
theorem qfk{g:Gh}{w:World}{B:qan}{A:Ids}(h:Core fid g w B A){i b:Nat}(hb:g.bx i=some b):i<B.length:=by
 obtain⟨cs,arr,e,h1,_⟩:=h.box i b hb;exact(List.getElem?_eq_some_iff.1 h1).1
theorem qqG{p:Id}{N:Nat}{g0 g:Gh}{w0 w:World}{s0 s s':St}{a0 a:Act}(hc0:Core fid g0 w0 s0.B s0.A)(R:Reach fid p N g0 w0 s0 a0 g w s a){b idx:Nat}(hnew:w0.heap.size<=b)(hfree:g.bx idx=none)
 (hcore:Core fid (g.foc b idx) w s'.B s'.A) (hA:∀x,s'.A x=true->s.A x=true) (hcc:s'.c=s.c) (hr:qcK fid (g.foc b idx) w s'.r a.tmps):Reach fid p N g0 w0 s0 a0 (g.foc b idx) w s' a:=by
 have hst:=R.step;refine⟨hcore,⟨fun i b' h=> ?_,fun i b' h=> ?_⟩,⟨hst.os,hst.tape,hst.output,hst.size,⟨fun x=> ?_,hst.ext.cell,hst.ext.row⟩,fun b' h1 h2 h3=> ?_,fun x hx=> ?_,fun x b' hx hb=>hst.org x b' (hA x hx) hb,hst.arr⟩,hr,R.size,R.defers,by rw[hcc];exact R.le⟩
 ·have h1:=R.boxes.old i b' h
  simp only[Gh.foc];rw[if_neg (fun he=>by rw[he,hfree]at h1;simp at h1)];exact h1
 ·simp only[Gh.foc]at h
  split at h
  ·simp only[Option.some.injEq]at h;exact .inr (by omega)
  ·exact R.boxes.new i b' h
 ·simp only[Gh.foc]
  split
  ·rename_i hx;rw[hx,hc0.K0 b hnew];exact Nat.le_refl _
  ·exact hst.ext.K x
 ·obtain⟨k1,k2⟩:=hst.keep b' h1 h2 h3
  refine⟨k1,?_⟩;simp only[Gh.foc];rw[if_neg (by omega)];exact k2
 ·have:=hst.new x hx
  rw[hcc];exact this
theorem qgO{A:Ids}{a:Id}{rs:List DV}{B:qan}(h:qjY A a rs B=true){i:Nat}{cs:List AV}(hi:B[i]?=some (some cs)):∀v:AV,v∈cs->v.rest A a rs=true:=by
 have:=List.all_eq_true.1 h _ (List.mem_of_getElem? hi);exact fun v hv=>List.all_eq_true.1 this v hv
theorem qAZ:∀{r:List (Nat×AV)} {t:Nat} {v:AV},lk r t=some v->(t,v)∈r
 | [],t,v,h=>by simp[lk]at h
 |(x,u)::r,t,v,h=>by
  simp only[lk]at h;split at h
  ·rename_i ht
   simp at h;subst h;subst ht;simp
  ·exact List.mem_cons_of_mem _ (qAZ h)
noncomputable def Gh.raise(w:World)(L:Nat)(ex:Option Nat)(g:Gh):Gh:=
 {K:=fun b=>open Classical in if∃j,L<=j/\ex≠some j/\g.bx j=some b then(match w.heap[b]? with|some (.cells arr _ _)=>arr.size|_=>0)else g.K b
  row:=g.row
  bx:=fun j=>if j<L then g.bx j else if j=L then ex.bind g.bx else none}
section
variable {g:Gh} {w:World} {B:qan} {A:Ids} {L:Nat} {ex:Option Nat}
theorem qr1(hc:Core fid g w B A)(b:Nat):g.K b<=(g.raise w L ex).K b:=by
 simp only[Gh.raise];split
 ·rename_i h
  obtain⟨j,_,_,hj⟩:=h;obtain⟨cs,arr,e,h1,h2,h3,h4,h5,h6⟩:=hc.box j b hj;omega
 ·exact Nat.le_refl _
theorem qIN(hc:Core fid g w B A):ExtV g w (g.raise w L ex) w:=⟨qr1 hc,fun _ _=>rfl,fun _ _ h=>h⟩
theorem qeI{b:Nat}(h:∀j,L<=j->ex≠some j->g.bx j≠some b):(g.raise w L ex).K b=g.K b:=by
 simp only[Gh.raise];rw[if_neg (fun⟨j,h1,h2,h3⟩=>h j h1 h2 h3)]
theorem qky(hc:Core fid g w B A){v:AV}{u:Value}(h:AVR fid g w v u)(hs:v.safe L=true):AVR fid (g.raise w L ex) w v u:=by
 have h1:=h.cutB (fid:=fid) hs;refine AVR.mono (g:=g.cutB L) (g':=g.raise w L ex) fid ⟨⟨fun b=>qr1 hc b,fun _ _=>rfl,fun _ _ h=>h⟩,fun i b hb=> ?_⟩ h1;obtain⟨h1,h2⟩:=qcn hb;simp only[Gh.raise];rw[if_pos h1];exact h2
theorem qCy{i:Nat}{cs:List AV}(h:qa6 (qcu L B) i=some cs):L<=i/\qa6 B i=some cs:=by
 have h1:=qb5.1 h;unfold qcu at h1
 by_cases hi:i<L
 ·rw[List.getElem?_append_left (by simpa using hi)]at h1
  simp[List.getElem?_replicate,hi]at h1
 ·rw[List.getElem?_append_right (by simp;omega)]at h1
  simp only[List.length_replicate,List.getElem?_drop]at h1;rw[show L+(i-L)=i by omega]at h1;exact⟨by omega,qb5.2 h1⟩
theorem qir(hc:Core fid g w B A):∀(n:Nat) (v:AV) (d:DV) (u:Value),AVR fid g w v u->(∀j,ex=some j->v.safe j=true)->v.frzC (qcu L B) n=some d->VR (g.raise w L ex) w d u:=by
 have base:∀(d' d:DV) (u:Value),AVR fid g w (.d d') u->some d'=some d->VR (g.raise w L ex) w d u:=by
  intro d' d u hr h;simp only[Option.some.injEq]at h;subst h
  cases hr with|d _ _ h=>exact h.mono (qIN hc)
 intro n
 induction n with
 |zero=>
  intro v d u hr hs h;cases v with
  |d d'=>exact base d' d u hr (by simpa only[AV.frzC]using h)
  |_=>simp[AV.frzC]at h
 |succ n ih=>
  intro v d u hr hs h;cases v with
  |d d'=>exact base d' d u hr (by simpa only[AV.frzC]using h)
  |tsl agg i sz m=>
   simp only[AV.frzC]at h;obtain⟨cs,h1,h2⟩:=Option.bind_eq_some_iff.1 h;obtain⟨ds,h3,h4⟩:=Option.bind_eq_some_iff.1 h2;split at h4
   ·rename_i hlen
    obtain⟨xs,h5,rfl⟩:=Option.map_eq_some_iff.1 h4;obtain⟨hLi,h1⟩:=qCy h1;cases hr with
    |tsl _ _ _ _ c b hb hn hm=>
     obtain⟨cs',arr,e,b1,b2,b3,b4,b5,b6⟩:=hc.box i b hb;have:cs'=cs:=by have:=qb5.1 h1;rw[b1]at this;simpa using this
     subst this;obtain⟨l1,l2⟩:=qfc h3;have hcell:∀v:DV,v∈ds->v.isCell=true:=fun v hv=>by
      obtain⟨j,hj⟩:=List.mem_iff_getElem?.1 hv;obtain⟨av,h6,h7⟩:=l2 j v hj;exact qlG h7 (b5 av (List.mem_of_getElem? h6)).1
     obtain⟨c1,c2⟩:=qf2 hcell h5;have hexi:ex≠some i:=fun he=>by
      have:=hs i he;rw[qaW]at this;simp at this
     have hKb:(g.raise w L ex).K b=arr.size:=by
      simp only[Gh.raise];rw[if_pos ⟨i,hLi,hexi,hb⟩,b2]
     have key:VR (g.raise w L ex) w (.sl .sub xs) (.slice (some ⟨b,0,none⟩) xs.length c):=by
      refine .row _ xs ⟨b,0,none⟩ c sz (fun k=>arr.getD k undef) (by simp) (by omega) hm (fun k hk=> ?_) (.inr ?_) (fun i' x hx=>⟨(c2 i' x hx).1,(c2 i' x hx).2.1⟩) (fun i' x j v hx hj=> ?_) (fun a' sz' ht=>by simp at ht)
      ·rw[qbZ]
       have:k<arr.size:=by rw[c1]at hk;omega
       simp[World.cell?,b2,Array.getD_eq_getD_getElem?,this]
      ·simp only;rw[hKb,c1];omega
      ·have h6:=(c2 i' x hx).2.2 j v hj
       obtain⟨av,h7,h8⟩:=l2 _ v h6;have hlt:i'*sz+j<arr.size:=by have:=(List.getElem?_eq_some_iff.1 h7).1;omega
       simp only[Array.getD_eq_getD_getElem?,Array.getElem?_eq_getElem hlt,Option.getD_some];refine ih av v _ (b4 _ av _ h7 (by simp[hlt])) (fun j' hj'=> ?_) h8;have:=hs j' hj';rw[qaW]at this;simp only[decide_eq_true_eq]at this;exact qfB (Nat.le_of_lt this) av (b5 av (List.mem_of_getElem? h7)).2
     rw[c1]at key;exact key
   ·simp at h4
  |_=>simp[AV.frzC]at h
theorem qBt(hc:Core fid g w B A)(v:AV)(d:DV)(u:Value)(hr:AVR fid g w v u)(h:v.frz (qcu L B)=some d):VR (g.raise w L none) w d u:=by
 cases v with
 |ag t cs=>
  cases t with
  |false=>
   simp only[AV.frz]at h;obtain⟨ds,h1,h2⟩:=Option.bind_eq_some_iff.1 h;split at h2
   ·rename_i hall
    simp only[Option.some.injEq]at h2;subst h2
    obtain⟨l1,l2⟩:=qfc h1;cases hr with
    |ag _ us hs hu=>
     exact .agg ds us (by omega) (fun v hv=>List.all_eq_true.1 hall v hv) fun j v u hj huj=>by
      obtain⟨av,h3,h4⟩:=l2 j v hj;exact qir hc _ av v u (hu j av u h3 huj) (fun j h=>by simp at h) h4
   ·simp at h2
  |true=>simp only[AV.frz]at h;cases hB:(qcu L B).length<;>simp[hB,AV.frzC]at h
 |_=>exact qir hc (qcu L B).length _ d u hr (fun j h=>by simp at h) (by simpa only[AV.frz]using h)
theorem qmK{B':qan}(hc:Core fid g w B A)(hex:∀i,ex=some i->L<=i)(h1:∀i,i<L->B'[i]?=B[i]?)
 (h2:∀i b cs,ex=some i->g.bx i=some b->B[i]?=some (some cs)->∃ds:List DV,B'[L]?=some (some (ds.map .d))/\ds.length=cs.length/\(∀d,d∈ds->d.isCell=true)/\
  ∀(k:Nat) (d:DV) (v:AV) (u:Value),ds[k]?=some d->cs[k]?=some v->AVR fid g w v u->v.safe i=true->VR (g.raise w L ex) w d u):Core fid (g.raise w L ex) w B' A:=by
 have hbx:∀j b,(g.raise w L ex).bx j=some b->(j<L/\g.bx j=some b)\/(j=L/\∃i,ex=some i/\g.bx i=some b):=fun j b h=>by
  simp only[Gh.raise]at h;split at h
  ·rename_i hj;exact .inl ⟨hj,h⟩
  ·split at h
   ·rename_i hj
    obtain⟨i,hi,hb⟩:=Option.bind_eq_some_iff.1 h;exact .inr ⟨hj,i,hi,hb⟩
   ·simp at h
 refine⟨fun j b h=> ?_,fun i j b h h'=> ?_,fun a ha=> ?_,hc.apart,fun b hb=> ?_⟩
 ·rcases hbx j b h with⟨hj,h3⟩|⟨rfl,i,hi,h3⟩
  ·obtain⟨cs,arr,e,b1,b2,b3,b4,b5,b6⟩:=hc.box j b h3
   refine⟨cs,arr,e,by rw[h1 j hj];exact b1,b2,b3,fun k v u q1 q2=>qky hc (b4 k v u q1 q2) (qfB (Nat.le_of_lt hj) v (b5 v (List.mem_of_getElem? q1)).2),b5,?_⟩;rw[qeI (fun k hk _ h5=>by have:=hc.inj j k b h3 h5;omega)];exact b6
  ·obtain⟨cs,arr,e,b1,b2,b3,b4,b5,b6⟩:=hc.box i b h3
   obtain⟨ds,d1,d2,d3,d4⟩:=h2 i b cs hi h3 b1;refine⟨_,arr,e,d1,b2,by rw[List.length_map];omega,fun k v u q1 q2=> ?_,fun v hv=> ?_,?_⟩
   ·simp only[List.getElem?_map]at q1
    obtain⟨d,q3,rfl⟩:=Option.map_eq_some_iff.1 q1;have hk:k<cs.length:=by have:=(List.getElem?_eq_some_iff.1 q3).1;omega
    have q4:cs[k]?=some cs[k]:=by simp[hk]
    exact .d _ _ (d4 k d _ u q3 q4 (b4 k _ u q4 q2) (b5 _ (List.mem_of_getElem? q4)).2)
   ·obtain⟨d,hd,rfl⟩:=List.mem_map.1 hv
    exact⟨d3 d hd,qai _ _⟩
   ·rw[qeI (fun k hk hne h5=>hne (by rw[hi,hc.inj i k b h3 h5]))];exact b6
 ·rcases hbx i b h with⟨hi,h3⟩|⟨rfl,i',hi',h3⟩<;>rcases hbx j b h' with⟨hj,h4⟩|⟨rfl,j',hj',h4⟩
  ·exact hc.inj i j b h3 h4
  ·have:=hc.inj i j' b h3 h4
   have:=hex j' hj';omega
  ·have:=hc.inj j i' b h4 h3
   have:=hex i' hi';omega
  ·rfl
 ·obtain⟨b,n,c,sz,arr,e,o1,o2,o3,o4,o5,o6⟩:=hc.opn a ha
  refine⟨b,n,c,sz,arr,e,o1,o2,o3,by rw[qeI (fun k _ _ h5=>o6 k h5)];exact o4,o5,fun i hi=> ?_⟩;rcases hbx i b hi with⟨_,h3⟩|⟨_,i',_,h3⟩
  ·exact o6 _ h3
  ·exact o6 _ h3
 ·rw[qeI (fun k _ _ h5=>by have:=hc.lt h5;omega)]
  exact hc.K0 b hb
end
theorem qkx{p:Id}{N:Nat}{g0 g:Gh}{w0 w:World}{s0 s s':St}{a0 a:Act}{L:Nat}{ex:Option Nat}(hc0:Core fid g0 w0 s0.B s0.A)(hL:s0.B.length<=L)(hex:∀i,ex=some i->L<=i)(R:Reach fid p N g0 w0 s0 a0 g w s a)
 (hcore:Core fid (g.raise w L ex) w s'.B s'.A) (hA:s'.A=s.A) (hcc:s'.c=s.c) (hr:qcK fid (g.raise w L ex) w s'.r a.tmps):Reach fid p N g0 w0 s0 a0 (g.raise w L ex) w s' a:=by
 have hst:=R.step;refine⟨hcore,⟨fun i b h=> ?_,fun i b h=> ?_⟩,⟨hst.os,hst.tape,hst.output,hst.size,⟨fun x=>Nat.le_trans (hst.ext.K x) (qr1 R.core x),hst.ext.cell,hst.ext.row⟩,fun b h1 h2 h3=> ?_,fun x hx=> ?_,fun x b hx hb=>hst.org x b (by rw[<-hA];exact hx) hb,hst.arr⟩,hr,R.size,R.defers,by rw[hcc];exact R.le⟩
 ·have h1:=qfk hc0 h
  simp only[Gh.raise];rw[if_pos (by omega)];exact R.boxes.old i b h
 ·simp only[Gh.raise]at h
  split at h
  ·exact R.boxes.new i b h
  ·rename_i hi
   split at h
   ·obtain⟨j,hj,hb⟩:=Option.bind_eq_some_iff.1 h
    rcases R.boxes.new j b hb with h3|h3
    ·have:=qfk hc0 h3
     have:=hex j hj;omega
    ·exact .inr h3
   ·simp at h
 ·obtain⟨k1,k2⟩:=hst.keep b h1 h2 h3
  refine⟨k1,?_⟩;rw[qeI (fun k _ _ h5=>by
   rcases R.boxes.new k b h5 with h6|h6
   ·exact h2 k h6
   ·omega)]
  exact k2
 ·have:=hst.new x hx
  rw[hcc];exact this
theorem qN7{p:Id}{N:Nat}{g0 g:Gh}{w0 w:World}{s0 s s':St}{a0 a:Act}(hc0:Core fid g0 w0 s0.B s0.A)(hA0:∀x,s0.A x=false){x:Gho}(hL:x.low s0.B.length=true)(R:Reach fid p N g0 w0 s0 a0 g w s a)(h:qiw x s=some s'):
 ∃g',Reach fid p N g0 w0 s0 a0 g' w s' a:=by
 have foc:∀{a1:Id} {sz:Nat} {y:DV} {ys:List DV} {u:Value} (idx:Nat),s.A a1=true->VR g w (.sl (.own a1 sz) (y::ys)) u->g.bx idx=none->DV.rests s.A a1 ((y::ys).flatMap DV.cells) ((y::ys).flatMap DV.cells)=true->
  ∃b c,u= .slice (some ⟨b,0,none⟩) (ys.length+1) c/\ys.length+1<=c/\c<=maxLen/\w0.heap.size<=b/\(∀(v:AV) (u:Value),AVR fid g w v u->v.rest s.A a1 ((y::ys).flatMap DV.cells)=true->AVR fid (g.foc b idx) w v u)/\
   ∀B2:qan,B2[idx]?=some (some (((y::ys).flatMap DV.cells).map .d))->
    (∀i b',g.bx i=some b'->∃cs arr e,B2[i]?=some (some cs)/\w.heap[b']?=some (.cells arr e (0,0))/\cs.length<=arr.size/\(∀(j:Nat) (v:AV) (u:Value),cs[j]?=some v->arr[j]?=some u->AVR fid (g.foc b idx) w v u)/\(∀v,v∈cs->v.isCell=true/\v.safe i=true))->
    Core fid (g.foc b idx) w B2 (Ids.del a1 s.A):=by
  intro a1 sz y ys u idx ha hv hfree hrs;obtain⟨b,c,arr,e,hu,hrow,hb,hsz,hK,hn,hm,hnb,hlen,hcell,hrel⟩:=qlj R.core ha hv;have hnew:w0.heap.size<=b:=by
   rcases R.step.org a1 b ha (by simp[Gh.blk,hrow])with h1|⟨a2,h1,_⟩
   ·exact h1
   ·rw[hA0 a2]at h1;simp at h1
  have hbb:∃arr e,w.heap[b]?=some (.cells arr e (0,0))/\∀(k:Nat) (u:Value),k<g.K b->arr[k]?=some u->∃r:DV,r∈(y::ys).flatMap DV.cells/\r.isCell=true/\VR g w r u:=by
   refine⟨arr,e,hb,fun k u hk hu=> ?_⟩;have hlt:k<((y::ys).flatMap DV.cells).length:=by rw[hlen,<-hK];exact hk
   have hget:((y::ys).flatMap DV.cells)[k]?=some ((y::ys).flatMap DV.cells)[k]:=List.getElem?_eq_getElem hlt;exact⟨_,List.mem_of_getElem? hget,hcell _ (List.mem_of_getElem? hget),hrel k _ u hget hu⟩
  have hap:∀a' x,s.A a'=true->a'≠a1->g.row a'=some x->x.1≠b:=fun a' x h1 h2 h3 he=>h2 (R.core.apart a' a1 b x.2 _ h1 ha (by rw[h3,<-he]) hrow)
  have hKne:∀x,x≠b->(g.foc b idx).K x=g.K x:=fun x hx=>by simp[Gh.foc,hx]
  have hbx:∀i b',g.bx i=some b'->(g.foc b idx).bx i=some b':=fun i b' hi=>by
   simp only[Gh.foc];rw[if_neg (fun he=>by rw[he,hfree]at hi;simp at hi)];exact hi
  refine⟨b,c,hu,hn,hm,hnew,fun v u h1 h2=>qFU (g:=g) (g2:=g.foc b idx) rfl hKne hbx hbb hap h1 h2,fun B2 h2 hbox=> ?_⟩;exact qFi R.core ha hrow hb hsz hn hnb hfree hlen hcell (fun k d u' hk hu'=>qzl (g:=g) (g2:=g.foc b idx) rfl hKne hbb hap (hrel k d u' hk hu') (qeG hrs d (List.mem_of_getElem? hk))) h2 hbox
 cases x with
 |focR t live=>
  simp only[qiw]at h;split at h
  ·rename_i a1 sz y ys hl
   split at h
   ·rename_i hc
    obtain⟨ha,ht,h1,h2,h3⟩:=hc;simp only[Option.some.injEq]at h;subst h
    have hv:=qdb (R.regs t _ hl);have hfree:g.bx s.B.length=none:=by
     cases hb:g.bx s.B.length with
     |none=>rfl
     |some b=>have:=qfk R.core hb;omega
    obtain⟨b,c,hu,hn,hm,hnew,tr,core⟩:=foc s.B.length ha hv hfree h3;refine⟨g.foc b s.B.length,qqG hc0 R hnew hfree (core _ (by simp) (fun i b' hi=> ?_)) (fun x hx=>by simp only[Ids.del,Bool.and_eq_true]at hx;exact hx.2) rfl (fun t' v hv'=> ?_)⟩
    ·obtain⟨cs,arr,e,q1,q2,q3,q4,q5,q6⟩:=R.core.box i b' hi
     have hlt:=(List.getElem?_eq_some_iff.1 q1).1;exact⟨cs,arr,e,by rw[List.getElem?_append_left hlt];exact q1,q2,q3,fun j v u e1 e2=>tr v u (q4 j v u e1 e2) (qgO h2 q1 v (List.mem_of_getElem? e1)),q5⟩
    ·simp only[lk]at hv'
     split at hv'
     ·rename_i he
      simp only[Option.some.injEq]at hv';subst hv';subst he
      rw[hu];exact .tsl _ _ _ _ c b (by simp[Gh.foc]) hn hm
     ·exact tr v _ (R.regs t' v (qgR hv')) (List.all_eq_true.1 h1 _ (qAZ hv'))
   ·simp at h
  ·simp at h
 |focC t off live=>
  simp only[qiw]at h;split at h
  ·rename_i j o hl
   obtain⟨cs,hcs,h⟩:=Option.bind_eq_some_iff.1 h;split at h
   ·rename_i a1 sz y ys hcell
    split at h
    ·rename_i hc
     obtain⟨ha,hf,h1,h2,h3⟩:=hc;simp only[Option.some.injEq]at h;subst h
     obtain⟨bj,hbj,_⟩:=qcp (R.regs t _ hl);obtain⟨cs',arr,e,q1,q2,q3,q4,q5,q6⟩:=R.core.box (j+1) bj hbj;have:cs'=cs:=by have:=qb5.1 hcs;rw[q1]at this;simpa using this
     subst this;have holt:o+off<cs'.length:=(List.getElem?_eq_some_iff.1 hcell).1;have hjlt:j+1<s.B.length:=(List.getElem?_eq_some_iff.1 q1).1;obtain⟨u0,hu0⟩:∃u0,arr[o+off]?=some u0:=⟨arr[o+off],by simp[show o+off<arr.size by omega]⟩;have hv:=qdb (q4 _ _ u0 hcell hu0);have hfree:g.bx j=none:=by
      cases hb:g.bx j with
      |none=>rfl
      |some b=>
       obtain⟨cs2,arr2,e2,z1,_⟩:=R.core.box j b hb;unfold qb6 at hf;rw[z1]at hf;simp at hf
     obtain⟨b,c,hu,hn,hm,hnew,tr,core⟩:=foc j ha hv hfree h3;refine⟨g.foc b j,qqG hc0 R hnew hfree (core _ (by rw[List.getElem?_set_self (by rw[List.length_set];omega)]) (fun i b' hi=> ?_)) (fun x hx=>by simp only[Ids.del,Bool.and_eq_true]at hx;exact hx.2) rfl (fun t' v hv'=> ?_)⟩
     ·have hij:j≠i:=fun he=>by rw[<-he,hfree]at hi;simp at hi
      by_cases hi1:i=j+1
      ·subst hi1
       have hbb:b'=bj:=by rw[hbj]at hi;simpa using hi.symm
       subst hbb;have hset:(s.B.set (j+1) (some (cs'.set (o+off) (.tsl (qba y) j sz (ys.length+1)))))[j+1]?=some (some (cs'.set (o+off) (.tsl (qba y) j sz (ys.length+1)))):=by rw[List.getElem?_set_self hjlt]
       refine⟨_,arr,e,by rw[List.getElem?_set_ne hij];exact hset,q2,by rw[List.length_set];exact q3,fun k v u e1 e2=> ?_,fun v hv=> ?_⟩
       ·by_cases hk:k=o+off
        ·subst hk
         rw[List.getElem?_set_self holt]at e1;simp only[Option.some.injEq]at e1;subst e1
         have:u=u0:=by rw[hu0]at e2;simpa using e2.symm
         rw[this,hu];exact .tsl _ _ _ _ c b (by simp[Gh.foc]) hn hm
        ·have e1':=e1
         rw[List.getElem?_set_ne (Ne.symm hk)]at e1;exact tr v u (q4 k v u e1 e2) (qgO h2 hset v (List.mem_of_getElem? e1'))
       ·rcases List.mem_or_eq_of_mem_set hv with hv|hv
        ·exact q5 v hv
        ·subst hv
         exact⟨rfl,by rw[qaW];simp⟩
      ·obtain⟨cs2,arr2,e2,z1,z2,z3,z4,z5,z6⟩:=R.core.box i b' hi
       have hset:(s.B.set (j+1) (some (cs'.set (o+off) (.tsl (qba y) j sz (ys.length+1)))))[i]?=some (some cs2):=by rw[List.getElem?_set_ne (Ne.symm hi1)];exact z1
       exact⟨cs2,arr2,e2,by rw[List.getElem?_set_ne hij];exact hset,z2,z3,fun k v u e1 e2=>tr v u (z4 k v u e1 e2) (qgO h2 hset v (List.mem_of_getElem? e1)),z5⟩
     ·exact tr v _ (R.regs t' v (qgR hv')) (List.all_eq_true.1 h1 _ (qAZ hv'))
    ·simp at h
   ·simp at h
  ·simp at h
 |frzR t L live=>
  simp only[qiw]at h;simp only[Gho.low,decide_eq_true_eq]at hL;split at h
  ·rename_i v hl
   split at h
   ·rename_i hc
    obtain⟨ht,h1,h2⟩:=hc;obtain⟨d,hd,rfl⟩:=Option.map_eq_some_iff.1 h;refine⟨g.raise w L none,qkx hc0 hL (fun i hi=>by simp at hi) R (qmK R.core (fun i hi=>by simp at hi) (fun i hi=>by rw[List.getElem?_take,if_pos hi]) (fun i b cs hi=>by simp at hi)) rfl rfl (fun t' v' hv'=> ?_)⟩;simp only[lk]at hv';split at hv'
    ·rename_i he
     simp only[Option.some.injEq]at hv';subst hv';subst he
     exact .d _ _ (qBt R.core v d _ (R.regs _ v hl) hd)
    ·exact qky R.core (R.regs t' v' (qgR hv')) (qe2 h1 hv')
   ·simp at h
  ·simp at h
 |frzB t L live=>
  simp only[qiw]at h;simp only[Gho.low,decide_eq_true_eq]at hL;split at h
  ·rename_i i hl
   split at h
   ·rename_i hc
    obtain⟨hLi,ht,h1,h2⟩:=hc;obtain⟨cs,hcs,h⟩:=Option.bind_eq_some_iff.1 h;obtain⟨ds,hds,h⟩:=Option.bind_eq_some_iff.1 h;split at h
    ·rename_i hall
     simp only[Option.some.injEq]at h;subst h
     obtain⟨bi,hbi,hev⟩:=qcp (R.regs t _ hl);obtain⟨l1,l2⟩:=qfc hds;have htl:(s.B.take L).length=L:=by rw[List.length_take];omega
     refine⟨g.raise w L (some i),qkx hc0 hL (fun j hj=>by simp at hj;omega) R (qmK R.core (fun j hj=>by simp at hj;omega) (fun j hj=>by rw[List.getElem?_append_left (by omega),List.getElem?_take,if_pos hj]) (fun j b cs2 hj hb hcs2=> ?_)) rfl rfl (fun t' v' hv'=> ?_)⟩
     ·simp only[Option.some.injEq]at hj;subst hj
      have:cs2=cs:=by have:=qb5.1 hcs;rw[hcs2]at this;simpa using this
      subst this;refine⟨ds,by rw[List.getElem?_append_right (by omega),htl];simp,l1,fun d hd=>List.all_eq_true.1 hall d hd,fun k d v u q1 q2 q3 q4=> ?_⟩;obtain⟨v2,q5,q6⟩:=l2 k d q1;rw[q2]at q5;simp only[Option.some.injEq]at q5;subst q5
      exact qir R.core _ v d u q3 (fun j hj=>by simp at hj;subst hj;exact q4) q6
     ·simp only[lk]at hv'
      split at hv'
      ·rename_i he
       simp only[Option.some.injEq]at hv';subst hv';subst he
       rw[hev];exact .ptr _ _ _ (by simp[Gh.raise,hbi])
      ·exact qky R.core (R.regs t' v' (qgR hv')) (qe2 h1 hv')
    ·simp at h
   ·simp at h
  ·simp at h
theorem qBh{p:Id}{N:Nat}{g0 gl g:Gh}{w0 wl w:World}{s0 sl s s1:St}{a0 al a:Act}{live:List Nat}(h0:Reach fid p N g0 w0 s0 a0 gl wl sl al)(h:Reach fid p N g0 w0 s0 a0 g w s a)(hh:qqB sl.B.length live s=some s1):
 Reach fid p N g0 w0 s0 a0 (g.cutB sl.B.length) w s1 a:=by
 unfold qqB at hh;simp only at hh;split at hh
 ·rename_i hs
  simp at hh;subst hh;refine⟨h.core.cutB _,⟨fun i b hb=> ?_,fun i b hb=>h.boxes.new i b (qcn hb).2⟩,⟨h.step.os,h.step.tape,h.step.output,h.step.size,⟨h.step.ext.K,h.step.ext.cell,h.step.ext.row⟩,h.step.keep,h.step.new,h.step.org,h.step.arr⟩,fun t v hv=> ?_,h.size,h.defers,h.le⟩
  ·have h1:=qfk h0.core (h0.boxes.old i b hb)
   have h2:=h.boxes.old i b hb;simp[Gh.cutB,h1,h2]
  ·exact(qhs h.regs live t v hv).cutB (qe2 hs.1 hv)
 ·simp at hh
def okG(s0:St)(vc:VCode):Prop:=vc.plain=true\/((∀x,s0.A x=false)/\vc.over s0.B.length=true)
theorem qjv{call:qav}(hcall:qeq P fid call)(hm:P.follows .mixedOrders=true){p:Id}{n N:Nat}{g0:Gh}{w0:World}{s0:St}{a0:Act}(hc0:Core fid g0 w0 s0.B s0.A)(hf0:qgZ g0 p s0.c):∀(vc:VCode) (c:Code) (g:Gh) (w:World) (a:Act) (s s':St) (e:Ex),
 okG s0 vc->qaK P fid N c vc=true->Reach fid p N g0 w0 s0 a0 g w s a->qaI call p n vc s=some (e,s')->
 ∀(Q:Exit->Act->World->Prop),(∀g' w' a',Reach fid p N g0 w0 s0 a0 g' w' s' a'->Q e.toExit a' w')->c.wp P Q a w:=by
 intro vc
 induction vc with
 |ghost x y ih=>
  intro c g w a s s' e hg hok R hv Q hQ;simp only[qaK]at hok;simp only[qaI]at hv;obtain⟨s1,h1,h2⟩:=Option.bind_eq_some_iff.1 hv;rcases hg with hg|⟨hA,hg⟩
  ·simp[VCode.plain]at hg
  ·simp only[VCode.over,Bool.and_eq_true]at hg
   obtain⟨g',R'⟩:=qN7 hc0 hA hg.1 R h1;exact ih c g' w a s1 s' e (.inr ⟨hA,hg.2⟩) hok R' h2 Q hQ
 |regionT na live pre tl=>
  intro c g w a s s' e hg hok R hv Q hQ;cases c with
  |region id ops' draw'=>
   cases draw' with
   |false=>cases tl<;>simp[qaK]at hok
   |true=>
    simp only[qaI]at hv;obtain⟨s1,h1,h2⟩:=Option.map_eq_some_iff.1 hv;simp at h2;obtain⟨rfl,rfl⟩:=h2;exact qvM hcall hm hok R.core R.regs R.size (qbw R.step R.le hf0) h1 fun g' a' w' c1 b1 st1 r1 n1 d1 l1=>hQ g' w' a' (R.trans ⟨c1,b1,st1,r1,n1,d1,l1⟩)
  |_=>cases tl<;>simp[qaK]at hok
 |skip=>
  intro c g w a s s' e hg hok R hv Q hQ;cases c with
  |skip=>
   simp[qaI]at hv;obtain⟨rfl,rfl⟩:=hv
   exact wp_skip (hQ g w a R)
  |_=>simp[qaK]at hok
 |ret=>
  intro c g w a s s' e hg hok R hv Q hQ;cases c with
  |ret=>
   simp[qaI]at hv;obtain⟨rfl,rfl⟩:=hv
   exact wp_ret (hQ g w a R)
  |_=>simp[qaK]at hok
 |exit id=>
  intro c g w a s s' e hg hok R hv Q hQ;cases c with
  |exit id'=>
   simp[qaK]at hok;subst hok
   simp[qaI]at hv;obtain⟨rfl,rfl⟩:=hv
   exact wp_exit (hQ g w a R)
  |_=>simp[qaK]at hok
 |seq x y ihx ihy=>
  intro c g w a s s' e hg hok R hv Q hQ;have hgx:okG s0 x:=by
   rcases hg with hg|⟨hA,hg⟩
   ·simp only[VCode.plain,Bool.and_eq_true]at hg;exact .inl hg.1
   ·simp only[VCode.over,Bool.and_eq_true]at hg;exact .inr ⟨hA,hg.1⟩
  have hgy:okG s0 y:=by
   rcases hg with hg|⟨hA,hg⟩
   ·simp only[VCode.plain,Bool.and_eq_true]at hg;exact .inl hg.2
   ·simp only[VCode.over,Bool.and_eq_true]at hg;exact .inr ⟨hA,hg.2⟩
  cases c with
  |seq x' y'=>
   simp[qaK]at hok;simp only[qaI]at hv;obtain⟨⟨e1,s1⟩,h1,h2⟩:=Option.bind_eq_some_iff.1 hv;refine wp_seq (ihx x' g w a s s1 e1 hgx hok.1 R h1 _ fun g1 w1 a1 R1=> ?_);cases e1 with
   |normal=>
    simp only at h2;show y'.wp P Q a1 w1;exact ihy y' g1 w1 a1 s1 s' e hgy hok.2 R1 h2 Q hQ
   |exit id=>
    simp at h2;obtain⟨rfl,rfl⟩:=h2;exact hQ g1 w1 a1 R1
   |ret=>
    simp at h2;obtain⟨rfl,rfl⟩:=h2;exact hQ g1 w1 a1 R1
  |_=>simp[qaK]at hok
 |regionF draw na live fs=>
  intro c g w a s s' e hg hok R hv Q hQ;cases c with
  |region id ops' draw'=>
   simp[qaK]at hok;obtain⟨rfl,hok⟩:=hok;simp only[qaI]at hv;obtain⟨s1,h1,h2⟩:=Option.map_eq_some_iff.1 hv;simp at h2;obtain⟨rfl,rfl⟩:=h2;exact qpr hcall hm hok R.core R.regs R.size (qbw R.step R.le hf0) h1 fun g' a' w' c1 b1 st1 r1 n1 d1 l1=>hQ g' w' a' (R.trans ⟨c1,b1,st1,r1,n1,d1,l1⟩)
  |_=>simp[qaK]at hok
 |region draw na live ops=>
  intro c g w a s s' e hg hok R hv Q hQ;cases c with
  |region id ops' draw'=>
   simp[qaK]at hok;obtain⟨rfl,hok⟩:=hok;simp only[qaI]at hv;obtain⟨s1,h1,h2⟩:=Option.map_eq_some_iff.1 hv;simp at h2;obtain⟨rfl,rfl⟩:=h2;exact qpr hcall hm hok R.core R.regs R.size (qbw R.step R.le hf0) h1 fun g' a' w' c1 b1 st1 r1 n1 d1 l1=>hQ g' w' a' (R.trans ⟨c1,b1,st1,r1,n1,d1,l1⟩)
  |_=>simp[qaK]at hok
 |cond x y z ihy ihz=>
  intro c g w a s s' e hg hok R hv Q hQ;have hgy:okG s0 y:=by
   rcases hg with hg|⟨hA,hg⟩
   ·simp only[VCode.plain,Bool.and_eq_true]at hg;exact .inl hg.1
   ·simp only[VCode.over,Bool.and_eq_true]at hg;exact .inr ⟨hA,hg.1⟩
  have hgz:okG s0 z:=by
   rcases hg with hg|⟨hA,hg⟩
   ·simp only[VCode.plain,Bool.and_eq_true]at hg;exact .inl hg.2
   ·simp only[VCode.over,Bool.and_eq_true]at hg;exact .inr ⟨hA,hg.2⟩
  cases c with
  |cond x' y' z'=>
   simp[qaK]at hok;obtain⟨⟨hx,hy⟩,hz⟩:=hok;simp only[qaI]at hv;split at hv
   ·rename_i hq
    have:=qdo (qaq (w:=w) R.regs hx hq);refine wp_cond (t:=true) this ?_;simp only[if_true];exact ihy y' g w a s s' e hgy hy R hv Q hQ
   ·rename_i hq
    have:=qdo (qaq (w:=w) R.regs hx hq);refine wp_cond (t:=false) this ?_;simp only[Bool.false_eq_true,if_false];exact ihz z' g w a s s' e hgz hz R hv Q hQ
   ·simp at hv
  |_=>simp[qaK]at hok
 |block id y ih=>
  intro c g w a s s' e hg hok R hv Q hQ;have hgy:okG s0 y:=hg;cases c with
  |block id' y'=>
   simp[qaK]at hok;obtain⟨rfl,hok⟩:=hok;simp only[qaI]at hv;obtain⟨⟨e1,s1⟩,h1,h2⟩:=Option.map_eq_some_iff.1 hv;refine wp_block (ih y' g w a s s1 e1 hgy hok R h1 _ fun g1 w1 a1 R1=> ?_);split at h2
   ·rename_i he
    simp at he;subst he;simp at h2;obtain⟨rfl,rfl⟩:=h2;simp only[Ex.toExit,Exit.inBlock,if_true];exact hQ g1 w1 a1 R1
   ·rename_i he
    simp at he h2;obtain⟨rfl,rfl⟩:=h2;cases e1 with
    |normal=>exact hQ g1 w1 a1 R1
    |ret=>exact hQ g1 w1 a1 R1
    |exit id=>
     have:id≠id':=fun h=>he (by rw[h])
     simp only[Ex.toExit,Exit.inBlock,this,if_false];exact hQ g1 w1 a1 R1
  |_=>simp[qaK]at hok
 |loop live y ih=>
  intro c g w a s s' e hg hok R hv Q hQ;have hgy:okG s0 y:=hg;cases c with
  |loop y'=>
   simp[qaK]at hok;simp only[qaI]at hv;have key:∀(m:Nat) (g1:Gh) (w1:World) (a1:Act) (s1:St),Reach fid p N g0 w0 s0 a0 g1 w1 s1 a1->qls (qaI call p n y) s.B.length live m s1=some (e,s')->Code.rounds P y' Q m a1 w1:=by
    intro m
    induction m with
    |zero=>intro g1 w1 a1 s1 _ h;simp[qls]at h
    |succ m ihm=>
     intro g1 w1 a1 s1 R1 h;simp only[qls]at h;obtain⟨s2,h2,h3⟩:=Option.bind_eq_some_iff.1 h;obtain⟨⟨e3,s3⟩,h4,h5⟩:=Option.bind_eq_some_iff.1 h3;have R2:=qBh R R1 h2;rw[rounds_succ];refine ih y' _ w1 a1 s2 s3 e3 hgy hok R2 h4 _ fun g3 w3 a3 R3=> ?_
     cases e3 with
     |normal=>exact ihm g3 w3 a3 s3 R3 h5
     |exit id=>
      simp at h5;obtain⟨rfl,rfl⟩:=h5;exact hQ g3 w3 a3 R3
     |ret=>
      simp at h5;obtain⟨rfl,rfl⟩:=h5;exact hQ g3 w3 a3 R3
   exact wp_loop_rounds n (key n g w a s R hv)
  |_=>simp[qaK]at hok
theorem qf1{call:qav}(hcall:qeq P fid call)(hm:P.follows .mixedOrders=true){p:Id}{n N:Nat}(vc:VCode)(hpl:vc.plain=true)(c:Code)(g:Gh)(w:World)(a:Act)(s s':St)(e:Ex)
 (hok:qaK P fid N c vc=true) (hc:Core fid g w s.B s.A) (hr:qcK fid g w s.r a.tmps) (hN:a.tmps.size=N) (hfr:qgZ g p s.c) (hv:qaI call p n vc s=some (e,s'))
 (Q:Exit->Act->World->Prop) (hQ:∀g' w' a',Reach fid p N g w s a g' w' s' a'->Q e.toExit a' w'):c.wp P Q a w:=
 qjv hcall hm hc hfr vc c g w a s s' e (.inl hpl) hok (.refl hc hr hN) hv Q hQ
end Go.Proofs.Ytfiakfiocdfpbaa.VS
namespace Go.Proofs.Ytfiakfiocdfpbaa.VS
variable {P:Program} {fid:Nat->FuncId}
def qh9(tmps:Array Value):ResultVar->Sem Value
 | .tmp t=>pure (tmps.getD t undef)
 | .cell a t=>do loadVar t (<-asAddr (tmps.getD a undef))
theorem qg9{g:Gh}{w:World}{s:St}{tm:Array Value}(hc:Core fid g w s.B s.A)(hr:qcK fid g w s.r tm):∀(l:List ResultVar) (rs:List VRes) (vs:List AV),qeK P l rs=true->qfD s rs=some vs->
 ∃us:List Value,(l.mapM (qh9 tm)).run P w= .ok us w/\us.length=vs.length/\∀(j:Nat) (v:AV) (u:Value),vs[j]?=some v->us[j]?=some u->AVR fid g w v u
 | [],[],vs,_,h=>by
  simp[qfD]at h;subst h
  exact⟨[],by simp,rfl,fun j v u h=>by simp at h⟩
 |x::l,y::rs,vs,hok,h=>by
  simp only[qfD]at h;obtain⟨v,h1,h2⟩:=Option.bind_eq_some_iff.1 h;obtain⟨vs',h3,rfl⟩:=Option.map_eq_some_iff.1 h2;have step:∃u,(qh9 tm x).run P w= .ok u w/\AVR fid g w v u/\qeK P l rs=true:=by
   cases x with
   |tmp t=>
    cases y with
    |tmp t'=>
     simp[qeK]at hok;obtain⟨rfl,hok⟩:=hok;simp only[qkw]at h1;exact⟨tm.getD t undef,by simp[qh9],hr t v h1,hok⟩
    |cell t' ag sz=>simp[qeK]at hok
   |cell t ty=>
    cases y with
    |tmp t'=>simp[qeK]at hok
    |cell t' ag sz=>
     simp[qeK]at hok;obtain⟨⟨⟨rfl,ha⟩,hs⟩,hok⟩:=hok;simp only[qkw]at h1;split at h1
     ·rename_i i off hl
      obtain⟨blk,hb,he⟩:=qcp (hr t _ hl);obtain⟨u,hu,ha',hb'⟩:=qmX hc hb h1;refine⟨u,?_,hu,hok⟩;have:=qoo (P:=P) (w:=w) (ad:=⟨blk,off,none⟩) (u:=u) ha hs ha' hb';unfold qh9;simp only[Sem.run_bind];rw[he];simp[asAddr,this]
     ·simp at h1
  obtain⟨u,r1,r2,hok'⟩:=step;obtain⟨us,r3,r4,r5⟩:=qg9 hc hr l rs vs' hok' h3;refine⟨u::us,?_,by simp[r4],fun j v' u' hj hu=> ?_⟩
  ·simp[List.mapM_cons,r1,r3]
  ·cases j with
   |zero=>simp at hj hu;subst hj;subst hu;exact r2
   |succ j=>simp at hj hu;exact r5 j v' u' hj hu
 | [],_::_,_,h,_=>by simp[qeK]at h
 |x::_,[],_,h,_=>by cases x<;>simp[qeK]at h
def qO0:List Value->Value
 | [u]=>u
 |us=> .tuple us.toArray
theorem qvK(fn:Func)(tm:Array Value):results fn tm=(do
 let vs<-fn.results.mapM (qh9 tm)
 pure (if h:vs.size=1 then vs[0]else .tuple vs)):=by
 unfold results
 congr 2
theorem qe3{fn:Func}{tm:Array Value}{w:World}{us:List Value}(h:(fn.results.toList.mapM (qh9 tm)).run P w= .ok us w):
 (results fn tm).run P w= .ok (qO0 us) w:=by
 rw[qvK,Array.mapM_eq_mapM_toList];simp only[Sem.run_bind,h,map_eq_pure_bind,Result.andThen_ok,Sem.run_pure]
 match us with
 | []=>simp[qO0]
 | [u]=>simp[qO0]
 |u::v::r=>simp[qO0]
theorem qfV{p:Id}{N:Nat}{g0 g:Gh}{w0 w:World}{s0 s:St}{a0 a:Act}{fn:Func}{rs:List VRes}{r:Res}(hc0:Core fid g0 w0 s0.B s0.A)(hfr:qgZ g0 p s0.c)(h:Reach fid p N g0 w0 s0 a0 g w s a)
 (hok:qeK P fn.results.toList rs=true) (hf:finish s0.B.length p s rs=some r):
 ∃u,(results fn a.tmps).run P w= .ok u w/\∃g',Post fid (from_ p 0) g0 w0 s0.A r u g' w:=by
 have hfr':=qbw h.step h.le hfr;have hst:Step (from_ p 0) g0 w0 s0.A g w s.A:=h.step.weaken fun x ⟨q,j,h1,h2,h3⟩=>⟨q,j,Nat.zero_le _,h3⟩
 have hcutbox:Boxes g0 w0 (g.cutB s0.B.length):=⟨fun i b hb=>by
  have h1:=qfk hc0 hb;have h2:=h.boxes.old i b hb;simp[Gh.cutB,h1,h2],fun i b hb=>h.boxes.new i b (qcn hb).2⟩
 have hcutstep:Step (from_ p 0) g0 w0 s0.A (g.cutB s0.B.length) w s.A:=⟨hst.os,hst.tape,hst.output,hst.size,⟨hst.ext.K,hst.ext.cell,hst.ext.row⟩,hst.keep,hst.new,hst.org,hst.arr⟩;have hcutE:ExtV g w (g.cutB s0.B.length) w:=⟨fun _=>Nat.le_refl _,fun _ _=>rfl,fun _ _ h=>h⟩;unfold finish at hf;split at hf
 ·
  rename_i v hv;simp at hf;subst hf
  obtain⟨us,r1,r2,r3⟩:=qg9 h.core h.regs _ _ _ hok hv
  match us,r2 with
  | [u],_=>
   refine⟨u,qe3 r1,g.cutB s0.B.length,AVR.data fid hcutE (r3 0 _ u rfl rfl),h.core.cutB _,hcutbox,hcutstep⟩
 ·
  rename_i i off hv;simp at hf;subst hf
  obtain⟨us,r1,r2,r3⟩:=qg9 h.core h.regs _ _ _ hok hv
  match us,r2 with
  | [u],_=>exact⟨u,qe3 r1,g,r3 0 _ u rfl rfl,h.core,h.boxes,hst⟩
 ·
  rename_i idb agg i sz n hv;split at hf
  ·rename_i hL
   obtain⟨hLi,hn63⟩:=hL;obtain⟨cs,h1,h2⟩:=Option.bind_eq_some_iff.1 hf;obtain⟨avs,h3,h4⟩:=Option.bind_eq_some_iff.1 h1;split at h2
   ·rename_i hlen
    obtain⟨xs,h5,rfl⟩:=Option.map_eq_some_iff.1 h2;obtain⟨us,r1,r2,r3⟩:=qg9 h.core h.regs _ _ _ hok hv
    match us,r2 with
    | [u],_=>
     have hu:=r3 0 _ u rfl rfl;refine⟨u,qe3 r1,?_⟩;cases hu with
     |bsl _ _ _ _ _ b hb=>
      obtain⟨bcs,arr,e,b1,b2,b3,b4,b5,b6⟩:=h.core.box i b hb;have hbcs:avs=bcs:=by
       have:=qb5.1 h3;rw[b1]at this;simp at this;exact this.symm
      subst hbcs;have hds:=qbo h4;have hbnew:w0.heap.size<=b:=by
       rcases h.boxes.new i b hb with h6|h6
       ·have:=qfk hc0 h6;omega
       ·exact h6
      have hids:g.row (s.c::p)=none:=by have:=hfr' [] s.c (Nat.le_refl _);simpa using this
      have hnotbox:∀i',(g.cutB s0.B.length).bx i'≠some b:=fun i' h6=>by
       obtain⟨h7,h8⟩:=qcn h6;have:=h.core.inj i i' b hb h8;omega
      have hE:ExtV g w {K:=fun x=>if x=b then n*sz else g.K x,row:=fun a=>if a=s.c::p then some (b,n,n,sz)else g.row a,bx:=(g.cutB s0.B.length).bx} w:=by
       refine⟨fun x=> ?_,fun _ _=>rfl,fun a x hx=> ?_⟩
       ·simp only;split
        ·rename_i hx;rw[hx,b6];exact Nat.zero_le _
        ·exact Nat.le_refl _
       ·simp only
        rw[if_neg (fun he=>by rw[he,hids]at hx;simp at hx)];exact hx
      have hE2:Ext (g.cutB s0.B.length) w {K:=fun x=>if x=b then n*sz else g.K x,row:=fun a=>if a=s.c::p then some (b,n,n,sz)else g.row a,bx:=(g.cutB s0.B.length).bx} w:=⟨⟨hE.K,hE.cell,hE.row⟩,fun _ _ h=>h⟩;have hcellcs:∀v:DV,v∈cs->v.isCell=true:=fun v hvm=>by
       have:=(b5 (.d v) (by rw[hds];exact List.mem_map_of_mem hvm)).1;exact this
      obtain⟨c1,c2⟩:=qf2 hcellcs h5;have hal:n*sz<=arr.size:=by rw[hds]at b3;simpa[hlen]using b3
      refine⟨{K:=fun x=>if x=b then n*sz else g.K x,row:=fun a=>if a=s.c::p then some (b,n,n,sz)else g.row a,bx:=(g.cutB s0.B.length).bx},?_,⟨fun i' b' h6=> ?_,fun i1 i2 b' h6 h7=> ?_,fun x hx=> ?_,fun x x' b' y y' hx hx' hb1 hb2=> ?_,fun b' hb'=> ?_⟩,⟨hcutbox.old,hcutbox.new⟩,⟨hst.os,hst.tape,hst.output,hst.size,hst.ext.trans hE,fun b' hb' hx1 hx2=> ?_,fun x hx=> ?_,fun x b' hx hb'=> ?_,hst.arr⟩⟩
      ·have key:VR {K:=fun x=>if x=b then n*sz else g.K x,row:=fun a=>if a=s.c::p then some (b,n,n,sz)else g.row a,bx:=(g.cutB s0.B.length).bx} w (.sl (.own (s.c::p) sz) xs) (.slice (some ⟨b,0,none⟩) xs.length xs.length):=by
        refine .row _ xs ⟨b,0,none⟩ xs.length sz (fun k=>arr.getD k undef) (by simp) (Nat.le_refl _) (by rw[c1];unfold maxLen;omega) (fun k hk=> ?_) (.inr (by simp[c1])) (fun i' x hx=>⟨(c2 i' x hx).1,(c2 i' x hx).2.1⟩) (fun i' x j v hx hj=> ?_) (fun a' sz' ht=> ?_)
        ·rw[qbZ]
         have:k<arr.size:=by rw[c1]at hk;omega
         simp[World.cell?,b2,Array.getD_eq_getD_getElem?,this]
        ·have h6:=(c2 i' x hx).2.2 j v hj
         have h7:(i'*sz+j)<arr.size:=by
          have:=(List.getElem?_eq_some_iff.1 h6).1;omega
         have h8:=b4 (i'*sz+j) (.d v) (arr[i'*sz+j]) (by rw[hds];simp[h6]) (by simp[h7]);have h9:=qdb h8;simp[Array.getD_eq_getD_getElem?,h7];exact h9.mono hE
        ·simp at ht
         obtain⟨rfl,rfl⟩:=ht;refine⟨rfl,rfl,rfl,?_,fun h=>by simp[h]⟩;simp[c1]
       rw[c1]at key;exact .d _ _ key
      ·obtain⟨h7,h8⟩:=qcn h6
       obtain⟨cs',arr',e',d1,d2,d3,d4,d5,d6⟩:=(h.core.cutB s0.B.length).box i' b' h6;have hne:b'≠b:=fun he=>by rw[he]at h6;exact hnotbox i' h6
       refine⟨cs',arr',e',d1,d2,d3,fun j v u q1 q2=>(d4 j v u q1 q2).mono fid hE2,d5,?_⟩;simp only[if_neg hne];exact d6
      ·exact(h.core.cutB s0.B.length).inj i1 i2 b' h6 h7
      ·simp only[Ids.add,Bool.or_eq_true,decide_eq_true_eq]at hx
       rcases hx with rfl|hx
       ·exact⟨b,n,n,sz,arr,e,by simp,b2,hal,by simp,Nat.le_refl _,hnotbox⟩
       ·obtain⟨b',n',c',sz',arr',e',o1,o2,o3,o4,o5,o6⟩:=h.core.opn x hx
        have hne:b'≠b:=fun he=>o6 i (by rw[he];exact hb)
        have hnx:x≠s.c::p:=fun he=>by rw[he,hids]at o1;simp at o1
        exact⟨b',n',c',sz',arr',e',by simp only[if_neg hnx];exact o1,o2,o3,by simp only[if_neg hne];exact o4,o5,fun i' h6=>o6 i' (qcn h6).2⟩
      ·simp only[Ids.add,Bool.or_eq_true,decide_eq_true_eq]at hx hx'
       have old:∀z y,s.A z=true->(if z=s.c::p then some (b,n,n,sz)else g.row z)=some (b',y)->z≠s.c::p/\b'≠b/\g.row z=some (b',y):=by
        intro z y hz hzr;obtain⟨b2',n',c',sz',arr',e',o1,o2,o3,o4,o5,o6⟩:=h.core.opn z hz;have hnz:z≠s.c::p:=fun he=>by rw[he,hids]at o1;simp at o1
        rw[if_neg hnz]at hzr;refine⟨hnz,fun he=> ?_,hzr⟩;rw[o1]at hzr;simp at hzr;exact o6 i (by rw[hzr.1,he];exact hb)
       rcases hx with rfl|hx
       ·rcases hx' with rfl|hx'
        ·rfl
        ·obtain⟨_,z2,_⟩:=old x' y' hx' hb2
         simp at hb1;exact absurd hb1.1.symm z2
       ·rcases hx' with rfl|hx'
        ·obtain⟨_,z2,_⟩:=old x y hx hb1
         simp at hb2;exact absurd hb2.1.symm z2
        ·exact h.core.apart x x' b' y y' hx hx' (old x y hx hb1).2.2 (old x' y' hx' hb2).2.2
      ·have hne:b'≠b:=fun he=>by
        have:=h.core.lt hb;omega
       simp only[if_neg hne];exact h.core.K0 b' hb'
      ·have hne:b'≠b:=by omega
       simp only[if_neg hne];exact hst.keep b' hb' hx1 hx2
      ·by_cases he:x=s.c::p
       ·exact⟨[],s.c,Nat.zero_le _,by simpa using he⟩
       ·simp only[if_neg he]at hx
        exact hst.new x hx
      ·simp only[Ids.add,Bool.or_eq_true,decide_eq_true_eq]at hx
       by_cases he:x=s.c::p
       ·simp[Gh.blk,he]at hb'
        exact .inl (by omega)
       ·rcases hx with hx|hx
        ·exact absurd hx he
        ·simp only[Gh.blk,if_neg he]at hb'
         exact hst.org x b' hx (by simpa[Gh.blk]using hb')
   ·simp at h2
  ·simp at hf
 ·simp at hf
 ·
  rename_i vs hnd hnp hnb hn1 hv;obtain⟨ds,hds,rfl⟩:=Option.map_eq_some_iff.1 hf;obtain⟨us,r1,r2,r3⟩:=qg9 h.core h.regs _ _ _ hok hv;have hd:=qbo hds;have hne:∀u,us≠[u]:=fun u hu=>by
   rw[hu]at r2
   match vs,r2 with
   | [v],_=>exact hn1 v rfl
  refine⟨.tuple us.toArray,?_,g.cutB s0.B.length,AVR.data fid hcutE (.d _ _ (.tup ds us.toArray (by simp[r2,hd]) fun j v u q1 q2=> ?_)),h.core.cutB _,hcutbox,hcutstep⟩
  ·rw[qe3 r1]
   match us,hne with
   | [],_=>rfl
   | [u],hne=>exact absurd rfl (hne u)
   |_::_::_,_=>rfl
  ·exact qdb (r3 j (.d v) u (by rw[hd];simp[q1]) (by simpa using q2))
 ·simp at hf
end Go.Proofs.Ytfiakfiocdfpbaa.VS
namespace Go.Proofs.Ytfiakfiocdfpbaa.VS
variable {P:Program} {fid:Nat->FuncId}
def qxA(P:Program)(fid:Nat->FuncId)(k:Nat)(f:Id->List AV->Option (DV×Ids)):Prop:=
 qCY P (fid k)/\∀p args v A,(qaC args).isSome->f p args=some (v,A)->∀g w (us:Array Value),us.size=args.length->(∀(j:Nat) (v:AV) (u:Value),args[j]?=some v->us[j]?=some u->AVR fid g w v u)->
  Core fid g w [] Ids.none->qgZ g p 0->Calls P (fid k) us w fun e w'=>∃u g',e= .returned u/\Post fid (from_ p 0) g w Ids.none ⟨.d v,A,[]⟩ u g' w'
def qvi(P:Program)(fid:Nat->FuncId)(k:Nat)(sf:SFn):Prop:=
 ∀call n,qeq P fid call->qxA P fid k (fun p args=>(qaC args).bind (qpg call n p sf))
structure EnvOK(P:Program)(fid:Nat->FuncId)(E:Env):Prop where
 code:∀k vf,E.nat k=none->E.code k=some vf->∃fn,P.funcs[fid k]?=some fn/\qbt P fid fn vf=true
 nat:∀k f,E.nat k=some f->qxA P fid k f
 spec:∀k sf,E.spec k=some sf->qvi P fid k sf
 mixed:P.follows .mixedOrders=true
 base:∀k vf,E.code k=some vf->qHI (E.base k) vf.code=true
theorem qip:∀(args:List AV) (i t:Nat) (v:AV),lk (qak i args) t=some v->i<=t/\args[t-i]?=some v
 | [],i,t,v,h=>by simp[qak,lk]at h
 |x::xs,i,t,v,h=>by
  simp only[qak,lk]at h;split at h
  ·rename_i ht
   simp at h;subst h;subst ht
   simp
  ·rename_i ht
   obtain⟨h1,h2⟩:=qip xs (i+1) t v h;refine⟨by omega,?_⟩;rw[show t-i=(t-(i+1))+1 by omega];simpa using h2
theorem quA{p:Id}{f:Nat}{args:List AV}{B:qan}{A A1:Ids}{v:DV}{fn:Id->List AV->Option (DV×Ids)}(hk:qxA P fid f fn)(h1:(qaC args).isSome)(h3:fn p args=some (v,A1)):
 qCY P (fid f)/\∀g w (us:Array Value),us.size=args.length->(∀(j:Nat) (v:AV) (u:Value),args[j]?=some v->us[j]?=some u->AVR fid g w v u)->
 Core fid g w B A->qgZ g p 0->Calls P (fid f) us w fun e w'=>∃u g',e= .returned u/\Post fid (from_ p 0) g w A ⟨.d v,Ids.or A1 A,B⟩ u g' w':=by
 obtain⟨ds,h1'⟩:=Option.isSome_iff_exists.1 h1;obtain⟨q1,q2⟩:=hk;refine⟨q1,fun g w us hus hrel hcore hfr=> ?_⟩;have hd:=qbo h1';have e5:ExtV g w (g.cutB 0) w:=⟨fun _=>Nat.le_refl _,fun _ _=>rfl,fun _ _ h=>h⟩;have hcalls:=q2 p args v A1 h1 h3 (g.cutB 0) w us hus (fun j x u h4 h5=>by
  have h6:=hrel j x u h4 h5;have:∃d,x= .d d:=by
   rw[hd]at h4;simp at h4;obtain⟨d,_,rfl⟩:=h4;exact⟨d,rfl⟩
  obtain⟨d,rfl⟩:=this;exact AVR.data fid e5 h6) (by
  have h5:=(hcore.cutB 0).sub (A':=Ids.none) (fun x hx=>by simp[Ids.none]at hx);simpa using h5) (fun q j hj=>by have:=hfr q j hj;simpa[Gh.cutB]using this)
 refine hcalls.mono fun e w' ⟨u,g',he,hp⟩=> ?_
 obtain⟨g2,c2,b2,s2,e2,v2⟩:=quJ hcore rfl hp;exact⟨u,g2,he,v2,c2,b2,s2⟩
theorem qFG{E:Env}(hE:EnvOK P fid E):∀n,qeq P fid (qdG E n):=by
 intro n
 induction n with
 |zero=>intro p f args B A r h;simp[qdG]at h
 |succ n ih=>
  intro p f args B A r h;simp only[qdG]at h;split at h
  ·rename_i fn hn
   obtain⟨ds,h1,h2⟩:=Option.bind_eq_some_iff.1 h;obtain⟨⟨v,A1⟩,h3,rfl⟩:=Option.map_eq_some_iff.1 h2;exact quA (hE.nat f fn hn) (by simp[h1]) h3
  ·rename_i hn
   split at h
   ·split at h
    ·simp at h
    rename_i sf hs;obtain⟨ds,h1,h2⟩:=Option.bind_eq_some_iff.1 h;obtain⟨⟨v,A1⟩,h3,rfl⟩:=Option.map_eq_some_iff.1 h2;exact quA (hE.spec f sf hs (qdG E n) n ih) (by simp[h1]) (by simp only[h1,Option.bind_some];exact h3)
   rename_i vf hvf;split at h
   ·simp at h
   rename_i hlen;obtain⟨fn,hfn,hok⟩:=hE.code f vf hn hvf;have hbase:=hE.base f vf hvf;simp only[qbt,Bool.and_eq_true,decide_eq_true_eq,Bool.not_eq_true']at hok;obtain⟨⟨⟨hb,hrs⟩,hnp⟩,hname⟩:=hok;split at hb
   ·rename_i c hbody
    refine⟨⟨fn,hfn,hname,by simp[hbody]⟩,fun g w us hus hrel hcore hfr=> ?_⟩;have hregs:qcK fid g w (qak 0 args) (us++Array.replicate (fn.ntmps-us.size) undef):=fun t v hv=>by
     obtain⟨_,h3⟩:=qip args 0 t v hv;simp at h3;have hlt:t<us.size:=by rw[hus];exact(List.getElem?_eq_some_iff.1 h3).1
     have:(us++Array.replicate (fn.ntmps-us.size) undef).getD t undef=us[t]:=by
      simp[Array.getD_eq_getD_getElem?,Array.getElem?_append_left hlt,hlt]
     rw[this];exact hrel t v _ h3 (by simp[hlt])
    have hsize:(us++Array.replicate (fn.ntmps-us.size) undef).size=fn.ntmps:=by
     simp at hlen⊢
     omega
    split at h
    ·rename_i hbn
     rw[hbn]at hbase;obtain⟨⟨e,s'⟩,h1,h2⟩:=Option.bind_eq_some_iff.1 h;refine calls_of_wp hfn hbody (qf1 (N:=fn.ntmps) ih hE.mixed vf.code hbase c g w _ ⟨qak 0 args,B,A,0⟩ s' e hb hcore hregs hsize hfr h1 _ fun g' w' a' R=> ?_);cases e with
     |exit id=>simp at h2
     |normal=>
      simp only at h2;obtain⟨u,r1,g2,hp⟩:=qfV hcore hfr R hrs h2;exact bodyPost_end r1 R.defers ⟨u,g2,rfl,hp⟩
     |ret=>
      simp only at h2;obtain⟨u,r1,g2,hp⟩:=qfV hcore hfr R hrs h2;exact bodyPost_ret r1 R.defers ⟨u,g2,rfl,hp⟩
    ·rename_i m hbm
     rw[hbm]at hbase;split at h
     ·simp at h
     rename_i hBm;have hBm':B.length=m:=by simpa using hBm
     obtain⟨⟨e,s'⟩,h1,h2⟩:=Option.bind_eq_some_iff.1 h;have hc0:Core fid g w B Ids.none:=hcore.sub (fun x hx=>by simp[Ids.none]at hx);refine calls_of_wp hfn hbody (qjv (N:=fn.ntmps) (s0:=⟨qak 0 args,B,Ids.none,0⟩) (a0:=⟨us++Array.replicate (fn.ntmps-us.size) undef,[]⟩) ih hE.mixed hc0 hfr vf.code c g w _ ⟨qak 0 args,B,Ids.none,0⟩ s' e (.inr ⟨fun _=>rfl,by rw[hBm'];exact hbase⟩) hb (.refl hc0 hregs hsize) h1 _ fun g' w' a' R=> ?_);cases e with
     |exit id=>simp at h2
     |normal=>
      simp only at h2;obtain⟨q,h3,rfl⟩:=Option.map_eq_some_iff.1 h2;obtain⟨u,r1,g2,hp⟩:=qfV hc0 hfr R hrs h3;exact bodyPost_end r1 R.defers ⟨u,g2,rfl,qqm hcore hp⟩
     |ret=>
      simp only at h2;obtain⟨q,h3,rfl⟩:=Option.map_eq_some_iff.1 h2;obtain⟨u,r1,g2,hp⟩:=qfV hc0 hfr R hrs h3;exact bodyPost_ret r1 R.defers ⟨u,g2,rfl,qqm hcore hp⟩
   ·simp at hb
theorem qFF{E:Env}(hE:EnvOK P fid E):qeq P fid (qxn E):=by
 intro p f args B A r h;obtain⟨n,hn⟩:=qnf.1 h;exact qFG hE n p f args B A r hn
end Go.Proofs.Ytfiakfiocdfpbaa.VS
namespace Go.Proofs.Ytfiakfiocdfpbaa.VS
variable {P:Program} {fid:Nat->FuncId}
theorem qJW{g g2:Gh}{w w2:World}(hrow:∀a x,g.row a=some x->g2.row a=some x){v:DV}{u:Value}(h:VR g w v u)(hf:v.flat=true):VR g2 w2 v u:=by
 cases h with
 |int k n=>exact .int k n
 |bool b=>exact .bool b
 |str s=>exact .str s
 |agg cs us hs hc hv=>simp[DV.flat]at hf
 |tup cs us hs hv=>simp[DV.flat]at hf
 |nil=>exact .nil
 |row t xs ad c s U ht hl hm hcell hK hc hv hown=>
  cases xs with
  |cons x r=>simp[DV.flat]at hf
  |nil=>
   refine .row t [] ad c s U ht hl hm (fun k hk=>by simp at hk) (.inl (by simp)) (fun i x h=>by simp at h) (fun i x j v h=>by simp at h) (fun a sz ha=> ?_);obtain⟨h1,h2,h3,h4,h5⟩:=hown a sz ha;exact⟨h1,h2,h3,hrow _ _ h4,h5⟩
theorem qll{N:Nat}{c:Code}{a b:VCode}(h:qaK P fid N c (.seq a b)=true):∃x y,c= .seq x y/\qaK P fid N x a=true/\qaK P fid N y b=true:=by
 cases c with
 |seq x y=>simp[qaK]at h;exact⟨x,y,rfl,h.1,h.2⟩
 |_=>simp[qaK]at h
theorem qJl{N:Nat}{c:Code}{x:VX}{a b:VCode}(h:qaK P fid N c (.cond x a b)=true):∃o y z,c= .cond o y z/\okX fid o x=true/\qaK P fid N y a=true/\qaK P fid N z b=true:=by
 cases c with
 |cond o y z=>simp[qaK]at h;exact⟨o,y,z,rfl,h.1.1,h.1.2,h.2⟩
 |_=>simp[qaK]at h
theorem qlm{N na:Nat}{c:Code}{live:List Nat}{vs:List VOper}(h:qaK P fid N c (.region false na live vs)=true):∃id ops,c= .region id ops false/\qbi P fid N ops false ops.toList vs=true:=by
 cases c with
 |region id ops d=>simp[qaK]at h;obtain⟨rfl,h⟩:=h;exact⟨id,ops,rfl,h⟩
 |_=>simp[qaK]at h
theorem qlp{N:Nat}{ops:Array Oper}{d:Bool}{l:List Oper}{v:VOper}{vs:List VOper}(h:qbi P fid N ops d l (v::vs)=true):∃o os,l=o::os/\qeL P fid N ops o v=true/\qbi P fid N ops d os vs=true:=by
 cases l with
 |nil=>simp[qbi]at h
 |cons o os=>simp only[qbi,Bool.and_eq_true]at h;exact⟨o,os,rfl,h.1.1.1,h.2⟩
theorem qHk{N:Nat}{ops:Array Oper}{d:Bool}{l:List Oper}(h:qbi P fid N ops d l []=true):l=[]:=by
 cases l with
 |nil=>rfl
 |cons o os=>simp[qbi]at h
theorem qdR{ops:Array Oper}{Q:Exit->Act->World->Prop}{o:Oper}{os:List Oper}{a:Act}{w:World}(h:if Region.wanted o (yielded ops a.tmps)then o.wp P a w (wpList P ops Q os) Q else wpList P ops Q os (a.put o.dst undef) w):wpList P ops Q (o::os) a w:=by
 unfold wpList;split
 ·rename_i hw
  rw[if_pos hw]at h;exact .inl h
 ·rename_i hw
  rw[if_neg hw]at h;exact h
theorem qix{call:qav}{p:Id}{n:Nat}{a b:VCode}{s s':St}(h:qaI call p n (.seq a b) s=some (.normal,s')):∃s1,qaI call p n a s=some (.normal,s1)/\qaI call p n b s1=some (.normal,s'):=by
 simp only[qaI]at h;obtain⟨⟨e,s1⟩,h1,h2⟩:=Option.bind_eq_some_iff.1 h;cases e with
 |normal=>exact⟨s1,h1,h2⟩
 |exit id=>simp at h2
 |ret=>simp at h2
theorem qrV{s:St}{y:DV×DV}(h:qmH s=some y):∃c2 z0 z1 z2,lk s.r 3=some (.ptr 0 0)/\lk s.r 4=some (.ptr 1 0)/\s.B=[some [.d y.1,.d y.2,c2],some [.d z0,.d z1,.d z2]]/\
 y.1.flat=true/\y.2.flat=true/\z0.flat=true/\z1.flat=true/\z2.flat=true/\y.1.isCell=true/\y.2.isCell=true:=by
 unfold qmH at h;split at h
 ·rename_i x0 x1 x2 z0 z1 z2 e1 e2 e3
  split at h
  ·rename_i hc
   simp only[Option.some.injEq]at h;subst h
   simp only[Bool.and_eq_true]at hc;obtain⟨⟨⟨⟨⟨⟨c1,c2⟩,c3⟩,c4⟩,c5⟩,c6⟩,c7⟩:=hc;exact⟨x2,z0,z1,z2,e1,e2,e3,c1,c2,c3,c4,c5,c6,c7⟩
  ·simp at h
 ·simp at h
theorem qvD{call:qav}{p:Id}{sf:SFn}{A:Ids}{a:Id}{x:DV}{xr:List DV}{r:List DV×Ids}(h:qnI call p sf A a x xr=some r):
 ∃l v A2 cs es,DV.namess (x::xr)=some l/\A a=true/\(∀b,b∈l->A b=true)/\a∉l/\
  call p sf.srt [.tsl true 0 x.cells.length (xr.length+1),.fn sf.cmp []] [some (((x::xr).flatMap DV.cells).map .d)] (fun b=>l.contains b)=some ⟨v,A2,[some cs]⟩/\
  qaC cs=some es/\es.length=(xr.length+1)*x.cells.length/\chunks true x.cells.length (xr.length+1) es=some r.1/\r.2=Ids.add a A2:=by
 unfold qnI at h;obtain⟨l,h1,h2⟩:=Option.bind_eq_some_iff.1 h;split at h2
 ·rename_i hc
  split at h2
  ·rename_i v A2 cs hq
   obtain⟨es,h3,h4⟩:=Option.bind_eq_some_iff.1 h2;split at h4
   ·rename_i hl
    obtain⟨ys,h5,rfl⟩:=Option.map_eq_some_iff.1 h4;exact⟨l,v,A2,cs,es,h1,hc.1,fun b hb=>List.all_eq_true.1 hc.2.1 b hb,by simpa using hc.2.2,hq,h3,hl,h5,rfl⟩
   ·simp at h4
  ·simp at h2
 ·simp at h2
theorem qsR{p:Id}{s:St}{rs:List VRes}{r:Res}{v:DV}(h:finish 0 p s rs=some r)(hv:r.v= .d v):r.B=[]:=by
 unfold finish at h;split at h
 ·simp at h;subst h;rfl
 ·simp at h;subst h;simp at hv
 ·split at h
  ·obtain⟨cs,h1,h2⟩:=Option.bind_eq_some_iff.1 h
   split at h2
   ·obtain⟨xs,_,rfl⟩:=Option.map_eq_some_iff.1 h2;rfl
   ·simp at h2
  ·simp at h
 ·simp at h
 ·obtain⟨ds,_,rfl⟩:=Option.map_eq_some_iff.1 h;rfl
 ·simp at h
theorem qEX{call:qav}(hcall:qeq P fid call){p:Id}{N:Nat}{g0 g:Gh}{w0 w:World}{s0 s s':St}{a0 a:Act}{ops:Array Oper}{o:Oper}{vo:VOper}(hfr:qgZ g0 p s0.c)(R:Reach fid p N g0 w0 s0 a0 g w s a)
 (hok:qeL P fid N ops o vo=true) (hv:qdv call p false s.B.length 0 vo s=some s') {K:Act->World->Prop} {Q:Exit->Act->World->Prop}
 (hK:∀g' w' u,Reach fid p N g0 w0 s0 a0 g' w' {s' with c:=s.c+1} (a.put o.dst u)->(∀(b:Nat) (c:Array Value) (e:TypeId) (z:Nat×Nat),w.heap[b]?=some (Obj.cells c e z)->∃c':Array Value,w'.heap[b]?=some (Obj.cells c' e z)/\c'.size=c.size)->
  (∀i b,g.bx i=some b->g'.bx i=some b)->(∀b x,g.row b=some x->g'.row b=some x)->K (a.put o.dst u) w'):
 if Region.wanted o (yielded ops a.tmps)then o.wp P a w K Q else K (a.put o.dst undef) w:=by
 have hf:=qbw R.step R.le hfr;refine quv hcall R.core R.regs R.size (fun q=>hf q _ (by omega)) hok hv K Q (fun g' w' u c1 b1 st1 r1=> ?_);refine hK g' w' u ⟨c1,R.boxes.trans R.step.size b1,?_,r1,by rw[qbH];exact R.size,by rw[put_defers];exact R.defers,by have:=R.le;simp only;omega⟩ st1.arr b1.old st1.ext.row;exact(R.step.weaken fun x ⟨q,j,h1,h2,h3⟩=>⟨q,j,h1,by simp only;omega,h3⟩).trans R.boxes (st1.weaken fun x ⟨q,hx⟩=>⟨q,s.c,R.le,by simp only;omega,by simpa using hx⟩)
theorem qIn{g gc:Gh}{w:World}{b:Nat}{A:Ids}(hK:∀x,x≠b->gc.K x=g.K x)(hrow:gc.row=g.row)(hA:∀x c,A x=true->g.row x=some c->c.1≠b){v:DV}{u:Value}(h:VR g w v u):
 ∀l,v.names=some l->(∀x,x∈l->A x=true)->VR gc w v u:=by
 induction h with
 |int k n=>intro _ _ _;exact .int k n
 |bool b=>intro _ _ _;exact .bool b
 |str s=>intro _ _ _;exact .str s
 |agg cs us hs hc hv ih=>
  intro l hl hA';simp only[DV.names]at hl;have key:∀(cs:List DV) (l:List Id),DV.namess cs=some l->(∀x,x∈l->A x=true)->∀v,v∈cs->∃l',v.names=some l'/\∀x,x∈l'->A x=true:=by
   intro cs
   induction cs with
   |nil=>intro l _ _ v hv;simp at hv
   |cons c r ihr=>
    intro l hl hA' v hv;simp only[DV.namess]at hl;obtain⟨l1,h1,h2⟩:=Option.bind_eq_some_iff.1 hl;obtain⟨l2,h3,rfl⟩:=Option.map_eq_some_iff.1 h2;rcases List.mem_cons.1 hv with rfl|hv
    ·exact⟨l1,h1,fun x hx=>hA' x (by simp[hx])⟩
    ·exact ihr l2 h3 (fun x hx=>hA' x (by simp[hx])) v hv
  refine .agg cs us hs hc fun j v u hj hu=> ?_
  obtain⟨l',h1,h2⟩:=key cs l hl hA' v (List.mem_of_getElem? hj);exact ih j v u hj hu l' h1 h2
 |tup cs us hs hv ih=>intro l hl;simp[DV.names]at hl
 |nil=>intro _ _ _;exact .nil
 |row t xs ad c s U ht hl hm hcell hKK hc hv hown ih=>
  intro l hn hA';cases xs with
  |nil=>
   refine .row t [] ad c s U ht hl hm (fun k hk=>by simp at hk) (.inl (by simp)) (fun i x h=>by simp at h) (fun i x j v h=>by simp at h) (fun a sz ha=> ?_);rw[hrow];exact hown a sz ha
  |cons x r=>
   cases t with
   |nil=>exact absurd rfl ht
   |sub=>simp[DV.names]at hn
   |own a sz=>
    simp only[DV.names]at hn;obtain⟨l1,h1,rfl⟩:=Option.map_eq_some_iff.1 hn;obtain⟨o1,o2,o3,o4,o5⟩:=hown a sz rfl;have hne:ad.block≠b:=hA a _ (hA' a (by simp)) o4;have key:∀(cs:List DV) (l:List Id),DV.namess cs=some l->(∀x,x∈l->A x=true)->∀v,v∈cs->∃l',v.names=some l'/\∀x,x∈l'->A x=true:=by
     intro cs
     induction cs with
     |nil=>intro l _ _ v hv;simp at hv
     |cons c r ihr=>
      intro l hl hA' v hv;simp only[DV.namess]at hl;obtain⟨l1,h1,h2⟩:=Option.bind_eq_some_iff.1 hl;obtain⟨l2,h3,rfl⟩:=Option.map_eq_some_iff.1 h2;rcases List.mem_cons.1 hv with rfl|hv
      ·exact⟨l1,h1,fun x hx=>hA' x (by simp[hx])⟩
      ·exact ihr l2 h3 (fun x hx=>hA' x (by simp[hx])) v hv
    have keyc:∀(v:DV) (l:List Id),v.names=some l->(∀x,x∈l->A x=true)->∀c,c∈v.cells->∃l',c.names=some l'/\∀x,x∈l'->A x=true:=by
     intro v l h1 h2 c hc;cases v with
     |agg cs=>simp only[DV.names]at h1;exact key cs l h1 h2 c hc
     |_=>simp only[DV.cells,List.mem_singleton]at hc;subst hc;exact⟨l,h1,h2⟩
    refine .row _ _ ad c s U ht hl hm hcell (by rw[hK _ hne];exact hKK) hc (fun i y j v hy hj=> ?_) (fun a' sz' ha=>by rw[hrow];exact hown a' sz' ha);obtain⟨l',h2,h3⟩:=key (x::r) l1 h1 (fun z hz=>hA' z (by simp[hz])) y (List.mem_of_getElem? hy);obtain⟨l2,h4,h5⟩:=keyc y l' h2 h3 v (List.mem_of_getElem? hj);exact ih i y j v hy hj l2 h4 h5
theorem qit{sz:Nat}:∀(xs:List DV),(∀x,x∈xs->x.cells.length=sz)->∀k v,(xs.flatMap DV.cells)[k]?=some v->∃i x j,xs[i]?=some x/\x.cells[j]?=some v/\k=i*sz+j/\j<sz
 | [],_,k,v,h=>by simp at h
 |x::r,hs,k,v,h=>by
  simp only[List.flatMap_cons]at h;have hx:=hs x (by simp)
  by_cases hk:k<sz
  ·rw[List.getElem?_append_left (by omega)]at h
   exact⟨0,x,k,rfl,h,by simp,hk⟩
  ·rw[List.getElem?_append_right (by omega),hx]at h
   obtain⟨i,y,j,h1,h2,h3,h4⟩:=qit r (fun y hy=>hs y (by simp[hy])) _ _ h;exact⟨i+1,y,j,by simpa using h1,h2,by rw[Nat.add_mul];omega,h4⟩
theorem qlJ{sz:Nat}:∀(xs:List DV),(∀x,x∈xs->x.cells.length=sz)->(xs.flatMap DV.cells).length=xs.length*sz
 | [],_=>by simp
 |x::r,hs=>by
  simp only[List.flatMap_cons,List.length_append,List.length_cons,hs x (by simp),qlJ r (fun y hy=>hs y (by simp[hy]))];rw[Nat.add_mul];omega
end Go.Proofs.Ytfiakfiocdfpbaa.VS
namespace Go.Proofs.Ytfiakfiocdfpbaa.VS
variable {P:Program} {fid:Nat->FuncId}
theorem qEi{fn:Func}{p:Id}{g0:Gh}{w0:World}{s0:St}{a0:Act}{rs:List VRes}{v:DV}{A:Ids}(hB:s0.B=[])(hA:s0.A=Ids.none)(hd:a0.defers=[])(hc0:Core fid g0 w0 s0.B s0.A)(hfr:qgZ g0 p s0.c)(hrs:qeK P fn.results.toList rs=true)
 {e:Ex} {g:Gh} {w:World} {s:St} {a:Act} (R:Reach fid p fn.ntmps g0 w0 s0 a0 g w s a)
 (h:(match e with| .exit _=>none|_=>(finish 0 p s rs).bind fun q=>match q.v with| .d v=>some (v,q.A)|_=>none)=some (v,A)):
 bodyPost P fn (fun e w'=>∃u g',e= .returned u/\Post fid (from_ p 0) g0 w0 Ids.none ⟨.d v,A,[]⟩ u g' w') e.toExit a w:=by
 have key:(finish 0 p s rs).bind (fun q=>match q.v with| .d v=>some (v,q.A)|_=>none)=some (v,A)->∃u,(results fn a.tmps).run P w= .ok u w/\∃g',Post fid (from_ p 0) g0 w0 Ids.none ⟨.d v,A,[]⟩ u g' w:=by
  intro h;obtain⟨q,h1,h2⟩:=Option.bind_eq_some_iff.1 h;split at h2
  ·rename_i v' hv'
   simp only[Option.some.injEq,Prod.mk.injEq]at h2;obtain⟨rfl,rfl⟩:=h2;have hq:=qsR h1 hv';obtain⟨u,r1,g',hp⟩:=qfV (fn:=fn) hc0 hfr R hrs (by rw[hB];exact h1);refine⟨u,r1,g',?_⟩;rw[hA]at hp;obtain⟨qv,qA,qB⟩:=q;simp only at hv' hq;subst hv';subst hq
   exact hp
  ·simp at h2
 cases e with
 |exit id=>simp at h
 |normal=>
  obtain⟨u,r1,g2,hp⟩:=key h;exact bodyPost_end r1 (by rw[R.defers];exact hd) ⟨u,g2,rfl,hp⟩
 |ret=>
  obtain⟨u,r1,g2,hp⟩:=key h;exact bodyPost_ret r1 (by rw[R.defers];exact hd) ⟨u,g2,rfl,hp⟩
def qds(g:Gh)(b:Nat):Gh:={K:=fun x=>if x=b then 0 else g.K x,row:=g.row,bx:=fun i=>if i=0 then some b else none}
theorem qlw{g:Gh}{w:World}{B:qan}{A:Ids}(hc:Core fid g w B A){a:Id}{sz:Nat}{x:DV}{xr:List DV}{u:Value}{l:List Id}(hv:VR g w (.sl (.own a sz) (x::xr)) u)(hn:DV.namess (x::xr)=some l)(ha:A a=true)(hl:∀z,z∈l->A z=true)(hal:a∉l):
 ∃b c,u= .slice (some ⟨b,0,none⟩) (xr.length+1) c/\xr.length+1<=c/\c<=maxLen/\sz=x.cells.length/\g.row a=some (b,xr.length+1,c,sz)/\g.K b=(xr.length+1)*sz/\
  (∃arr e,w.heap[b]?=some (.cells arr e (0,0))/\c*sz<=arr.size)/\(∀i,g.bx i≠some b)/\
  Core fid (qds g b) w [some (((x::xr).flatMap DV.cells).map .d)] (fun z=>l.contains z)/\(∀z y,l.contains z=true->g.row z=some y->y.1≠b):=by
 cases hv with
 |row _ _ ad c s U ht hle hm hcell hK hcc hrel hown=>
  obtain⟨o1,o2,o3,o4,o5⟩:=hown a sz rfl;subst o3;obtain⟨b',n',c',sz',arr,e,q1,q2,q3,q4,q5,q6⟩:=hc.opn a ha;rw[q1]at o4;simp only[Option.some.injEq,Prod.mk.injEq]at o4;obtain⟨rfl,rfl,rfl,rfl⟩:=o4;have had:ad=⟨ad.block,0,none⟩:=by cases ad;simp at o1 o2;simp[o1,o2]
  have hsz:sz'=x.cells.length:=((hcc 0 x rfl).1).symm;have hlen:∀y,y∈x::xr->y.cells.length=sz':=fun y hy=>by
   obtain⟨i,hi⟩:=List.mem_iff_getElem?.1 hy;exact(hcc i y hi).1
  have hap:∀z y,l.contains z=true->g.row z=some y->y.1≠ad.block:=fun z y hz hy he=>by
   have hzl:z∈l:=by simpa using hz
   have:z=a:=hc.apart z a ad.block y.2 _ (hl z hzl) ha (by rw[hy,<-he]) q1;exact hal (by rw[<-this];exact hzl)
  refine⟨ad.block,c',by rw[<-had];rfl,hle,hm,hsz,q1,by rw[q4];simp,⟨arr,e,q2,q3⟩,q6,⟨fun i b hb=> ?_,fun i j b hi hj=> ?_,fun z hz=> ?_,fun z z' b y y' hz hz' h1 h2=> ?_,fun b hb=> ?_⟩,hap⟩
  ·simp only[qds]at hb
   split at hb
   ·rename_i hi
    subst hi;simp only[Option.some.injEq]at hb;subst hb
    refine⟨_,arr,e,rfl,q2,?_,fun j v u hj hu=> ?_,fun v hvm=> ?_,by simp[qds]⟩
    ·rw[List.length_map,qlJ _ hlen]
     have:(x::xr).length*sz'<=c'*sz':=Nat.mul_le_mul_right _ hle;omega
    ·rw[List.getElem?_map]at hj
     obtain⟨d,hd,rfl⟩:=Option.map_eq_some_iff.1 hj;obtain⟨i,y,j',h1,h2,h3,h4⟩:=qit _ hlen _ _ hd;have hi:i<(x::xr).length:=(List.getElem?_eq_some_iff.1 h1).1;have hjlt:j<(x::xr).length*sz':=by
      have:(i+1)*sz'<=(x::xr).length*sz':=Nat.mul_le_mul_right _ hi;rw[Nat.add_mul]at this;omega
     have h5:=hcell j hjlt;have h6:w.cell? (ad.add j)=arr[j]?:=by
      rw[had,qbZ];simp[World.cell?,q2]
     rw[h6,hu]at h5;simp only[Option.some.injEq]at h5;have h7:=hrel i y j' d h1 h2;rw[<-h3,<-h5]at h7;have hnm:∃l',d.names=some l'/\∀z,z∈l'->l.contains z=true:=by
      have key:∀(cs:List DV) (l:List Id),DV.namess cs=some l->∀v,v∈cs->∃l',v.names=some l'/\∀x,x∈l'->x∈l:=by
       intro cs
       induction cs with
       |nil=>intro l _ v hv;simp at hv
       |cons c r ihr=>
        intro l hl v hv;simp only[DV.namess]at hl;obtain⟨l1,h1,h2⟩:=Option.bind_eq_some_iff.1 hl;obtain⟨l2,h3,rfl⟩:=Option.map_eq_some_iff.1 h2;rcases List.mem_cons.1 hv with rfl|hv
        ·exact⟨l1,h1,fun x hx=>by simp[hx]⟩
        ·obtain⟨l3,h4,h5⟩:=ihr l2 h3 v hv
         exact⟨l3,h4,fun x hx=>by simp[h5 x hx]⟩
      obtain⟨l1,h8,h9⟩:=key _ l hn y (List.mem_of_getElem? h1);cases y with
      |agg cs=>
       simp only[DV.names]at h8;obtain⟨l2,h10,h11⟩:=key cs l1 h8 d (List.mem_of_getElem? h2);exact⟨l2,h10,fun z hz=>by simpa using h9 z (h11 z hz)⟩
      |_=>
       have:=List.mem_of_getElem? h2;simp only[DV.cells,List.mem_singleton]at this;subst this;exact⟨l1,h8,fun z hz=>by simpa using h9 z hz⟩
     obtain⟨l',h8,h9⟩:=hnm;refine .d _ _ (qIn (g:=g) (gc:=qds g ad.block) (b:=ad.block) (A:=fun z=>l.contains z) (fun x hx=>by simp[qds,hx]) rfl hap h7 l' h8 h9)
    ·simp only[List.mem_map]at hvm
     obtain⟨d,hd,rfl⟩:=hvm;obtain⟨j,hj⟩:=List.mem_iff_getElem?.1 hd;obtain⟨i,y,j',h1,h2,h3,h4⟩:=qit _ hlen _ _ hj;exact⟨(hcc i y h1).2 d (List.mem_of_getElem? h2),by unfold AV.safe;rfl⟩
   ·simp at hb
  ·simp only[qds]at hi hj
   split at hi
   ·split at hj
    ·omega
    ·simp at hj
   ·simp at hi
  ·have hzl:z∈l:=by simpa using hz
   obtain⟨b,n,c2,s2,arr2,e2,o1,o2,o3,o4,o5,o6⟩:=hc.opn z (hl z hzl);have hne:b≠ad.block:=hap z _ hz o1;refine⟨b,n,c2,s2,arr2,e2,o1,o2,o3,by simp[qds,hne,o4],o5,fun i hi=> ?_⟩;simp only[qds]at hi;split at hi
   ·simp at hi;exact hne hi.symm
   ·simp at hi
  ·exact hc.apart z z' b y y' (hl z (by simpa using hz)) (hl z' (by simpa using hz')) h1 h2
  ·simp only[qds]
   split
   ·rfl
   ·exact hc.K0 b hb
end Go.Proofs.Ytfiakfiocdfpbaa.VS
namespace Go.Proofs.Ytfiakfiocdfpbaa.VS
variable {P:Program} {fid:Nat->FuncId}
theorem qdF{ops:Array Oper}{a:Act}{o:Oper}{N:Nat}{vo:VOper}(hok:qeL P fid N ops o vo=true)(hg:vo.guard=none):Region.wanted o (yielded ops a.tmps)=true:=by
 simp only[qeL,Bool.and_eq_true]at hok;obtain⟨_,h4⟩:=hok;rw[hg]at h4;unfold qok at h4;unfold Region.wanted;split at h4
 ·rename_i e0 e1;rw[e0]
 ·rename_i h;simp at h
 ·simp at h4
theorem qCB{g0 g g1:Gh}{w0 w w1:World}{A A2:Ids}{p:Id}{k k2:Nat}{l:List Id}{a:Id}{b c n sz:Nat}{cs:List AV}{es ys:List DV}{x0 x1 z0 z1 z2:DV}{c2:AV}
 (hc0:Core fid g0 w0 [] Ids.none) (hbx:Boxes g0 w0 g) (hst:Step (between p 0 k) g0 w0 Ids.none g w A)
 (hc:Core fid g w [some [.d x0,.d x1,c2],some [.d z0,.d z1,.d z2]] A)
 (ha:A a=true) (hl:∀z,z∈l->A z=true) (hal:∀z y,l.contains z=true->g.row z=some y->y.1≠b)
 (hrow:g.row a=some (b,n,c,sz)) (hKb:g.K b=n*sz) (hn:0<n) (hcap:n<=c) (hmax:c<=maxLen) (hheap:∃arr e,w.heap[b]?=some (.cells arr e (0,0))/\c*sz<=arr.size) (hnbx:∀i,g.bx i≠some b)
 {N1:Id->Prop} (hN1:∀x,N1 x->between p 0 k2 x) (hk:k<=k2) (hbx1:Boxes (qds g b) w g1) (hst1:Step N1 (qds g b) w (fun z=>l.contains z) g1 w1 A2) (hc1:Core fid g1 w1 [some cs] A2)
 (hcs:qaC cs=some es) (hes:es.length=n*sz) (hys:chunks true sz n es=some ys)
 (f0:x0.flat=true) (f1:x1.flat=true) (f2:z0.flat=true) (f3:z1.flat=true) (f4:z2.flat=true)
 {b3 b4:Nat} (hb3:g.bx 0=some b3) (hb4:g.bx 1=some b4):
 ∃arr3 e3,w1.heap[b3]?=some (.cells arr3 e3 (0,0))/\3<=arr3.size/\∃g3,g3.bx 0=some b3/\g3.bx 1=some b4/\
  Core fid g3 (w1.setRow b3 (splice arr3.toList 2 [.slice (some ⟨b,0,none⟩) n c]).toArray) [some [.d x0,.d x1,.d (.sl (.own a sz) ys)],some [.d z0,.d z1,.d z2]] (Ids.add a A2)/\
  Boxes g0 w0 g3/\Step (between p 0 k2) g0 w0 Ids.none g3 (w1.setRow b3 (splice arr3.toList 2 [.slice (some ⟨b,0,none⟩) n c]).toArray) (Ids.add a A2):=by
 have hg1b:g1.bx 0=some b:=hbx1.old 0 b (by simp[qds]);have h0bx:∀i,g0.bx i=none:=fun i=>by
  cases h:g0.bx i with
  |none=>rfl
  |some x=>have:=qfk hc0 h;simp at this
 have hnew:∀i x,g.bx i=some x->w0.heap.size<=x:=fun i x h=>by
  rcases hbx.new i x h with h1|h1
  ·rw[h0bx]at h1;simp at h1
  ·exact h1
 have hAnew:∀z y,A z=true->g.row z=some y->w0.heap.size<=y.1:=fun z y hz hy=>by
  rcases hst.org z y.1 hz (by simp[Gh.blk,hy])with h|⟨z0,h,_⟩
  ·exact h
  ·simp[Ids.none]at h
 have hbnew:w0.heap.size<=b:=hAnew a _ ha hrow;have hne3:b3≠b:=fun h=>hnbx 0 (by rw[hb3,h])
 have hne4:b4≠b:=fun h=>hnbx 1 (by rw[hb4,h])
 have hne34:b3≠b4:=fun h=>by have:=hc.inj 0 1 b3 hb3 (by rw[hb4,h]);simp at this
 have hopen:∀i x,g.bx i=some x->∀z,l.contains z=true->(qds g b).blk z≠some x:=fun i x hx z hz hblk=>by
  have hzl:z∈l:=by simpa using hz
  obtain⟨b',n',c',s',arr',e',q1,q2,q3,q4,q5,q6⟩:=hc.opn z (hl z hzl);simp only[Gh.blk,qds,q1,Option.map_some,Option.some.injEq]at hblk;exact q6 i (by rw[hx,hblk])
 have kept:∀i x,g.bx i=some x->x≠b->w1.heap[x]?=w.heap[x]?/\g1.K x=g.K x:=fun i x hx hxb=>by
  obtain⟨cs',arr',e',q1,q2,_⟩:=hc.box i x hx;have:=hst1.keep x (Array.getElem?_eq_some_iff.1 q2).1 (fun j hj=>by
   simp only[qds]at hj;split at hj
   ·simp at hj;exact hxb hj.symm
   ·simp at hj) (hopen i x hx)
  exact⟨this.1,by rw[this.2];simp[qds,hxb]⟩
 obtain⟨cs3,arr3,e3,q1,q2,q3,q4,q5,q6⟩:=hc.box 0 b3 hb3;simp only[List.getElem?_cons_zero,Option.some.injEq]at q1;subst q1;obtain⟨cs4,arr4,e4,r1,r2,r3,r4,r5,r6⟩:=hc.box 1 b4 hb4;simp only[List.getElem?_cons_succ,List.getElem?_cons_zero,Option.some.injEq]at r1;subst r1;simp at q3 r3;obtain⟨k3a,k3b⟩:=kept 0 b3 hb3 hne3;obtain⟨k4a,k4b⟩:=kept 1 b4 hb4 hne4;have hw3:w1.heap[b3]?=some (.cells arr3 e3 (0,0)):=by rw[k3a];exact q2
 have hK3:g1.K b3=0:=by rw[k3b];exact q6
 obtain⟨csb,arrb,eb,s1,s2,s3,s4,s5,s6⟩:=hc1.box 0 b hg1b;simp only[List.getElem?_cons_zero,Option.some.injEq]at s1;subst s1;obtain⟨arr0,e0,t1,t2⟩:=hheap;obtain⟨arrb',t3,t4⟩:=hst1.arr b arr0 e0 (0,0) t1;rw[s2]at t3;simp only[Option.some.injEq,Obj.cells.injEq]at t3;obtain⟨rfl,rfl,_⟩:=t3;have hds:=qbo hcs;refine⟨arr3,e3,hw3,by simpa using q3,?_⟩;generalize hw2:w1.setRow b3 (splice arr3.toList 2 [.slice (some ⟨b,0,none⟩) n c]).toArray=w2;have hh3:w2.heap[b3]?=some (.cells (splice arr3.toList 2 [.slice (some ⟨b,0,none⟩) n c]).toArray e3 (0,0)):=by rw[<-hw2];exact setRow_heap w1 b3 arr3 _ e3 (0,0) hw3
 have hoth:∀x,x≠b3->w2.heap[x]?=w1.heap[x]?:=fun x hx=>by rw[<-hw2];exact setRow_other w1 b3 x _ hx
 have hsz2:w2.heap.size=w1.heap.size:=by rw[<-hw2];simp[World.setRow]
 have hE1:ExtV g1 w1 g1 w2:=by rw[<-hw2];exact(qm8 (g:=g1) hw3 hK3).toExtV
 let g3:Gh:={K:=fun x=>if x=b then n*sz else g1.K x,row:=g1.row,bx:=fun i=>if i=0 then some b3 else if i=1 then some b4 else none}
 have hE3:ExtV g1 w1 g3 w2:=⟨fun x=>by
  simp only[g3];split
  ·rename_i h;rw[h,s6];exact Nat.zero_le _
  ·exact Nat.le_refl _,hE1.cell,fun _ _ h=>h⟩
 have hrow3:∀z y,g.row z=some y->g3.row z=some y:=fun z y h=>hst1.ext.row z y h
 have hlenes:n*sz<=arrb.size:=by rw[hds]at s3;simpa[hes]using s3
 have hcelles:∀v:DV,v∈es->v.isCell=true:=fun v hv=>(s5 (.d v) (by rw[hds];exact List.mem_map_of_mem hv)).1
 obtain⟨c1,c2'⟩:=qf2 hcelles hys;have hrowv:VR g3 w2 (.sl (.own a sz) ys) (.slice (some ⟨b,0,none⟩) n c):=by
  have key:VR g3 w2 (.sl (.own a sz) ys) (.slice (some ⟨b,0,none⟩) ys.length c):=by
   refine .row _ ys ⟨b,0,none⟩ c sz (fun k=>arrb.getD k undef) (by simp) (by rw[c1];exact hcap) hmax (fun k hk=> ?_) (.inr (by simp[g3,c1])) (fun i x hx=>⟨(c2' i x hx).1,(c2' i x hx).2.1⟩) (fun i x j v hx hj=> ?_) (fun a' sz' ht=> ?_)
   ·rw[qbZ]
    have:k<arrb.size:=by rw[c1]at hk;omega
    have hb:w2.heap[b]?=some (.cells arrb eb (0,0)):=by rw[hoth b (Ne.symm hne3)];exact s2
    simp[World.cell?,hb,Array.getD_eq_getD_getElem?,this]
   ·have h6:=(c2' i x hx).2.2 j v hj
    have h7:(i*sz+j)<arrb.size:=by
     have:=(List.getElem?_eq_some_iff.1 h6).1;omega
    have h8:=s4 (i*sz+j) (.d v) (arrb[i*sz+j]) (by rw[hds];simp[h6]) (by simp[h7]);have h9:=qdb h8;simp[Array.getD_eq_getD_getElem?,h7];exact h9.mono hE3
   ·simp at ht
    obtain⟨rfl,rfl⟩:=ht;refine⟨rfl,rfl,rfl,by rw[c1];exact hrow3 _ _ hrow,fun h=> ?_⟩;have:c=0\/c≠0:=by omega
    rcases this with h'|h'
    ·exact h'
    ·exfalso
     rw[h]at c1;simp at c1;omega
  rw[c1]at key;exact key
 have hdata:∀{v:DV} {u:Value},v.flat=true->AVR fid g w (.d v) u->AVR fid g3 w2 (.d v) u:=fun hf h=> .d _ _ (qJW hrow3 (qdb h) hf)
 have hA2:∀z,A2 z=true->∃b' n' c' s' arr' e',g1.row z=some (b',n',c',s')/\w1.heap[b']?=some (.cells arr' e' (0,0))/\c'*s'<=arr'.size/\g1.K b'=n'*s'/\n'<=c'/\b'≠b/\b'≠b3/\b'≠b4/\w0.heap.size<=b':=fun z hz=>by
  obtain⟨b',n',c',s',arr',e',o1,o2,o3,o4,o5,o6⟩:=hc1.opn z hz;have hlt3:=hc.lt hb3;have hlt4:=hc.lt hb4;have hs:=hst.size;refine⟨b',n',c',s',arr',e',o1,o2,o3,o4,o5,fun h=>o6 0 (by rw[hg1b,h]),?_⟩;rcases hst1.org z b' hz (by simp[Gh.blk,o1])with h|⟨z0,h1,h2⟩
  ·exact⟨by omega,by omega,by omega⟩
  ·refine⟨fun h=>hopen 0 b3 hb3 z0 h1 (by rw[h2,h]),fun h=>hopen 1 b4 hb4 z0 h1 (by rw[h2,h]),?_⟩
   simp only[Gh.blk,qds]at h2;obtain⟨y,h3,rfl⟩:=Option.map_eq_some_iff.1 h2;exact hAnew z0 y (hl z0 (by simpa using h1)) h3
 have hs3:=hst.size;have hs1:=hst1.size;have hltb:b<w1.heap.size:=(Array.getElem?_eq_some_iff.1 s2).1;refine⟨g3,by simp[g3],by simp[g3],⟨fun i b' hb'=> ?_,fun i j b' hi hj=> ?_,fun z hz=> ?_,fun z z' b' y y' hz hz' h1 h2=> ?_,fun x hx=> ?_⟩,⟨fun i x h=>by rw[h0bx]at h;simp at h,fun i x h=> ?_⟩,⟨?_,?_,?_,by omega,⟨fun x=> ?_,fun ad had=> ?_,fun z y h=> ?_⟩,fun x hx hx1 hx2=> ?_,fun z hz=> ?_,fun z x hz hx=> ?_,fun x c' e' y h=> ?_⟩⟩
 ·simp only[g3]at hb'
  split at hb'
  ·rename_i hi;subst hi
   simp only[Option.some.injEq]at hb';subst hb'
   refine⟨_,_,e3,rfl,hh3,?_,fun j v u hj hu=> ?_,fun v hv=> ?_,by simp[g3,hne3,hK3]⟩
   ·rw[List.size_toArray,qb8 _ _ _ (by simp;omega)];simpa using q3
   ·simp only[List.getElem?_toArray]at hu
    rw[qb9 _ _ _ (by simp;omega)]at hu
    match j with
    |0=>
     simp at hj hu;subst hj
     exact hdata f0 (q4 0 _ u rfl (by simpa using hu))
    |1=>
     simp at hj hu;subst hj
     exact hdata f1 (q4 1 _ u rfl (by simpa using hu))
    |2=>
     simp at hj hu;subst hj;subst hu
     exact .d _ _ hrowv
    |j+3=>simp at hj
   ·simp at hv
    rcases hv with rfl|rfl|rfl
    ·exact q5 _ (by simp)
    ·exact q5 _ (by simp)
    ·exact⟨rfl,by unfold AV.safe;rfl⟩
  ·split at hb'
   ·rename_i hi;subst hi
    simp only[Option.some.injEq]at hb';subst hb'
    refine⟨_,arr4,e4,rfl,by rw[hoth _ (Ne.symm hne34),k4a];exact r2,by simpa using r3,fun j v u hj hu=> ?_,fun v hv=>r5 v hv,by simp[g3,hne4,k4b,r6]⟩;have hh:=r4 j v u hj hu
    match j with
    |0=>simp at hj;subst hj;exact hdata f2 hh
    |1=>simp at hj;subst hj;exact hdata f3 hh
    |2=>simp at hj;subst hj;exact hdata f4 hh
    |j+3=>simp at hj
   ·simp at hb'
 ·simp only[g3]at hi hj
  split at hi<;>split at hj
  ·omega
  ·split at hj
   ·simp only[Option.some.injEq]at hi hj;exact absurd (hi.trans hj.symm) hne34
   ·simp at hj
  ·split at hi
   ·simp only[Option.some.injEq]at hi hj;exact absurd (hj.trans hi.symm) hne34
   ·simp at hi
  ·split at hi
   ·split at hj
    ·omega
    ·simp at hj
   ·simp at hi
 ·simp only[Ids.add,Bool.or_eq_true,decide_eq_true_eq]at hz
  rcases hz with rfl|hz
  ·refine⟨b,n,c,sz,arrb,eb,hrow3 _ _ hrow,by rw[hoth b (Ne.symm hne3)];exact s2,by omega,by simp[g3],hcap,fun i hi=> ?_⟩
   simp only[g3]at hi;split at hi
   ·simp at hi;exact hne3 hi
   ·split at hi
    ·simp at hi;exact hne4 hi
    ·simp at hi
  ·obtain⟨b',n',c',s',arr',e',o1,o2,o3,o4,o5,o6,o7,o8,o9⟩:=hA2 z hz
   refine⟨b',n',c',s',arr',e',o1,by rw[hoth b' o7];exact o2,o3,by simp[g3,o6,o4],o5,fun i hi=> ?_⟩;simp only[g3]at hi;split at hi
   ·simp at hi;exact o7 hi.symm
   ·split at hi
    ·simp at hi;exact o8 hi.symm
    ·simp at hi
 ·simp only[Ids.add,Bool.or_eq_true,decide_eq_true_eq]at hz hz'
  have ha3:=hrow3 _ _ hrow;have no:∀z y,A2 z=true->g3.row z=some (b,y)->False:=fun z y hz hy=>by
   obtain⟨b',n',c',s',arr',e',o1,o2,o3,o4,o5,o6,o7,o8,o9⟩:=hA2 z hz;simp only[g3]at hy;rw[o1]at hy;simp only[Option.some.injEq,Prod.mk.injEq]at hy;exact o6 hy.1
  rcases hz with rfl|hz<;>rcases hz' with rfl|hz'
  ·rfl
  ·rw[ha3]at h1
   simp only[Option.some.injEq,Prod.mk.injEq]at h1;exact(no z' y' hz' (by rw[h2,h1.1])).elim
  ·rw[ha3]at h2
   simp only[Option.some.injEq,Prod.mk.injEq]at h2;exact(no z y hz (by rw[h1,h2.1])).elim
  ·exact hc1.apart z z' b' y y' hz hz' h1 h2
 ·have hxb:x≠b:=by omega
  simp only[g3,if_neg hxb];exact hc1.K0 x (by omega)
 ·simp only[g3]at h
  split at h
  ·simp at h;subst h;exact .inr (hnew 0 _ hb3)
  ·split at h
   ·simp at h;subst h;exact .inr (hnew 1 _ hb4)
   ·simp at h
 ·rw[<-hw2];exact hst1.os.trans hst.os
 ·rw[<-hw2];exact hst1.tape.trans hst.tape
 ·rw[<-hw2];exact hst1.output.trans hst.output
 ·simp only[g3]
  split
  ·rename_i h;subst h;rw[hc0.K0 _ hbnew];exact Nat.zero_le _
  ·rename_i h
   have h1:=hst.ext.K x;have h2:=hst1.ext.K x;simp only[qds,if_neg h]at h2;omega
 ·have hlt:ad.block<w0.heap.size:=by
   rcases Nat.lt_or_ge ad.block w0.heap.size with h|h
   ·exact h
   ·rw[hc0.K0 _ h]at had;omega
  have hb3n:=hnew 0 b3 hb3;have e1:w2.cell? ad=w1.cell? ad:=by simp only[World.cell?];rw[hoth _ (by omega)]
  have e2:=hst1.ext.cell ad (by
   have:=hst.ext.K ad.block;simp only[qds];rw[if_neg (by omega)];omega)
  rw[e1,e2];exact hst.ext.cell ad had
 ·exact hrow3 z y (hst.ext.row z y h)
 ·have hb3n:=hnew 0 b3 hb3
  obtain⟨k1,k2⟩:=hst.keep x hx hx1 hx2;obtain⟨k3,k4⟩:=hst1.keep x (by omega) (fun i hi=>by
   simp only[qds]at hi;split at hi
   ·simp at hi;omega
   ·simp at hi) (fun z hz hblk=>by
   simp only[Gh.blk,qds]at hblk;obtain⟨y,h3,h4⟩:=Option.map_eq_some_iff.1 hblk;have:=hAnew z y (hl z (by simpa using hz)) h3;omega)
  have hxb:x≠b:=by omega
  refine⟨by rw[hoth x (by omega),k3,k1],?_⟩;simp only[g3,if_neg hxb];rw[k4];simp only[qds,if_neg hxb];exact k2
 ·simp only[g3]at hz
  by_cases he:g.row z=g0.row z
  ·refine hN1 z (hst1.new z ?_)
   simp only[qds];rw[he];exact hz
  ·obtain⟨q,j,h1,h2,h3⟩:=hst.new z he
   exact⟨q,j,h1,by omega,h3⟩
 ·simp only[Ids.add,Bool.or_eq_true,decide_eq_true_eq]at hz
  simp only[Gh.blk]at hx;obtain⟨y,h3,h4⟩:=Option.map_eq_some_iff.1 hx;rcases hz with rfl|hz
  ·rw[hrow3 _ _ hrow]at h3
   simp only[Option.some.injEq]at h3;subst h3;simp only at h4;subst h4
   exact .inl hbnew
  ·obtain⟨b',n',c',s',arr',e',o1,o2,o3,o4,o5,o6,o7,o8,o9⟩:=hA2 z hz
   simp only[g3]at h3;rw[o1]at h3;simp only[Option.some.injEq]at h3;subst h3;simp only at h4;subst h4
   exact .inl o9
 ·obtain⟨c1',d1,d2⟩:=hst.arr x c' e' y h
  obtain⟨c3',d3,d4⟩:=hst1.arr x c1' e' y d1
  by_cases hx:x=b3
  ·subst hx
   rw[hw3]at d3;simp only[Option.some.injEq,Obj.cells.injEq]at d3;obtain⟨rfl,rfl,rfl⟩:=d3;refine⟨_,hh3,?_⟩;rw[List.size_toArray,qb8 _ _ _ (by simp;omega)];simp;omega
  ·exact⟨c3',by rw[hoth x hx];exact d3,by omega⟩
end Go.Proofs.Ytfiakfiocdfpbaa.VS
namespace Go.Proofs.Ytfiakfiocdfpbaa.VS
variable {P:Program} {fid:Nat->FuncId}
theorem qJm{o:Operand}{n:Nat}(h:okX fid o (.t n)=true)(a:Act):a.eval o=a.tmps.getD n undef:=by
 unfold okX at h;split at h
 ·rename_i t t' heq
  simp at h;subst h
  simp only[VX.t.injEq]at heq;subst heq;rfl
 all_goals simp_all
theorem qNF{o:Oper}{n:Nat}(h:qaM P fid o.op (.move (.t n))=true)(a:Act)(w:World):(execOp a.eval o).run P w= .ok (.value (a.tmps.getD n undef)) w:=by
 obtain⟨dst,op,ty,pos,after,guard⟩:=o;cases op with
 |move y=>rw[<-qJm (show okX fid y (.t n)=true by simpa[qaM]using h) a];rfl
 |assign y=>rw[<-qJm (show okX fid y (.t n)=true by simpa[qaM]using h) a];rfl
 |_=>simp[qaM]at h
theorem qIC{call:qav}(hcall:qeq P fid call)(hm:P.follows .mixedOrders=true){N:Nat}{srt cmp:Nat}{cnd rg2 rg3:Code}
 (hok1:qaK P fid N cnd (.cond (.t 42) (.region false 0 [3,4,5] [⟨some 43,.move (.t 5),none,[]⟩,⟨some 44,.call false (.c (.fn srt [])) [.t 43,.c (.fn cmp [])],none,[]⟩]) .skip)=true)
 (hok2:qaK P fid N rg2 (.region false 0 [3,4] [⟨some 45,.move (.t 5),none,[]⟩,⟨some 46,.fieldAddr 2 (.t 3),none,[]⟩,⟨none,.store false 1 (.t 46) (.t 45),none,[]⟩])=true)
 (hok3:qaK P fid N rg3 (.region false 0 [4] [⟨some 47,.load true 3 (.t 3),none,[]⟩,⟨none,.store false 3 (.t 4) (.t 47),none,[]⟩])=true)
 {p:Id} {g0 g:Gh} {w0 w:World} {s0 s:St} {a0 a:Act} (hB0:s0.B=[]) (hA0:s0.A=Ids.none) (hc0:s0.c=0) (hcore0:Core fid g0 w0 [] Ids.none) (hfr0:qgZ g0 p 0)
 (R:Reach fid p N g0 w0 s0 a0 g w s a) {i:Id} {sz:Nat} {x:DV} {xr:List DV} {y:DV×DV} {q:List DV×Ids}
 (h42:lk s.r 42=some (.d (.bool true))) (h5:lk s.r 5=some (.d (.sl (.own i sz) (x::xr)))) (hat:qmH s=some y) (hs:qnI call ((s.c+1)::p) ⟨2,.skip,.skip,[],5,42,srt,cmp⟩ s.A i x xr=some q)
 (Q:Exit->Act->World->Prop)
 (hQ:∀g' w' a' s',Reach fid p N g0 w0 s0 a0 g' w' s' a'->finish 0 p s' [.cell 4 true 3]=some ⟨.d (.agg [y.1,y.2,.sl (.own i sz) q.1]),q.2,[]⟩->Q .ret a' w'):
 cnd.wp P (Exit.then ((Code.seq rg2 (Code.seq rg3 Code.ret)).wp P Q) Q) a w:=by
 obtain⟨oc,cy,cz,rfl,hx1,hy1,hz1⟩:=qJl hok1;have ht:=qdo (qaq (w:=w) R.regs hx1 (show VX.get s.r (.t 42)=_ from h42));refine wp_cond (t:=true) ht ?_;simp only[if_true];obtain⟨id1,ops1,rfl,hops1⟩:=qlm hy1;obtain⟨o1,os1,hl1,ho1,hops1'⟩:=qlp hops1;obtain⟨o2,os2,rfl,ho2,hops1''⟩:=qlp hops1';have:=qHk hops1'';subst this
 obtain⟨c2,z0,z1,z2,b1,b2,b3,f0,f1,f2,f3,f4,kk0,kk1⟩:=qrV hat;obtain⟨l,vr,A2,cs,es,e1,e2,e3,e4,e5,e6,e7,e8,e9⟩:=qvD hs;refine wp_region_list ?_;rw[hl1];have hmv:qdv call p false s.B.length 0 ⟨some 43,.move (.t 5),none,[]⟩ s=some (s.put (some 43) (.d (.sl (.own i sz) (x::xr)))):=by
  simp[qdv,qcH,qa4,evP,VX.get,h5]
 have hfr0':qgZ g0 p s0.c:=by rw[hc0];exact hfr0
 refine qdR (qEX hcall hfr0' R ho1 hmv fun g w u R _ _ _=> ?_);have hN2:=qdF (a:=a.put o1.dst u) ho2 rfl;refine qdR ?_;rw[if_pos hN2];generalize ha1:a.put o1.dst u=a1 at R⊢
 have hfr:=qbw R.step R.le hfr0';simp only[qeJ]at hfr;have r43:lk (s.put (some 43) (.d (.sl (.own i sz) (x::xr)))).r 43=some (.d (.sl (.own i sz) (x::xr))):=by simp[St.put,lk]
 have r5:lk (s.put (some 43) (.d (.sl (.own i sz) (x::xr)))).r 5=some (.d (.sl (.own i sz) (x::xr))):=by simp[St.put,lk,h5]
 have r3:lk (s.put (some 43) (.d (.sl (.own i sz) (x::xr)))).r 3=some (.ptr 0 0):=by simp[St.put,lk,b1]
 have r4:lk (s.put (some 43) (.d (.sl (.own i sz) (x::xr)))).r 4=some (.ptr 1 0):=by simp[St.put,lk,b2]
 have hBs:(s.put (some 43) (.d (.sl (.own i sz) (x::xr)))).B=s.B:=rfl;have hAs:(s.put (some 43) (.d (.sl (.own i sz) (x::xr)))).A=s.A:=rfl;have hcore:Core fid g w s.B s.A:=R.core;rw[b3]at hcore;obtain⟨b,c,hu5,hcap,hmax,hsz,hrow,hKb,hheap,hnbx,hlent,hnames⟩:=qlw hcore (qdb (R.regs 43 _ r43)) e1 e2 e3 e4;obtain⟨b',c',hu5',hcap',hmax',hsz',hrow',_⟩:=qlw hcore (qdb (R.regs 5 _ r5)) e1 e2 e3 e4;rw[hrow]at hrow';simp only[Option.some.injEq,Prod.mk.injEq]at hrow';obtain⟨rfl,_,rfl,_⟩:=hrow';obtain⟨hfn,hcc⟩:=hcall _ _ _ _ _ _ e5;obtain⟨dst2,op2,ty2,pos2,aft2,gd2⟩:=o2;have hokop2:qaM P fid op2 (.call false (.c (.fn srt [])) [.t 43,.c (.fn cmp [])])=true:=by
  simp only[qeL,Bool.and_eq_true]at ho2;exact ho2.1.2
 cases op2 with
 |call cl=>
  obtain⟨callee,cargs,argTypes⟩:=cl;cases callee with
  |value fo=>
   simp only[qaM,Bool.and_eq_true]at hokop2;obtain⟨hk1,hk2⟩:=hokop2;have hfun:=qaq (w:=w) (a:=a1) R.regs hk1 (show VX.get _ (.c (.fn srt []))=some (.fn srt [])from rfl);obtain⟨hla,hargs⟩:=qgd (w:=w) (a:=a1) R.regs hk2 (show qfP _ [.t 43,.c (.fn cmp [])]=some [.d (.sl (.own i sz) (x::xr)),.fn cmp []]by simp[qfP,VX.get,r43]);generalize hq:a1.eval fo=qf at hfun;cases hfun with
   |fn _ _ us hus hcap2=>
    have hus0:us= #[]:=by simpa using hus
    subst hus0;have hrun:=qfX (P:=P) (w:=w) (a:=a1) (o:=⟨dst2,.call ⟨.value fo,cargs,argTypes⟩,ty2,pos2,aft2,gd2⟩) rfl rfl hq hfn;have hlc:cargs.size=2:=by simpa using hla.symm
    have hcalls:=hcc (qds g b) w (cargs.map a1.eval++ #[]) (by simp[hlc]) (fun j v u h1 h2=>by
     simp at h2;obtain⟨oo,h3,rfl⟩:=h2
     match j with
     |0=>
      simp at h1;subst h1
      have h4:=hargs 0 _ oo rfl (by simpa using h3);obtain⟨b',c',hu5',_,_,_,hrow',_⟩:=qlw hcore (qdb h4) e1 e2 e3 e4;rw[hrow]at hrow';simp only[Option.some.injEq,Prod.mk.injEq]at hrow';obtain⟨rfl,_,rfl,_⟩:=hrow';rw[hu5'];exact .tsl _ _ _ _ _ _ (by simp[qds]) hcap hmax
     |1=>
      simp at h1;subst h1
      have h4:=hargs 1 _ oo rfl (by simpa using h3);generalize a1.eval oo=uu at h4;cases h4 with
      |fn _ _ us2 hus2 hc2=>exact .fn _ _ us2 hus2 (fun j v u h5 h6=>by simp at h5)
     |j+2=>simp at h1) hlent (fun q j _=>by
     have:=hfr (q++[j]) (s.c+1) (Nat.le_refl _);simpa[qds]using this)
    unfold Oper.wp;rw[hrun,Oper.upon_enter];refine hcalls.mono fun e w1 ⟨u2,g1,he,hp⟩=> ?_
    subst he;have hd2:dst2=some 44:=by simp only[qeL,Bool.and_eq_true,beq_iff_eq]at ho2;exact ho2.1.1.1
    subst hd2;show(Code.seq rg2 (Code.seq rg3 Code.ret)).wp P Q (a1.put (some 44) u2) w1;have t3:=qcp (R.regs 3 _ r3);have t4:=qcp (R.regs 4 _ r4);obtain⟨b3',hb3,t3⟩:=t3;obtain⟨b4',hb4,t4⟩:=t4;have t5:a1.tmps.getD 5 undef= .slice (some ⟨b,0,none⟩) (xr.length+1) c:=hu5';have hst:Step (between p 0 (s.c+1)) g0 w0 Ids.none g w s.A:=by
     have:=R.step;rw[hA0,hc0]at this;exact this
    obtain⟨arr3,e3',hh3,hs3,g3,hg0,hg1,hcore3,hbox3,hstep3⟩:=qCB (k2:=s.c+2) hcore0 R.boxes hst hcore e2 e3 hnames hrow hKb (by omega) hcap hmax hheap hnbx
     (N1:=from_ ((s.c+1)::p) 0) (fun x ⟨q,j,_,hx⟩=>⟨q++[j],s.c+1,Nat.zero_le _,by omega,by simp[hx]⟩) (by omega) hp.boxes hp.step hp.core e6 (by rw[e7,hsz]) (by rw[hsz];exact e8) f0 f1 f2 f3 f4 hb3 hb4
    have hsize:(a1.put (some 44) u2).tmps.size=N:=by rw[qbH];exact R.size
    have hdef:(a1.put (some 44) u2).defers=a0.defers:=by rw[put_defers];exact R.defers
    have n3:(a1.put (some 44) u2).tmps.getD 3 undef= .pointer (some ⟨b3',0,none⟩):=by rw[qej,if_neg (by simp)];exact t3
    have n4:(a1.put (some 44) u2).tmps.getD 4 undef= .pointer (some ⟨b4',0,none⟩):=by rw[qej,if_neg (by simp)];exact t4
    have n5:(a1.put (some 44) u2).tmps.getD 5 undef= .slice (some ⟨b,0,none⟩) (xr.length+1) c:=by rw[qej,if_neg (by simp)];exact t5
    generalize a1.put (some 44) u2=a2 at hsize hdef n3 n4 n5⊢
    let gt:Gh:={K:=fun _=>0,row:=fun _=>none,bx:=fun i=>if i=0 then some b3' else if i=1 then some b4' else if i=2 then some b else none}
    have hr0:qcK fid gt w1 [(3,.ptr 0 0),(4,.ptr 1 0),(5,.tsl true 2 sz (xr.length+1))] a2.tmps:=by
     intro t v hv;simp only[lk]at hv;split at hv
     ·rename_i h;subst h;simp at hv;subst hv;rw[n3];exact .ptr _ _ _ (by simp[gt])
     ·split at hv
      ·rename_i h;subst h;simp at hv;subst hv;rw[n4];exact .ptr _ _ _ (by simp[gt])
      ·split at hv
       ·rename_i h;subst h;simp at hv;subst hv;rw[n5];exact .tsl _ _ _ _ _ _ (by simp[gt]) hcap hmax
       ·simp at hv
    obtain⟨id2,ops2,rfl,hops2⟩:=qlm hok2;obtain⟨p1,ps1,hl2,hp1,hps1⟩:=qlp hops2;obtain⟨p2,ps2,rfl,hp2,hps2⟩:=qlp hps1;obtain⟨p3,ps3,rfl,hp3,hps3⟩:=qlp hps2;have:=qHk hps3;subst this
    refine wp_seq (wp_region_list ?_);rw[hl2];refine qdR ?_;rw[if_pos (qdF hp1 rfl)];have k1:=hp1;have k2:=hp2;have k3:=hp3
    simp only[qeL,Bool.and_eq_true,beq_iff_eq]at k1 k2 k3;obtain⟨⟨⟨d1,l1⟩,k1⟩,_⟩:=k1;obtain⟨⟨⟨d2,l2⟩,k2⟩,_⟩:=k2;obtain⟨⟨⟨d3,l3⟩,k3⟩,_⟩:=k3;have x3:=qNF (P:=P) k1 a2 w1;rw[n5]at x3;have v3:AVR fid gt w1 (.tsl true 2 sz (xr.length+1)) (.slice (some ⟨b,0,none⟩) (xr.length+1) c):= .tsl _ _ _ _ _ _ (by simp[gt]) hcap hmax;generalize hu3:Value.slice (some ⟨b,0,none⟩) (xr.length+1) c=u3 at v3 x3;have reg1:=qbq (s:=⟨[(3,.ptr 0 0),(4,.ptr 1 0),(5,.tsl true 2 sz (xr.length+1))],[],Ids.none,0⟩) (dst:=p1.dst) hr0 v3 (fun d hd=>by rw[hd]at l1;rw[hsize];simpa using l1);unfold Oper.wp;rw[x3];show wpList P ops2 _ [p2,p3] (a2.put p1.dst u3) w1;rw[d1]at reg1⊢
    simp only[St.put]at reg1;refine qdR ?_;rw[if_pos (qdF hp2 rfl)];obtain⟨u4,x4,v4⟩:=qHt (P:=P) (fid:=fid) (w:=w1) (g:=gt) reg1 k2 (show evP _ (.fieldAddr 2 (.t 3))=some (.ptr 0 2)by simp[evP,VX.get,lk]);have reg2:=qbq (s:=⟨_,[],Ids.none,0⟩) (dst:=p2.dst) reg1 v4 (fun d hd=>by rw[hd]at l2;rw[qbH,hsize];simpa using l2);unfold Oper.wp;rw[x4];show wpList P ops2 _ [p3] ((a2.put (some 45) u3).put p2.dst u4) w1;rw[d2]at reg2⊢
    simp only[St.put]at reg2;refine qdR ?_;rw[if_pos (qdF hp3 rfl)];have hsz5:((a2.put (some 45) u3).put (some 46) u4).tmps.size=N:=by rw[qbH,qbH];exact hsize
    have hdf5:((a2.put (some 45) u3).put (some 46) u4).defers=a0.defers:=by rw[put_defers,put_defers];exact hdef
    have n45:((a2.put (some 45) u3).put (some 46) u4).tmps.getD 45 undef=u3:=by
     rw[qej,if_neg (by simp),qej,if_pos ⟨rfl,by rw[hsize];rw[d1]at l1;simpa using l1⟩]
    generalize (a2.put (some 45) u3).put (some 46) u4=a5 at reg2 hsz5 hdf5 n45⊢
    obtain⟨dst3,op3,ty3,pos3,aft3,gd3⟩:=p3;simp only at d3 k3;subst d3;cases op3 with
    |store tt xo yo=>
     simp only[qaM,Bool.and_eq_true,decide_eq_true_eq]at k3;obtain⟨⟨h1,h2⟩,h3⟩:=k3;obtain⟨blk,hbk,heq⟩:=qcp (qaq (w:=w1) (a:=a5) reg2 h2 (show VX.get _ (.t 46)=some (.ptr 0 2)by simp[VX.get,lk]));have hblk:blk=b3':=by simp[gt]at hbk;exact hbk.symm
     subst hblk;have hy5:a5.eval yo= .slice (some ⟨b,0,none⟩) (xr.length+1) c:=by rw[qJm h3 a5,n45,hu3]
     have hst5:=run_storeCells_at (P:=P) blk 2 e3' [.slice (some ⟨b,0,none⟩) (xr.length+1) c] 0 arr3 w1 hh3 (by simp;omega) (by simp[Value.oneCell']);have hrun5:(execOp a5.eval ⟨none,.store tt xo yo,ty3,pos3,aft3,gd3⟩).run P w1= .ok .skip (w1.setRow blk (splice arr3.toList 2 [.slice (some ⟨b,0,none⟩) (xr.length+1) c]).toArray):=by
      simp only[execOp,Instr.storeAt,heq,Instr.sureAddr,hy5,Sem.run_bind,Sem.run_pure,Result.andThen_ok,storeVar,qh8 h1];rw[if_neg (by simp[Value.cells]),show(Value.slice (some ⟨b,0,none⟩) (xr.length+1) c).cells.toList=[.slice (some ⟨b,0,none⟩) (xr.length+1) c]from rfl,hst5];simp[splice]
     unfold Oper.wp;rw[hrun5];generalize hw2:w1.setRow blk (splice arr3.toList 2 [.slice (some ⟨b,0,none⟩) (xr.length+1) c]).toArray=w2 at hcore3 hstep3⊢
     show(Code.seq rg3 Code.ret).wp P Q a5 w2;obtain⟨id3,ops3,rfl,hops3⟩:=qlm hok3;have hr6:qcK fid g3 w2 [(3,.ptr 0 0),(4,.ptr 1 0)] a5.tmps:=by
      have q3:=qcp (reg2 3 (.ptr 0 0) (by simp[lk]));have q4:=qcp (reg2 4 (.ptr 1 0) (by simp[lk]));obtain⟨c3,hc3,q3⟩:=q3;obtain⟨c4,hc4,q4⟩:=q4;simp[gt]at hc3 hc4;subst hc3;subst hc4
      intro t v hv;simp only[lk]at hv;split at hv
      ·rename_i h;subst h;simp at hv;subst hv;rw[q3];exact .ptr _ _ _ hg0
      ·split at hv
       ·rename_i h;subst h;simp at hv;subst hv;rw[q4];exact .ptr _ _ _ hg1
       ·simp at hv
     let s6:St:=⟨[(3,.ptr 0 0),(4,.ptr 1 0)],[some [.d y.1,.d y.2,.d (.sl (.own i sz) q.1)],some [.d z0,.d z1,.d z2]],Ids.add i A2,s.c+2⟩
     have R6:Reach fid p N g0 w0 s0 a0 g3 w2 s6 a5:=⟨hcore3,hbox3,by rw[hA0,hc0];exact hstep3,hr6,hsz5,hdf5,by rw[hc0];exact Nat.zero_le _⟩;have hfr6:=qbw R6.step R6.le hfr0';have hev:qaI call p 1 (.seq (.region false 0 [4] [⟨some 47,.load true 3 (.t 3),none,[]⟩,⟨none,.store false 3 (.t 4) (.t 47),none,[]⟩]) .ret) s6=some (.ret,⟨[(4,.ptr 1 0)],[some [.d y.1,.d y.2,.d (.sl (.own i sz) q.1)],some [.d y.1,.d y.2,.d (.sl (.own i sz) q.1)]],Ids.add i A2,s.c+4⟩):=by
      have k0':AV.isCell (.d y.1)=true:=kk0;have k1':AV.isCell (.d y.2)=true:=kk1;have k2':AV.isCell (.d (.sl (.own i sz) q.1))=true:=rfl;simp[s6,qaI,qcO,qcw,qcH,qa4,VX.get,lk,qae,qa6,ql2,qaC,qc0,qbI,splice,AV.cells,k0',k1',k2',AV.safe,St.put,keep]
     refine qf1 hcall hm (.seq (.region false 0 [4] [⟨some 47,.load true 3 (.t 3),none,[]⟩,⟨none,.store false 3 (.t 4) (.t 47),none,[]⟩]) .ret) rfl _ g3 w2 a5 s6 _ .ret (N:=N) (p:=p) (n:=1) (by simp[qaK,hops3]) hcore3 hr6 hsz5 hfr6 hev Q fun g7 w7 a7 R7=> ?_
     refine hQ g7 w7 a7 _ (R6.trans R7) ?_;simp[finish,qfD,qkw,lk,qae,qa6,ql2,qaC,e9]
    |_=>simp[qaM]at k3
  |_=>simp[qaM]at hokop2
 |_=>simp[qaM]at hokop2
end Go.Proofs.Ytfiakfiocdfpbaa.VS
namespace Go.Proofs.Ytfiakfiocdfpbaa.VS
variable {P:Program} {fid:Nat->FuncId}
theorem qIB(hm:P.follows .mixedOrders=true){k:Nat}{fn:Func}{R0 d1 d2 d3:VCode}{srt cmp:Nat}(hfn:P.funcs[fid k]?=some fn)(hok:qbt P fid fn (qza R0 d1 d2 d3 srt cmp)=true)(hpl:(R0.plain&&d1.plain&&d2.plain&&d3.plain)=true):qvi P fid k (qfq R0 d1 d2 d3 srt cmp):=by
 intro call n hcall;simp only[Bool.and_eq_true]at hpl;obtain⟨⟨⟨pl0,pl1⟩,pl2⟩,pl3⟩:=hpl;simp only[qbt,Bool.and_eq_true,decide_eq_true_eq,Bool.not_eq_true']at hok;obtain⟨⟨⟨hb,hrs⟩,hnp⟩,hname⟩:=hok;split at hb
 case h_2=>simp at hb
 rename_i c hbody;refine⟨⟨fn,hfn,hname,by simp[hbody]⟩,fun p args v A hd hv g0 w0 us hus hrel hcore hfr=> ?_⟩;obtain⟨ds,hds⟩:=Option.isSome_iff_exists.1 hd;simp only[hds,Option.bind_some]at hv;have hargs:=qbo hds;unfold qpg at hv;split at hv
 ·simp at hv
 rename_i hlen;obtain⟨⟨e,s⟩,h1,h2⟩:=Option.bind_eq_some_iff.1 hv;simp only at h2;have he:e= .normal:=by
  cases e with
  |normal=>rfl
  |exit id=>simp at h2
  |ret=>simp at h2
 subst he;obtain⟨x0,y0,rfl,o0,t0⟩:=qll hb;obtain⟨x1,y1,rfl,o1,t1⟩:=qll t0;obtain⟨x2,y2,rfl,o2,t2⟩:=qll t1;obtain⟨x3,y3,rfl,o3,t3⟩:=qll t2;obtain⟨x3a,x3b,rfl,o3a,o3b⟩:=qll o3;obtain⟨rg2,y4,rfl,o4,t4⟩:=qll t3;obtain⟨rg3,y5,rfl,o5,t5⟩:=qll t4;have hret:y5= .ret:=by cases y5<;>simp[qaK]at t5⊢
 subst hret;obtain⟨s1,e1,h1⟩:=qix h1;obtain⟨s2,e2,h1⟩:=qix h1;obtain⟨s3,e3,e4⟩:=qix h1;refine calls_of_wp hfn hbody ?_;have hregs:qcK fid g0 w0 (qak 0 (ds.map .d)) (us++Array.replicate (fn.ntmps-us.size) undef):=by
  intro t v hv;obtain⟨_,h3⟩:=qip _ 0 t v hv;rw[<-hargs]at h3;simp only[Nat.sub_zero]at h3;have hlt:t<us.size:=by rw[hus];exact(List.getElem?_eq_some_iff.1 h3).1
  have:(us++Array.replicate (fn.ntmps-us.size) undef).getD t undef=us[t]:=by
   simp[Array.getD_eq_getD_getElem?,Array.getElem?_append_left hlt,hlt]
  rw[this];exact hrel t v _ h3 (by simp[hlt])
 have hsz:(us++Array.replicate (fn.ntmps-us.size) undef).size=fn.ntmps:=by
  have h5:us.size=2:=by rw[hus,hargs,List.length_map];simpa[qfq]using hlen
  simp[qza]at hnp;simp;omega
 refine wp_seq (qf1 hcall hm R0 pl0 x0 g0 w0 _ ⟨qak 0 (ds.map .d),[],Ids.none,0⟩ s1 .normal o0 hcore hregs hsz hfr e1 _ fun g1 w1 a1 R1=> ?_);show(Code.seq x1 _).wp P _ a1 w1;refine wp_seq (qf1 hcall hm d1 pl1 x1 g1 w1 _ s1 s2 .normal o1 R1.core R1.regs R1.size (qbw R1.step R1.le hfr) e2 _ fun g2 w2 a2 R2=> ?_);show(Code.seq x2 _).wp P _ a2 w2;have R12:=R1.trans R2;refine wp_seq (qf1 hcall hm d2 pl2 x2 g2 w2 _ s2 s3 .normal o2 R12.core R12.regs R12.size (qbw R12.step R12.le hfr) e3 _ fun g3 w3 a3 R3=> ?_);show(Code.seq _ _).wp P _ a3 w3;have R13:=R12.trans R3;refine wp_seq (wp_seq (qf1 hcall hm d3 pl3 x3a g3 w3 _ s3 s .normal o3a R13.core R13.regs R13.size (qbw R13.step R13.le hfr) e4 _ fun g4 w4 a4 R4=> ?_));have R:=R13.trans R4;have fin:=fun(e:Ex) (s':St) (g':Gh) (w':World) (a':Act) (R':Reach fid p fn.ntmps g0 w0 ⟨qak 0 (ds.map .d),[],Ids.none,0⟩ ⟨us++Array.replicate (fn.ntmps-us.size) undef,[]⟩ g' w' s' a')=>qEi (v:=v) (A:=A) (e:=e) rfl rfl rfl hcore hfr hrs R'
 show x3b.wp P (Exit.then ((Code.seq rg2 (Code.seq rg3 Code.ret)).wp P (bodyPost P fn _)) (bodyPost P fn _)) a4 w4;have slow:(qaI call p n (qfq R0 d1 d2 d3 srt cmp).rest s).bind (fun r2=>match r2.1 with| .exit _=>none|_=>(finish 0 p r2.2 (qfq R0 d1 d2 d3 srt cmp).results).bind fun q=>match q.v with| .d v=>some (v,q.A)|_=>none)=some (v,A)->
  x3b.wp P (Exit.then ((Code.seq rg2 (Code.seq rg3 Code.ret)).wp P (bodyPost P fn (fun e w'=>∃u g',e= .returned u/\Post fid (from_ p 0) g0 w0 Ids.none ⟨.d v,A,[]⟩ u g' w'))) (bodyPost P fn (fun e w'=>∃u g',e= .returned u/\Post fid (from_ p 0) g0 w0 Ids.none ⟨.d v,A,[]⟩ u g' w'))) a4 w4:=by
  intro h;obtain⟨⟨e5,s5⟩,h5,h6⟩:=Option.bind_eq_some_iff.1 h;simp only[qfq,qaI]at h5;obtain⟨⟨ec,sc⟩,h7,h8⟩:=Option.bind_eq_some_iff.1 h5;refine qf1 hcall hm (.cond (.t 42) (.region false 0 [3,4,5] [⟨some 43,.move (.t 5),none,[]⟩,⟨some 44,.call false (.c (.fn srt [])) [.t 43,.c (.fn cmp [])],none,[]⟩]) .skip) rfl x3b g4 w4 _ s sc ec (n:=n) o3b R.core R.regs R.size (qbw R.step R.le hfr) (by simpa only[qaI]using h7) _ fun g5 w5 a5 R5=> ?_
  have R':=R.trans R5;cases ec with
  |exit id=>
   simp only[Option.some.injEq,Prod.mk.injEq]at h8;obtain⟨rfl,rfl⟩:=h8;simp at h6
  |ret=>
   simp only[Option.some.injEq,Prod.mk.injEq]at h8;obtain⟨rfl,rfl⟩:=h8;exact fin .ret sc g5 w5 a5 R' h6
  |normal=>
   show(Code.seq rg2 (Code.seq rg3 Code.ret)).wp P _ a5 w5;refine qf1 hcall hm (.seq (.region false 0 [3,4] [⟨some 45,.move (.t 5),none,[]⟩,⟨some 46,.fieldAddr 2 (.t 3),none,[]⟩,⟨none,.store false 1 (.t 46) (.t 45),none,[]⟩])
    (.seq (.region false 0 [4] [⟨some 47,.load true 3 (.t 3),none,[]⟩,⟨none,.store false 3 (.t 4) (.t 47),none,[]⟩]) .ret)) rfl _ g5 w5 _ sc s5 e5 (n:=n) (by simp only[qaK,o4,o5,Bool.and_self]) R'.core R'.regs R'.size (qbw R'.step R'.le hfr) (by simpa only[qaI]using h8) _ fun g6 w6 a6 R6=> ?_
   exact fin e5 s5 g6 w6 a6 (R'.trans R6) h6
 split at h2
 ·rename_i i sz x xr q1 q2
  obtain⟨y,h3,h4⟩:=Option.bind_eq_some_iff.1 h2;obtain⟨q,h5,h6⟩:=Option.map_eq_some_iff.1 h4;simp only[Prod.mk.injEq]at h6;obtain⟨rfl,rfl⟩:=h6;refine qIC hcall hm o3b o4 o5 rfl rfl rfl hcore hfr R q1 q2 h3 h5 _ fun g' w' a' s' R' hf=> ?_
  exact fin .ret s' g' w' a' R' (by show(finish 0 p s' [.cell 4 true 3]).bind _=_;rw[hf];rfl)
 ·exact slow h2
 ·exact slow h2
 ·simp at h2
end Go.Proofs.Ytfiakfiocdfpbaa.VS
namespace Go.Proofs.Ytfiakfiocdfpbaa.VS
open Go.WideShapes
def start(w:World)(M:Nat):Gh:=⟨fun b=>if b<w.heap.size then M else 0,fun _=>none,fun _=>none⟩
theorem qvz{fid:Nat->FuncId}(w:World)(M:Nat):Core fid (start w M) w [] Ids.none:=
 ⟨fun i b h=>by simp[start]at h,fun i j b h=>by simp[start]at h,fun a h=>by simp[Ids.none]at h,fun a a' b x x' h=>by simp[Ids.none]at h,fun b hb=>by simp[start];omega⟩
theorem qrP(w:World)(M:Nat)(p:Id):qgZ (start w M) p 0:=fun _ _ _=>rfl
theorem qwp{fid:Nat->FuncId}{N:Id->Prop}{w w':World}{M:Nat}{r:Res}{u:Value}{g':Gh}(h:Post fid N (start w M) w Ids.none r u g' w'):RowKit.Below w.heap.size w w':=
 ⟨h.step.os,h.step.tape,h.step.output,h.step.size,fun b hb=>(h.step.keep b hb (fun i h=>by simp[start]at h) (fun a h=>by simp[Ids.none]at h)).1⟩
variable {P:Program}
def qb3(P:Program)(t:TypeId)(cs:List DV):DV:=
 match P.underlying t with
 |some (.struct _)=> .agg cs
 |_=>cs.headD (.bool false)
inductive Shape(P:Program):TypeId->List DV->Prop where
 |int {t:TypeId} {k:IntKind} {n:Int}:P.underlying t=some (.int k)->(Lit.int k n).wf=true->Shape P t [.int k n]
 |bool {t:TypeId} {b:Bool}:P.underlying t=some .bool->Shape P t [.bool b]
 |str {t:TypeId} {s:ByteArray}:P.underlying t=some .string->s.size<=maxLen->Shape P t [.str s]
 |nil {t e:TypeId}:P.underlying t=some (.slice e)->Shape P t [.sl .nil []]
 |row {t e:TypeId} {xs:List DV}:P.underlying t=some (.slice e)->xs.length<=maxLen->(∀x:DV,x∈xs->x=qb3 P e x.cells)->(∀x:DV,x∈xs->Shape P e x.cells)->Shape P t [.sl .sub xs]
 |struct {t:TypeId} {fs:Array Field} {cs:List DV}:P.underlying t=some (.struct fs)->cs.length=P.cellsOf t->(∀f:Field,f∈fs.toList->Shape P f.type ((cs.drop f.offset).take (P.cellsOf f.type)))->Shape P t cs
def layout(P:Program):List Field->Nat->Nat->Bool
 | [],o,n=>o==n
 |f::r,o,n=>f.offset==o&&layout P r (o+P.cellsOf f.type) n
def okT(P:Program)(S:List TypeId)(t:TypeId):Bool:=
 match P.underlying t with
 |some (.int _)|some .bool|some .string=>P.cellsOf t==1
 |some (.slice e)=>S.contains e&&P.cellsOf t==1
 |some (.struct fs)=>fs.toList.all (fun f=>S.contains f.type)&&layout P fs.toList 0 (P.cellsOf t)
 |_=>false
def VRs(w:World)(M0:Nat)(ds:List DV)(cs:List Value):Prop:=
 ds.length=cs.length/\(∀v:DV,v∈ds->v.isCell=true)/\∀M,M0<=M->∀(j:Nat) (v:DV) (u:Value),ds[j]?=some v->cs[j]?=some u->VR (start w M) w v u
theorem VRs.one{w:World}{M0:Nat}{v:DV}{u:Value}(hc:v.isCell=true)(h:∀M,M0<=M->VR (start w M) w v u):VRs w M0 [v] [u]:=
 ⟨rfl,fun x hx=>by simp at hx;subst hx;exact hc,fun M hM j x y h1 h2=>by
  cases j with
  |zero=>simp at h1 h2;subst h1;subst h2;exact h M hM
  |succ j=>simp at h1⟩
theorem bound(f:Nat->Nat):∀n,∃M,∀i,i<n->f i<=M
 |0=>⟨0,fun i h=>by omega⟩
 |n+1=>by
  obtain⟨M,h⟩:=bound f n;refine⟨max M (f n),fun i hi=> ?_⟩;rcases Nat.lt_or_ge i n with h1|h1
  ·exact Nat.le_trans (h i h1) (Nat.le_max_left _ _)
  ·have:i=n:=by omega
   subst this;exact Nat.le_max_right _ _
theorem fields{w:World}{cs:List Value}{n:Nat}:∀(l:List Field) (o:Nat),layout P l o n=true->
 (∀f:Field,f∈l->∃(dsf:List DV) (M0:Nat),dsf.length=P.cellsOf f.type/\Shape P f.type dsf/\VRs w M0 dsf ((cs.drop f.offset).take (P.cellsOf f.type)))->
 ∃(ds:List DV) (M0:Nat),o<=n/\ds.length=n-o/\(∀f:Field,f∈l->o<=f.offset/\Shape P f.type ((ds.drop (f.offset-o)).take (P.cellsOf f.type)))/\VRs w M0 ds ((cs.drop o).take (n-o))
 | [],o,hl,_=>by
  simp[layout]at hl;subst hl
  exact⟨[],0,Nat.le_refl _,by simp,fun f hf=>by simp at hf,by simp,fun v hv=>by simp at hv,fun M _ j v u h=>by simp at h⟩
 |f::r,o,hl,h=>by
  simp[layout]at hl;obtain⟨hof,hl⟩:=hl;obtain⟨dsf,M1,h1,h2,h3⟩:=h f (by simp);obtain⟨ds,M2,h4,h5,h6,h7⟩:=fields r _ hl fun f' hf'=>h f' (by simp[hf'])
  refine⟨dsf++ds,max M1 M2,by omega,by simp;omega,fun f' hf'=> ?_,?_,?_,?_⟩
  ·rcases List.mem_cons.1 hf' with rfl|hf'
   ·refine⟨by omega,?_⟩
    rw[hof,Nat.sub_self,List.drop_zero,<-h1,List.take_append_of_le_length (Nat.le_refl _),List.take_length];exact h2
   ·obtain⟨h8,h9⟩:=h6 f' hf'
    refine⟨by omega,?_⟩;have:(dsf++ds).drop (f'.offset-o)=ds.drop (f'.offset-(o+P.cellsOf f.type)):=by
     rw[show f'.offset-o=dsf.length+(f'.offset-(o+P.cellsOf f.type))by omega,List.drop_append];simp
    rw[this];exact h9
  ·have q1:=h3.1
   have q2:=h7.1;simp at q1 q2⊢
   omega
  ·intro v hv
   rcases List.mem_append.1 hv with hv|hv
   ·exact h3.2.1 v hv
   ·exact h7.2.1 v hv
  ·intro M hM j v u hj hu
   have hM1:M1<=M:=Nat.le_trans (Nat.le_max_left _ _) hM;have hM2:M2<=M:=Nat.le_trans (Nat.le_max_right _ _) hM;rcases Nat.lt_or_ge j dsf.length with hlt|hge
   ·rw[List.getElem?_append_left hlt]at hj
    refine h3.2.2 M hM1 j v u hj ?_;rw[List.getElem?_take]at hu⊢
    rw[hof];split at hu
    ·rw[if_pos (by omega)];exact hu
    ·simp at hu
   ·rw[List.getElem?_append_right hge]at hj
    refine h7.2.2 M hM2 (j-dsf.length) v u hj ?_;rw[List.getElem?_take]at hu⊢
    split at hu
    ·rw[if_pos (by omega),List.getElem?_drop]
     rw[List.getElem?_drop]at hu;rw[show o+P.cellsOf f.type+(j-dsf.length)=o+j by omega];exact hu
    ·simp at hu
theorem qxd{w:World}{base:Nat}{a:Addr}{n:Nat}{cs:List Value}(h:w.cells? base a n=some cs):cs.length=n/\∀j,j<n->w.cell? (a.add j)=cs[j]?:=by
 unfold World.cells? at h;split at h
 ·have hl:=mapM_some_length h
  simp at hl;refine⟨hl,fun j hj=> ?_⟩;have:=mapM_some_get h j j (by simp[hj]);exact this
 ·simp at h
theorem qwS{t:TypeId}{ds:List DV}(hs:Shape P t ds)(hc:∀v:DV,v∈ds->v.isCell=true):(qb3 P t ds).cells=ds:=by
 cases hs with
 |struct hu hl hf=>simp[qb3,hu,DV.cells]
 |int hu hw=>simp[qb3,hu,DV.cells]
 |bool hu=>simp[qb3,hu,DV.cells]
 |str hu hw=>simp[qb3,hu,DV.cells]
 |nil hu=>simp[qb3,hu,DV.cells]
 |row hu _ _ _=>simp[qb3,hu,DV.cells]
theorem qCv{H:Type}{enc:TypeId×Value->H}{w:World}{sp:Nat->Bool}{held:Bool}{S:List TypeId}(hS:∀t,t∈S->okT P S t=true):
 ∀(fuel:Nat) (t:TypeId) (cs:List Value) (x:DataW H×List MemPlace),t∈S->DataW.trod enc P w 0 sp held fuel t cs=some x->
  ∃(ds:List DV) (M0:Nat),ds.length=P.cellsOf t/\Shape P t ds/\VRs w M0 ds cs
 |0,t,cs,x,_,h=>by simp[DataW.trod]at h
 |fuel+1,t,cs,x,ht,h=>by
  have hok:=hS t ht;unfold okT at hok;split at hok
  ·rename_i k hu
   obtain⟨n,rfl,_,hw⟩:=DataW.trod_int hu h;simp at hok;exact⟨[.int k n],0,by simp[hok],.int hu hw,.one rfl fun _ _=> .int k n⟩
  ·rename_i hu
   obtain⟨b,rfl,_⟩:=DataW.trod_bool hu h;simp at hok;exact⟨[.bool b],0,by simp[hok],.bool hu,.one rfl fun _ _=> .bool b⟩
  ·rename_i hu
   obtain⟨s,rfl,_,hw⟩:=DataW.trod_string hu h;simp at hok;exact⟨[.str s],0,by simp[hok],.str hu hw,.one rfl fun _ _=> .str s⟩
  ·rename_i e hu
   simp at hok;obtain⟨he,h1⟩:=hok;rcases DataW.trod_slice hu h with⟨rfl,_⟩|⟨a,len,cap,elems,rest,n,hn,rfl,_,_,hl,hm,hlen,hel,_,_⟩
   ·exact⟨[.sl .nil []],0,by simp[h1],.nil hu,.one rfl fun _ _=> .nil⟩
   ·obtain rfl:fuel=n:=by omega
    have hone:∀i,i<len->∃(ds:List DV) (M0:Nat) (ucs:List Value),ds.length=P.cellsOf e/\Shape P e ds/\VRs w M0 ds ucs/\∀j,j<P.cellsOf e->w.cell? ((a.add (i*P.cellsOf e)).add j)=ucs[j]?:=by
     intro i hi;have h2:=hel i hi;have h3:elems[i]?=some elems[i]:=by simp[hlen,hi]
     rw[h3]at h2;obtain⟨ucs,h4,h5⟩:=Option.bind_eq_some_iff.1 h2;obtain⟨h6,h7⟩:=qxd h4;obtain⟨ds,M0,q1,q2,q3⟩:=qCv hS fuel e ucs _ he h5;exact⟨ds,M0,ucs,q1,q2,q3,h7⟩
    have:∃(D:Nat->List DV) (Mf:Nat->Nat) (Uf:Nat->List Value),∀i,i<len->(D i).length=P.cellsOf e/\Shape P e (D i)/\VRs w (Mf i) (D i) (Uf i)/\∀j,j<P.cellsOf e->w.cell? ((a.add (i*P.cellsOf e)).add j)=(Uf i)[j]?:=by
     refine⟨fun i=>if hi:i<len then(hone i hi).choose else [],fun i=>if hi:i<len then(hone i hi).choose_spec.choose else 0,fun i=>if hi:i<len then(hone i hi).choose_spec.choose_spec.choose else [],fun i hi=> ?_⟩;simp only[hi,dite_true];exact(hone i hi).choose_spec.choose_spec.choose_spec
    obtain⟨D,Mf,Uf,hD⟩:=this;obtain⟨M1,hM1⟩:=bound Mf len;have hcellD:∀i,i<len->(qb3 P e (D i)).cells=D i:=fun i hi=>qwS (hD i hi).2.1 (hD i hi).2.2.1.2.1
    have hsp0:0<len*P.cellsOf e->a.spot=none:=by
     intro hk;have hs0:0<P.cellsOf e:=by
      rcases Nat.eq_zero_or_pos (P.cellsOf e)with h0|h0
      ·rw[h0]at hk;simp at hk
      ·exact h0
     have hl0:0<len:=by
      rcases Nat.eq_zero_or_pos len with h0|h0
      ·rw[h0]at hk;simp at hk
      ·exact h0
     obtain⟨d1,d2,d3,d4⟩:=hD 0 hl0;have d5:=d4 0 hs0;have hul:(Uf 0).length=P.cellsOf e:=by rw[<-d3.1];exact d1
     rw[List.getElem?_eq_getElem (by omega)]at d5;have e1:(a.add (0*P.cellsOf e)).add 0=a:=by simp[Addr.add]
     rw[e1]at d5;unfold World.cell? at d5;split at d5
     ·split at d5
      ·simp at d5
      ·rename_i hh;simpa using hh
     ·simp at d5
    have hspot:∀k,k<len*P.cellsOf e->a.spot=none/\∃u,w.cell? (a.add k)=some u/\(Uf (k/P.cellsOf e))[k%P.cellsOf e]?=some u:=by
     intro k hk;have hs0:0<P.cellsOf e:=by
      rcases Nat.eq_zero_or_pos (P.cellsOf e)with h0|h0
      ·rw[h0]at hk;simp at hk
      ·exact h0
     have hi:k/P.cellsOf e<len:=Nat.div_lt_of_lt_mul (by rw[Nat.mul_comm];exact hk);have hj:k%P.cellsOf e<P.cellsOf e:=Nat.mod_lt _ hs0;obtain⟨d1,d2,d3,d4⟩:=hD _ hi;have d5:=d4 _ hj;have hul:(Uf (k/P.cellsOf e)).length=P.cellsOf e:=by rw[<-d3.1];exact d1
     rw[List.getElem?_eq_getElem (by omega)]at d5;have hsp:a.spot=none:=hsp0 (by omega);rw[add_add _ _ _ hsp,Nat.mul_comm,Nat.div_add_mod]at d5;exact⟨hsp,_,d5,by rw[List.getElem?_eq_getElem (by omega)]⟩
    refine⟨[.sl .sub ((List.range len).map fun i=>qb3 P e (D i))],max M1 (a.off+len*P.cellsOf e),by simp[h1],?_,.one rfl fun M hM=> ?_⟩
    ·refine .row hu (by simp;omega) (fun x hx=> ?_) (fun x hx=> ?_)
     ·simp only[List.mem_map,List.mem_range]at hx
      obtain⟨i,hi,rfl⟩:=hx;rw[hcellD i hi]
     ·simp only[List.mem_map,List.mem_range]at hx
      obtain⟨i,hi,rfl⟩:=hx;rw[hcellD i hi];exact(hD i hi).2.1
    ·have key:VR (start w M) w (.sl .sub ((List.range len).map fun i=>qb3 P e (D i))) (.slice (some a) ((List.range len).map fun i=>qb3 P e (D i)).length cap):=by
      refine .row .sub _ a cap (P.cellsOf e) (fun k=>(w.cell? (a.add k)).getD undef) (by simp) (by simpa using hl) hm (fun k hk=> ?_) ?_ (fun i x hx=> ?_) (fun i x j v hx hj=> ?_) (by simp)
      ·simp at hk
       obtain⟨_,u,h2,_⟩:=hspot k hk;rw[h2];rfl
      ·simp only[List.length_map,List.length_range]
       rcases Nat.eq_zero_or_pos (len*P.cellsOf e)with h0|h0
       ·exact .inl h0
       ·right
        obtain⟨hsp,u,h2,_⟩:=hspot 0 h0;have hb:a.block<w.heap.size:=by
         unfold World.cell? at h2;rw[add_block]at h2;split at h2
         ·rename_i hh
          exact(Array.getElem?_eq_some_iff.1 hh).1
         ·simp at h2
        simp only[start,hb,if_true];exact Nat.le_trans (Nat.le_max_right _ _) hM
      ·simp only[List.getElem?_map]at hx
       obtain⟨i',h2,rfl⟩:=Option.map_eq_some_iff.1 hx;have hi:i<len:=by have:=(List.getElem?_eq_some_iff.1 h2).1;simpa using this
       have:i'=i:=by have:=(List.getElem?_eq_some_iff.1 h2).2;simp at this;omega
       subst this;rw[hcellD _ hi];exact⟨(hD _ hi).1,(hD _ hi).2.2.1.2.1⟩
      ·simp only[List.getElem?_map]at hx
       obtain⟨i',h2,rfl⟩:=Option.map_eq_some_iff.1 hx;have hi:i<len:=by have:=(List.getElem?_eq_some_iff.1 h2).1;simpa using this
       have:i'=i:=by have:=(List.getElem?_eq_some_iff.1 h2).2;simp at this;omega
       subst this;rw[hcellD _ hi]at hj;obtain⟨d1,d2,d3,d4⟩:=hD _ hi;have hj':j<P.cellsOf e:=by rw[<-d1];exact(List.getElem?_eq_some_iff.1 hj).1
       have hk:i'*P.cellsOf e+j<len*P.cellsOf e:=by
        have:=Nat.mul_le_mul_right (P.cellsOf e) (show i'+1<=len by omega);rw[Nat.add_mul]at this;omega
       obtain⟨hsp,u,h3,h4⟩:=hspot _ hk;rw[h3];have e1:(i'*P.cellsOf e+j)/P.cellsOf e=i':=by
        rw[Nat.mul_comm,Nat.mul_add_div (by omega),Nat.div_eq_of_lt hj'];rfl
       have e2:(i'*P.cellsOf e+j)%P.cellsOf e=j:=by
        rw[Nat.mul_comm,Nat.mul_add_mod,Nat.mod_eq_of_lt hj']
       rw[e1,e2]at h4;exact d3.2.2 M (Nat.le_trans (hM1 _ hi) (Nat.le_trans (Nat.le_max_left _ _) hM)) j v u hj h4
     simpa using key
  ·rename_i fs hu
   simp only[Bool.and_eq_true,List.all_eq_true]at hok;obtain⟨h1,h2⟩:=hok;obtain⟨xs,n,hn,_,hl,hxl,hx⟩:=DataW.trod_struct hu h;obtain rfl:fuel=n:=by omega
   obtain⟨ds,M0,_,q1,q2,q3⟩:=fields (w:=w) (cs:=cs) fs.toList 0 h2 fun f hf=>by
    obtain⟨i,hi⟩:=Array.mem_iff_getElem?.1 (Array.mem_toList_iff.1 hf);have h4:=hx i f hi;have h5:i<xs.length:=by rw[hxl];exact(Array.getElem?_eq_some_iff.1 hi).1
    rw[List.getElem?_eq_getElem h5]at h4;obtain⟨dsf,M0,r1,r2,r3⟩:=qCv hS fuel f.type _ _ (by simpa using h1 f hf) h4;exact⟨dsf,M0,r1,r2,r3⟩
   refine⟨ds,M0,by simpa using q1,.struct hu (by simpa using q1) (fun f hf=>by simpa using (q2 f hf).2),?_⟩;rw[List.drop_zero,Nat.sub_zero,<-hl,List.take_length]at q3;exact q3
  ·simp at hok
theorem qxq{H:Type}{enc:TypeId×Value->H}{w:World}{sp:Nat->Bool}{held:Bool}{S:List TypeId}(hS:S.all (okT P S)=true){t:TypeId}{v:Value}{d:DataW H}{ps:List MemPlace}(ht:S.contains t=true)
 {r:Go.Reach} {b0:Nat} (hval:Value.okWide P w r b0 t v) (h:DataW.Trod enc P w 0 sp held t v d ps):
 ∃(ds:List DV) (M0:Nat),ds.length=P.cellsOf t/\Shape P t ds/\∀M,M0<=M->VR (start w M) w (qb3 P t ds) v:=by
 obtain⟨fuel,h⟩:=h;have hS':∀t,t∈S->okT P S t=true:=fun t ht=>List.all_eq_true.1 hS t ht
 have ht':t∈S:=by simpa using ht
 obtain⟨ds,M0,h1,h2,h3⟩:=qCv hS' fuel t _ _ ht' h;refine⟨ds,M0,h1,h2,fun M hM=> ?_⟩;have hok:=hS' t ht';have one:∀(x:DV),v.cells= #[v]->ds=[x]->VR (start w M) w x v:=by
  intro x h4 h5;subst h5;exact h3.2.2 M hM 0 x v rfl (by rw[h4];rfl)
 unfold okT at hok;split at hok
 ·rename_i k hu
  obtain⟨n,rfl⟩:=okWide_int hu hval;simp at hok;obtain⟨x,rfl⟩:=List.length_eq_one_iff.1 (h1.trans hok);simpa[qb3,hu]using one x rfl rfl
 ·rename_i hu
  obtain⟨n,rfl⟩:=okWide_bool hu hval;simp at hok;obtain⟨x,rfl⟩:=List.length_eq_one_iff.1 (h1.trans hok);simpa[qb3,hu]using one x rfl rfl
 ·rename_i hu
  obtain⟨n,rfl⟩:=okWide_string hu hval;simp at hok;obtain⟨x,rfl⟩:=List.length_eq_one_iff.1 (h1.trans hok);simpa[qb3,hu]using one x rfl rfl
 ·rename_i e hu
  obtain⟨a,len,cap,rfl⟩:=okWide_slice hu hval;simp at hok;obtain⟨x,rfl⟩:=List.length_eq_one_iff.1 (h1.trans hok.2);simpa[qb3,hu]using one x rfl rfl
 ·rename_i fs hu
  simp only[Value.okWide,hu]at hval;obtain⟨cs,rfl,h4,_⟩:=hval;simp only[qb3,hu];refine .agg ds cs (by rw[h4,h1]) h3.2.1 fun j x u hj hu'=>h3.2.2 M hM j x u hj ?_
  simpa[Value.cells]using hu'
 ·simp at hok
end Go.Proofs.Ytfiakfiocdfpbaa.VS
namespace Go.Proofs.Ytfiakfiocdfpbaa.VS
open Go.ChangeShapes Go.WideShapes Go.ChangeAt Go.RowKit
def qLa(P:Program):List TypeId->List (List DV)->Prop
 | [],[]=>True
 |t::ts,x::xs=>(x.length=P.cellsOf t/\Shape P t x)/\qLa P ts xs
 |_,_=>False
def qgJ(P:Program):List TypeId->List (List DV)->List AV
 |t::ts,x::xs=> .d (qb3 P t x)::qgJ P ts xs
 |_,_=>[]
variable {P:Program} {fid:Nat->FuncId}
theorem qnm:∀{ts:List TypeId} {xs:List (List DV)},qLa P ts xs->(qgJ P ts xs).length=ts.length
 | [],[],_=>rfl
 |t::ts,x::xs,h=>by simp[qgJ,qnm h.2]
 | [],_::_,h=>h.elim
 |_::_,[],h=>h.elim
theorem qma{H:Type}{enc:TypeId×Value->H}{w:World}{sp:Nat->Bool}{held:Bool}{S:List TypeId}(hS:S.all (okT P S)=true){r:Go.Reach}{b0:Nat}:
 ∀(ts:List TypeId) (vs:List Value) (ds:List (DataW H)) (ps:List MemPlace),ts.all (S.contains ·)=true->DataW.TrodAll enc P w 0 sp held ts vs ds ps->(∀(j:Nat) t v,ts[j]?=some t->vs[j]?=some v->Value.okWide P w r b0 t v)->
  ∃(xs:List (List DV)) (M0:Nat),qLa P ts xs/\vs.length=ts.length/\ds.length=ts.length/\∀M,M0<=M->∀(j:Nat) (v:AV) (u:Value),(qgJ P ts xs)[j]?=some v->vs[j]?=some u->AVR fid (start w M) w v u
 | [],[],[],ps,_,_,_=>⟨[],0,trivial,rfl,rfl,fun M _ j v u h=>by simp[qgJ]at h⟩
 |t::ts,v::vs,d::ds,ps,hts,h,hv=>by
  obtain⟨p,q,h1,h2,rfl⟩:=h;simp only[List.all_cons,Bool.and_eq_true]at hts;obtain⟨x,M1,x1,x2,x3⟩:=qxq hS hts.1 (hv 0 t v rfl rfl) h1;obtain⟨xs,M2,y1,y2,y3,y4⟩:=qma hS ts vs ds q hts.2 h2 fun j t v h3 h4=>hv (j+1) t v h3 h4
  refine⟨x::xs,max M1 M2,⟨⟨x1,x2⟩,y1⟩,by simp[y2],by simp[y3],fun M hM j a u ha hu=> ?_⟩;cases j with
  |zero=>
   simp[qgJ]at ha hu;subst ha;subst hu
   exact .d _ _ (x3 M (Nat.le_trans (Nat.le_max_left _ _) hM))
  |succ j=>
   simp[qgJ]at ha hu;exact y4 M (Nat.le_trans (Nat.le_max_right _ _) hM) j a u ha hu
 | [],_::_,_,_,_,h,_=>h.elim
 | [],[],_::_,_,_,h,_=>h.elim
 |_::_,[],_,_,_,h,_=>h.elim
 |_::_,_::_,[],_,_,h,_=>h.elim
theorem qmb{H:Type}{enc:TypeId×Value->H}(hl:laidOutB P=true){W W':World}(hb:Below W.heap.size W W'):
 ∀(ts:List TypeId) (vs:List Value) (ds:List (DataW H)) (ps:List MemPlace),ts.all (fun t=>P.readableRec t&&decide (t<P.types.size))=true->DataW.TrodAll enc P W 0 (fun _=>true) true ts vs ds ps->
  DataW.TrodAll enc P W' 0 (fun b=>decide (b<W.heap.size)) true ts vs ds ps
 | [],[],[],ps,_,h=>h
 |t::ts,v::vs,d::ds,ps,hts,h=>by
  have hlt:=DataW.TrodAll.lt h;obtain⟨p,q,h1,h2,rfl⟩:=h;simp only[List.all_cons,Bool.and_eq_true,decide_eq_true_eq]at hts;exact⟨p,q,Below.trod hl hts.1.1 hts.1.2 h1 hb fun x hx=>hlt x (List.mem_append_left _ hx),qmb hl hb ts vs ds q hts.2 h2,rfl⟩
 | [],_::_,_,_,_,h=>h.elim
 | [],[],_::_,_,_,h=>h.elim
 |_::_,[],_,_,_,h=>h.elim
 |_::_,_::_,[],_,_,h=>h.elim
theorem qwB{H:Type}{enc:TypeId×Value->H}{C:Checked}{os:Os}{f k:Nat}{fn:Func}{s:ChangeSpec}{conds:List PathCond}{E:Env}{S:List TypeId}{tb:TypeId}
 (hE:EnvOK C.prog fid E) (own:ownKnob C.prog.godebug=none) (started:os.Started) (hlaid:laidOutB C.prog=true) (hk:fid k=f) (noInit:C.prog.inits.idxOf? f=none) (hfn:C.prog.funcs[f]?=some fn)
 (hvars:s.vars=[]) (hS:S.all (okT C.prog S)=true) (hps:fn.params.toList.all (S.contains ·)=true) (hps2:fn.params.toList.all (fun t=>C.prog.readableRec t&&decide (t<C.prog.types.size))=true)
 (hres:fn.resultTypes= #[tb]) (hb:C.prog.underlying tb=some .bool) (hspec:∀ds:List (DataW H),ds.length=fn.params.size->s.fn H ds={results:=[.lit (.bool true)],args:=ds})
 (witness:∃(w:World) (tape:Tape) (i:Input),w.os=os/\(w.forCall tape i).Shaped C.prog/\i.vars=[]/\Input.okWide C.prog (w.forCall tape i) .any w.heap.size f i/\
  s.pre6 enc C.prog fn conds false (w.forCall tape i).memory i.args/\({}:Assume).holds C.prog (lone (Frame.enter C.prog f i.args .normal) [] (w.forCall tape i)))
 (plain:∀xs:List (List DV),qLa C.prog fn.params.toList xs->∃A B,qxn E [] k (qgJ C.prog fn.params.toList xs) [] Ids.none=some ⟨.d (.bool true),A,B⟩):
 ReturnsInHanded {} C os f .any (s.pre6 enc C.prog fn conds false) (s.post enc C.prog fn false true false false):=by
 refine returnsInHanded_of_change_sized own started noInit hfn witness ?_;intro W base args ds gs before hval hW hcnd hsz _;have hW':=hW;obtain⟨p,q,hA,hV,rfl,hfz,hnd⟩:=hW;rw[hvars]at hV;obtain⟨rfl,rfl⟩:=trodVars_none hV;obtain⟨xs,M,a1,a2,a3,a4⟩:=qma (fid:=fid) hS fn.params.toList args.toList ds p hps hA (fun j t v h1 h2=>hval j t v (by simpa using h1) (by simpa using h2));obtain⟨A,B,key⟩:=plain xs a1;obtain⟨_,hc⟩:=qFF hE _ _ _ _ _ _ key;rw[hk]at hc;refine(hc (start W M) W args (by rw[qnm a1];simpa using a2) (fun j v u h1 h2=>a4 M (Nat.le_refl _) j v u h1 (by simpa using h2)) (qvz W M) (qrP W M [])).mono fun e W' ⟨u,g',he,hp⟩=> ?_
 have hu:u= .bool true:=qdo hp.val;have bel:=qwp hp;subst he;subst hu
 have hds:s.fn H (ds++[])={results:=[.lit (.bool true)],args:=ds}:=by
  rw[List.append_nil];exact hspec ds (by simpa using a3)
 refine⟨_,rfl,ds,[],_,[],p,[],hW',?_,?_,?_,bel.frame _,fun h=>by cases h⟩
 ·rw[hds,hres]
  exact trodAll_mk1 (shut_bool hb _)
 ·rw[hds]
  exact qmb hlaid bel _ _ _ _ hps2 hA
 ·rw[hds,hvars]
  rfl
theorem qze{t:TypeId}{k:IntKind}{x:List DV}(hu:P.underlying t=some (.int k))(h:Shape P t x):∃n,x=[.int k n]/\(Lit.int k n).wf=true:=by
 cases h with
 |int h hw=>rw[hu]at h;simp at h;subst h;exact⟨_,rfl,hw⟩
 |bool h=>rw[hu]at h;simp at h
 |str h=>rw[hu]at h;simp at h
 |nil h=>rw[hu]at h;simp at h
 |row h=>rw[hu]at h;simp at h
 |struct h=>rw[hu]at h;simp at h
theorem qrX{t e:TypeId}{x:List DV}(hu:P.underlying t=some (.slice e))(h:Shape P t x):∃g xs,x=[.sl g xs]/\xs.length<=maxLen/\(g= .nil->xs=[])/\(∀y:DV,y∈xs->y=qb3 P e y.cells)/\∀y:DV,y∈xs->Shape P e y.cells:=by
 cases h with
 |int h hw=>rw[hu]at h;simp at h
 |bool h=>rw[hu]at h;simp at h
 |str h hw=>rw[hu]at h;simp at h
 |nil h=>exact⟨.nil,[],rfl,by simp,fun _=>rfl,by simp,by simp⟩
 |row h h1 h2 h3=>rw[hu]at h;simp at h;subst h;exact⟨.sub,_,rfl,h1,by simp,h2,h3⟩
 |struct h=>rw[hu]at h;simp at h
end Go.Proofs.Ytfiakfiocdfpbaa.VS
namespace Go.Proofs.Ytfiakfiocdfpbaa.VS
attribute [simp] qLS qLR qLT qQq qFa qBa qNL qJv qRO qRP qak qBQ qBO qBI qBK qBL qBM qBN qBP qBH qBJ qxi qxh qta qxf qCr qac qaa qab qsG qm1 qai qEo qc1 qEp qbg qh7 qCp qxe qCo qFE qCq qsH qwI qxg qCs
def chr(s:ByteArray)(i:Nat):Int:=((s[i]?).map fun b=>(b.toNat:Int)).getD 0
theorem qhR{s:ByteArray}{i:Nat}(h:i<s.size):qlZ s i=some (chr s i):=by
 simp[qlZ,chr,h]
@[simp] theorem qQB(A:Ids):Ids.or Ids.none A=A:=by funext x;simp[Ids.or,Ids.none]
theorem qjT{n:Nat}(h:n<9223372036854775808):IntKind.i64.wrap (n:Int)=n:=wrap_i64 (by omega) (by omega)
theorem qao{n:Nat}(h:n+1<9223372036854775808):IntKind.i64.wrap ((n:Int)+1)=((n+1:Nat):Int):=by
 have:=qjT h;rw[<-this];congr 1
def qnK(es:List DV):List AV:=(flat es).map .d
theorem qq0:∀(l:List DV),qaC (l.map .d)=some l
 | []=>rfl
 |v::r=>by simp[qaC,qq0 r]
theorem qB1(es:List DV):qaC (qnK es)=some (flat es):=qq0 _
def qHu(agg:Bool)(sz:Nat)(x:DV):Prop:=x.cells.length=sz/\x.cells.all DV.isCell=true/\(agg=true->∃cs,x= .agg cs)/\(agg=false->x.cells=[x])
theorem qne{agg:Bool}{sz:Nat}:∀(es:List DV),(∀x:DV,x∈es->qHu agg sz x)->chunks agg sz es.length (flat es)=some es
 | [],_=>rfl
 |x::r,h=>by
  obtain⟨h1,h2,h3,h4⟩:=h x (by simp);have ih:=qne r fun y hy=>h y (by simp[hy])
  have hf:flat (x::r)=x.cells++flat r:=rfl;have hcut:cut agg sz (flat (x::r))=some x:=by
   rw[hf];cases agg with
   |true=>
    obtain⟨cs,rfl⟩:=h3 rfl;simp only[DV.cells]at h1⊢
    simp[cut,<-h1]
   |false=>
    have:=h4 rfl;rw[this];simp[cut]
  have hd:(flat (x::r)).drop sz=flat r:=by rw[hf,<-h1];simp
  simp only[List.length_cons,chunks,hcut,Option.bind_some,h1,h2,and_self,if_true,hd,ih,Option.map_some]
end Go.Proofs.Ytfiakfiocdfpbaa.VS
namespace Go.Proofs.Ytfiakfiocdfpbaa.VS
variable {P:Program}
structure SymL where
 name:ByteArray
 arity:Int
 ac:Bool
def SymL.cells(s:SymL):List DV:=[.str s.name,.int .i64 s.arity,.bool s.ac]
def SymL.enc(s:SymL):DV:= .agg s.cells
def SymL.ok(s:SymL):Prop:=s.name.size<=maxLen/\-9223372036854775808<=s.arity/\s.arity<=9223372036854775807
inductive TT where
 |node (f v:Int) (g:Tag) (kids:List TT)
mutual
def TT.cells:TT->List DV
 | .node f v g ks=>[.int .i64 f,.int .i64 v,.sl g (TT.encs ks)]
def TT.encs:List TT->List DV
 | []=>[]
 |t::r=> .agg t.cells::TT.encs r
end
def TT.enc(t:TT):DV:= .agg t.cells
theorem TT.qer:∀l:List TT,TT.encs l=l.map TT.enc
 | []=>by unfold TT.encs;rfl
 |t::r=>by unfold TT.encs;simp[TT.enc,TT.qer r]
mutual
def TT.ok:TT->Prop
 | .node f v g ks=>(-9223372036854775808<=f/\f<=9223372036854775807)/\(-9223372036854775808<=v/\v<=9223372036854775807)/\ks.length<=maxLen/\TT.oks ks
def TT.oks:List TT->Prop
 | []=>True
 |t::r=>t.ok/\TT.oks r
end
end Go.Proofs.Ytfiakfiocdfpbaa.VS
