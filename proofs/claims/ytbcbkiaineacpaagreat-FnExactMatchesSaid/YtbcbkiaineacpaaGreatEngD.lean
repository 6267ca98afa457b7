/- The engine, part 3: a call of the program answers what an evaluator of values without memory answers, for the functions whose code is the one that the evaluator is given. -/
import Derived.Test.YtbcbkiaineacpaaGreatEngB
import Derived.Orders
import Derived.ChangeAt
import Derived.Below
import Derived.WideShapes
import Derived.ChangeArms
import Derived.DataReads
import Derived.WalkKit
import Derived.ProofKit
import Derived.OpenShut
import Derived.ChangeOld
import Derived.SizedLaws
set_option linter.unusedSimpArgs false
set_option linter.unusedVariables false
namespace Go.Proofs.YtbcbkiaineacpaaGreat.VS
variable {P:Program} {fid:Nat->FuncId}
theorem qh6:∀(os:List VOper) (acc:List (List Nat)),
 (∀k,k<acc.length->(qdW os acc).getD k []=acc.getD k [])/\
 (∀m o x,os[m]?=some o->x∈(qdW os acc).getD (acc.length+m) []->∃j,j∈o.after/\(x=j\/(j<acc.length+m/\x∈(qdW os acc).getD j [])))
 | [],acc=>⟨fun k hk=>rfl,fun m o x h=>by simp at h⟩
 |o::os,acc=>by
  obtain⟨h1,h2⟩:=qh6 os (acc++[dd (o.after.flatMap fun j=>j::acc.getD j [])]);simp only[qdW];have hold:∀k,k<acc.length->(qdW os (acc++[dd (o.after.flatMap fun j=>j::acc.getD j [])])).getD k []=acc.getD k []:=by
   intro k hk;rw[h1 k (by simp;omega)];simp[List.getD,ye_ hk]
  refine⟨hold,fun m o' x hm hx=> ?_⟩;cases m with
  |zero=>
   simp at hm;subst hm
   rw[Nat.add_zero,h1 acc.length (by simp)]at hx;simp only[List.getD,yd_ (Nat.le_refl _),Nat.sub_self,List.getElem?_cons_zero,Option.getD_some,qw3,List.mem_flatMap]at hx;obtain⟨j,hj,hx⟩:=hx;refine⟨j,hj,?_⟩;rcases List.mem_cons.1 hx with h|h
   ·exact .inl h
   ·right
    have hlt:j<acc.length:=by
     rcases Nat.lt_or_ge j acc.length with h'|h'
     ·exact h'
     ·rw[List.getElem?_eq_none h']at h;simp at h
    exact⟨by omega,by rw[hold j hlt];exact h⟩
  |succ m=>
   simp at hm;obtain⟨j,hj,h3⟩:=h2 m o' x hm (by
    have e:(acc++[dd (o.after.flatMap fun j=>j::acc.getD j [])]).length+m=acc.length+(m+1):=by simp;omega
    rw[e];exact hx)
   refine⟨j,hj,?_⟩;rcases h3 with h|⟨h,h'⟩
   ·exact .inl h
   ·exact .inr ⟨by simp at h;omega,h'⟩
theorem qFG{vs:List VOper}{L:Nat->Prop}(hL:∀(i:Nat) (o:VOper),vs[i]?=some o->L i->∀j,j∈o.after->L j)(hlt:∀(i:Nat) (o:VOper),vs[i]?=some o->∀j,j∈o.after->j<i):
 ∀(i:Nat) (o:VOper),vs[i]?=some o->(∀j,j∈o.after->L j)->∀x,x∈(qdW vs []).getD i []->L x:=by
 intro i
 induction i using Nat.strongRecOn with
 |_ i ih=>
  intro o ho ha x hx;obtain⟨j,hj,h⟩:=(qh6 vs []).2 i o x ho (by simpa using hx);rcases h with rfl|⟨h1,h2⟩
  ·exact ha _ hj
  ·have hji:j<i:=by simpa using h1
   have hjl:j<vs.length:=by have:=(List.getElem?_eq_some_iff.1 ho).1;omega
   exact ih j hji vs[j] (by simp) (hL j vs[j] (by simp) (ha j hj)) x h2
theorem qwS{cl:List (List Nat)}{i:Nat}{a:VOper}:∀{l:List VOper} {j:Nat},qov cl i a j l=true->∀(m:Nat) (b:VOper),l[m]?=some b->qwU cl i (j+m) a b=true
 | [],j,_,m,b,h=>by simp at h
 |c::r,j,h,m,b,hm=>by
  simp only[qov,Bool.and_eq_true]at h;cases m with
  |zero=>simp at hm;subst hm;exact h.1
  |succ m=>
   have:=qwS h.2 m b (by simpa using hm);rw[show j+(m+1)=j+1+m by omega];exact this
theorem qL7{cl:List (List Nat)}:∀{l:List VOper} {i:Nat},qjW cl i l=true->∀(m n:Nat) (a b:VOper),m<n->l[m]?=some a->l[n]?=some b->qwU cl (i+m) (i+n) a b=true
 | [],i,_,m,n,a,b,_,h,_=>by simp at h
 |c::r,i,h,m,n,a,b,hmn,hm,hn=>by
  simp only[qjW,Bool.and_eq_true]at h;cases n with
  |zero=>omega
  |succ n=>
   cases m with
   |zero=>
    simp at hm hn;subst hm
    have:=qwS h.1 n b hn;rw[show i+0=i by omega,show i+(n+1)=i+1+n by omega];exact this
   |succ m=>
    simp at hm hn;have:=qL7 h.2 m n a b (by omega) hm hn;rw[show i+(m+1)=i+1+m by omega,show i+(n+1)=i+1+n by omega];exact this
theorem qxL:∀{l:List VOper} {i:Nat},ahead i l=true->∀(m:Nat) (o:VOper),l[m]?=some o->∀j,j∈o.after->j<i+m
 | [],i,_,m,o,h=>by simp at h
 |c::r,i,h,m,o,hm=>by
  simp only[ahead,Bool.and_eq_true]at h;cases m with
  |zero=>
   simp at hm;subst hm
   intro j hj;simpa using List.all_eq_true.1 h.1 j hj
  |succ m=>
   intro j hj;have:=qxL h.2 m o (by simpa using hm) j hj;omega
theorem qiD{N:Nat}{ops:Array Oper}:∀{os:List Oper} {vs:List VOper},qbN P fid N ops true os vs=true->os.length=vs.length/\∀(i:Nat) (o:Oper) (v:VOper),os[i]?=some o->vs[i]?=some v->
 qf6 P fid N ops o v=true/\(∀j,j∈v.after↔j∈qih o)
 | [],[],_=>⟨rfl,fun i o v h=>by simp at h⟩
 |o::os,v::vs,h=>by
  simp only[qbN,Bool.and_eq_true,Bool.not_true,Bool.false_or]at h;obtain⟨⟨⟨h1,h2⟩,h3⟩,h4⟩:=h;obtain⟨h5,h6⟩:=qiD h4;refine⟨by simp[h5],fun i o' v' ho hv=> ?_⟩;cases i with
  |zero=>
   simp at ho hv;subst ho;subst hv
   refine⟨h1,fun j=>⟨fun hj=> ?_,fun hj=> ?_⟩⟩
   ·simpa using List.all_eq_true.1 h3 j hj
   ·simpa using List.all_eq_true.1 h2 j hj
  |succ i=>simp at ho hv;exact h6 i o' v' ho hv
 | [],_::_,h=>by simp[qbN]at h
 |_::_,[],h=>by simp[qbN]at h
def rest(vs:List VOper)(listed:Array Bool):List (Nat×VOper):=((List.range' 0 vs.length).zip vs).filter fun q=> !listed.getD q.1 true
theorem qup{vs:List VOper}{q:Nat×VOper}(h:q∈(List.range' 0 vs.length).zip vs):vs[q.1]?=some q.2:=by
 obtain⟨i,hi⟩:=List.mem_iff_getElem?.1 h;rw[List.getElem?_zip_eq_some]at hi;obtain⟨h1,h2⟩:=hi;have h3:=List.getElem?_eq_some_iff.1 h1;obtain⟨h4,h5⟩:=h3;simp at h5;rw[<-h5];exact h2
theorem qzO{vs:List VOper}{i:Nat}{o:VOper}(h:vs[i]?=some o):
 ∃b1 b2,(List.range' 0 vs.length).zip vs=b1++(i,o)::b2/\(∀q,q∈b1->q.1<i)/\(∀q,q∈b2->i<q.1):=by
 have hi:i<vs.length:=(List.getElem?_eq_some_iff.1 h).1;refine⟨(List.range' 0 i).zip (vs.take i),(List.range' (i+1) (vs.length-(i+1))).zip (vs.drop (i+1)),?_,fun q hq=> ?_,fun q hq=> ?_⟩
 ·have e1:List.range' 0 vs.length=List.range' 0 i++i::List.range' (i+1) (vs.length-(i+1)):=by
   have h1:List.range' 0 vs.length=List.range' 0 i++List.range' i (vs.length-i):=by
    have h2:= @List.range'_append_1 0 i (vs.length-i);rw[Nat.zero_add]at h2;rw[h2]
    congr 1;omega
   rw[h1,show vs.length-i=(vs.length-(i+1))+1 by omega,List.range'_succ]
  have e2:vs=vs.take i++o::vs.drop (i+1):=by
   conv=>lhs;rw[<-List.take_append_drop i vs,List.drop_eq_getElem_cons hi]
   congr 2
   have:=(List.getElem?_eq_some_iff.1 h).2;exact this
  rw[e1]
  conv=>lhs;rw[e2]
  rw[List.zip_append (by simp;omega),List.zip_cons_cons];simp
  congr 2
  omega
 ·have:=(List.of_mem_zip hq).1
  simp at this;omega
 ·have:=(List.of_mem_zip hq).1
  simp at this;omega
theorem qmD{vs:List VOper}{listed:Array Bool}{i:Nat}{o:VOper}(h:vs[i]?=some o)(hl:listed.getD i true=false):
 ∃pre post,rest vs listed=pre++(i,o)::post/\rest vs (listed.setIfInBounds i true)=pre++post/\(∀q,q∈pre->q.1<i/\vs[q.1]?=some q.2/\listed.getD q.1 true=false):=by
 obtain⟨b1,b2,hb,h1,h2⟩:=qzO h;have hsz:i<listed.size:=by
  rcases Nat.lt_or_ge i listed.size with h'|h'
  ·exact h'
  ·simp[yf_,Array.getElem?_eq_none h']at hl
 have same:∀k,k≠i->(listed.setIfInBounds i true).getD k true=listed.getD k true:=fun k hk=>by
  simp[yf_,Array.getElem?_setIfInBounds_ne (Ne.symm hk)]
 have self:(listed.setIfInBounds i true).getD i true=true:=by
  simp[yf_,hsz]
 refine⟨b1.filter fun q=> !listed.getD q.1 true,b2.filter fun q=> !listed.getD q.1 true,?_,?_,fun q hq=> ?_⟩
 ·unfold rest
  rw[hb,List.filter_append,List.filter_cons];simp only[hl,Bool.not_false,if_true]
 ·unfold rest
  rw[hb,List.filter_append,List.filter_cons];simp only[self,Bool.not_true,Bool.false_eq_true,if_false]
  congr 1
  ·exact List.filter_congr fun q hq=>by rw[same q.1 (by have:=h1 q hq;omega)]
  ·exact List.filter_congr fun q hq=>by rw[same q.1 (by have:=h2 q hq;omega)]
 ·obtain⟨h3,h4⟩:=List.mem_filter.1 hq
  exact⟨h1 q h3,qup (by rw[hb];exact List.mem_append_left _ h3),by simpa using h4⟩
theorem qHU{g:Gh}{w:World}{s s':St}{tm:Array Value}(h:s.eqv s')(hr:qef fid g w s.r tm):qef fid g w s'.r tm:=fun t v hv=>hr t v (by rw[h.1 t];exact hv)
theorem qVq{call:qaz}(hcall:qgh P fid call){p:Id}{L0 N c:Nat}{ops:Array Oper}{vs:List VOper}(hok:qbN P fid N ops true ops.toList vs=true)(hdraw:qlI vs=true){sf:St}
 {Q:Exit->Act->World->Prop} {g0:Gh} {w0:World} {A0:Ids} {a0:Act}
 (hQ:∀g' a' w',Core fid g' w' sf.B sf.A->Boxes g0 w0 g'->Step (fun x=>∃q j,c<=j/\j<c+vs.length/\x=q++j::p) g0 w0 A0 g' w' sf.A->qef fid g' w' sf.r a'.tmps->a'.tmps.size=N->a'.defers=a0.defers->Q .normal a' w'):
 ∀(fuel:Nat) (listed:Array Bool) (g:Gh) (w:World) (a:Act) (s t:St),(rest vs listed).length=fuel->listed.size=vs.length->s.c=c->Core fid g w s.B s.A->qef fid g w s.r a.tmps->a.tmps.size=N->a.defers=a0.defers->
  Boxes g0 w0 g->Step (fun x=>∃q j,c<=j/\j<c+vs.length/\x=q++j::p) g0 w0 A0 g w s.A->
  (∀i,listed.getD i true=false->∀q,g.row (q++(c+i)::p)=none)->(∀(i:Nat) (o:VOper),vs[i]?=some o->listed.getD i true=true->∀j,j∈o.after->listed.getD j true=true)->
  qhY call p L0 (rest vs listed) s=some t->t.eqv sf->wpAny P .any ops Q fuel listed a w:=by
 obtain⟨hlen,hat⟩:=qiD hok;simp only[qlI,Bool.and_eq_true]at hdraw;obtain⟨hahead,hpairs⟩:=hdraw;have hafter:∀(i:Nat) (o:VOper),vs[i]?=some o->∀j,j∈o.after->j<i:=fun i o h j hj=>by simpa using qxL hahead i o h j hj
 intro fuel
 induction fuel with
 |zero=>
  intro listed g w a s t hfuel hsz hc hcore hr hN hdef hbox hstep hfr hcl hseq heq;have hnil:rest vs listed=[]:=List.eq_nil_of_length_eq_zero hfuel;rw[hnil]at hseq;simp[qhY]at hseq;subst hseq
  refine⟨?_,hQ g a w (by rw[<-heq.2.1,<-heq.2.2.1];exact hcore) hbox (by rw[<-heq.2.2.1];exact hstep) (qHU heq hr) hN hdef⟩;rw[Region.ready,List.filter_eq_nil_iff];intro i hi hcond;simp only[List.mem_range]at hi;simp only[Bool.and_eq_true,Bool.not_eq_true']at hcond;have hi':i<vs.length:=by simpa[<-hlen]using hi
  obtain⟨pre,post,h1,_⟩:=qmD (vs:=vs) (i:=i) (o:=vs[i]) (by simp) hcond.1;rw[hnil]at h1;simp at h1
 |succ fuel ih=>
  intro listed g w a s t hfuel hsz hc hcore hr hN hdef hbox hstep hfr hcl hseq heq;refine⟨fun hready=> ?_,fun i hi=> ?_⟩
  ·
   exfalso;have hne:rest vs listed≠[]:=by intro h;rw[h]at hfuel;simp at hfuel
   obtain⟨q,hq⟩:=List.exists_mem_of_ne_nil _ hne;have hex:∃i,i<vs.length/\listed.getD i true=false:=by
    obtain⟨h1,h2⟩:=List.mem_filter.1 hq;have h3:=qup h1;exact⟨q.1,(List.getElem?_eq_some_iff.1 h3).1,by simpa using h2⟩
   have least:∀n,(∃i,i<n/\i<vs.length/\listed.getD i true=false)->∃i,i<vs.length/\listed.getD i true=false/\∀j,j<i->listed.getD j true=true:=by
    intro n
    induction n with
    |zero=>rintro⟨i,h,_⟩;omega
    |succ n ihn=>
     rintro⟨i,h1,h2,h3⟩
     by_cases hl:∃i,i<n/\i<vs.length/\listed.getD i true=false
     ·exact ihn hl
     ·refine⟨i,h2,h3,fun j hj=> ?_⟩
      cases hjl:listed.getD j true with
      |true=>rfl
      |false=>exact absurd ⟨j,by omega,by omega,hjl⟩ hl
   obtain⟨i0,h1,h2⟩:=hex;obtain⟨i,h3,h4,h5⟩:=least (i0+1) ⟨i0,by omega,h1,h2⟩;have hio:i<ops.size:=by have:=hlen;simp at this;omega
   have hmem:i∈Region.ready .any ops listed:=by
    rw[Region.ready,List.mem_filter];refine⟨by simpa using hio,?_⟩;have ho:ops[i]?=some ops[i]:=by simp[hio]
    simp only[h4,ho,Bool.not_false,Bool.true_and,Option.map_some,Option.getD_some];rw[Array.all_eq_true];intro k hk;simp only[Bool.or_eq_true,Bool.not_eq_true']
    by_cases hb:Region.binds .any ops[i].after[k]=true
    ·right
     have hj:(ops[i].after[k]).on∈vs[i].after:=by
      rw[(hat i ops[i] vs[i] (by simp[hio]) (by simp)).2];unfold qih;refine List.mem_map.2 ⟨ops[i].after[k],List.mem_filter.2 ⟨by simp,hb⟩,rfl⟩
     have hlt:=hafter i vs[i] (by simp) _ hj;have h6:=h5 _ hlt;have h7:(ops[i].after[k]).on<listed.size:=by omega
     simp[yf_,h7]at h6⊢
     exact h6
    ·left;simpa using hb
   rw[hready]at hmem;simp at hmem
  ·
   rw[Region.ready,List.mem_filter]at hi;obtain⟨hi1,hi2⟩:=hi;simp only[List.mem_range]at hi1;simp only[Bool.and_eq_true,Bool.not_eq_true']at hi2;obtain⟨hnl,hpre⟩:=hi2;have hiv:i<vs.length:=by simpa[<-hlen]using hi1
   have ho:ops[i]?=some ops[i]:=by simp[hi1]
   have hv:vs[i]?=some vs[i]:=by simp[hiv]
   obtain⟨hokop,haft⟩:=hat i ops[i] vs[i] (by simp[hi1]) hv;have hall:∀j,j∈vs[i].after->listed.getD j true=true:=by
    intro j hj;rw[haft]at hj;unfold qih at hj;obtain⟨e,he,rfl⟩:=List.mem_map.1 hj;obtain⟨he1,he2⟩:=List.mem_filter.1 he;rw[ho]at hpre;simp only[Option.map_some,Option.getD_some]at hpre;obtain⟨k,hk,hke⟩:=Array.mem_iff_getElem.1 (Array.mem_toList_iff.1 he1);have:=(Array.all_eq_true.1 hpre) k hk;rw[hke]at this;simp only[he2,Bool.not_true,Bool.false_or]at this;have hlt:e.on<listed.size:=by
     rcases Nat.lt_or_ge e.on listed.size with h|h
     ·exact h
     ·simp[yf_,Array.getElem?_eq_none h]at this
    simp[yf_,hlt]at this⊢
    exact this
   obtain⟨pre,post,hr1,hr2,hpre2⟩:=qmD hv hnl;rw[hr1]at hseq;have hcompat:∀q,q∈pre->qFr q.2 vs[i]:=by
    intro q hq;obtain⟨q1,q2,q3⟩:=hpre2 q hq;have hp:=qL7 hpairs q.1 i q.2 vs[i] q1 q2 hv;simp only[Nat.zero_add,qwU,Bool.or_eq_true,Bool.and_eq_true]at hp;rcases hp with hp|⟨⟨hp1,hp2⟩,hp3⟩
    ·exfalso
     have hx:q.1∈(qdW vs []).getD i []:=by simpa using hp
     have:=qFG (L:=fun k=>listed.getD k true=true) (fun i o h1 h2 j hj=>hcl i o h1 h2 j hj) hafter i vs[i] hv hall q.1 hx;rw[q3]at this;simp at this
    ·exact⟨hp1,hp2,hp3⟩
   obtain⟨s1,t',hone,hseq',heq'⟩:=qpM hcompat hseq;have hcs:=qEU hone;unfold wpOp;rw[ho];simp only;have key:=qDU (g:=g) (w:=w) (ops:=ops) hcall hcore hr hN (fun q=>by rw[hc];exact hfr i hnl q) hokop hone (wpAny P .any ops Q fuel (listed.setIfInBounds i true)) Q (fun g1 w1 u c1 b1 st1 r1=>by
    refine ih (listed.setIfInBounds i true) g1 w1 (a.put ops[i].dst u) s1 t' ?_ (by simpa using hsz) (by rw[hcs,hc]) c1 r1 (by rw[qfn];exact hN) (by rw[put_defers];exact hdef) (hbox.trans hstep.size b1) (hstep.trans hbox (st1.weaken (fun x ⟨q,hx⟩=>⟨q,s.c+i,by omega,by omega,hx⟩))) (fun k hk q=> ?_) (fun k o hk hkl j hj=> ?_) (by rw[hr2];exact hseq') ?_
    ·rw[hr2]
     have h8:=congrArg List.length hr1;simp only[yg_,List.length_cons]at h8⊢
     omega
    ·have hki:k≠i:=by
      intro h;subst h
      have:k<listed.size:=by omega
      simp[yf_,this]at hk
     have hk':listed.getD k true=false:=by
      rw[<-hk];simp[yf_,Array.getElem?_setIfInBounds_ne (Ne.symm hki)]
     exact qq4 st1 (by omega) (fun q=>hfr k hk' q) q
    ·have hset:∀m,listed.getD m true=true->(listed.setIfInBounds i true).getD m true=true:=by
      intro m hm
      by_cases hmi:m=i
      ·subst hmi
       have:m<listed.size:=by omega
       simp[yf_,this]
      ·have e:(listed.setIfInBounds i true).getD m true=listed.getD m true:=by
        simp[yf_,Array.getElem?_setIfInBounds_ne (Ne.symm hmi)]
       rw[e];exact hm
     by_cases hki:k=i
     ·subst hki
      rw[hv]at hk;simp at hk;subst hk
      exact hset j (hall j hj)
     ·have:listed.getD k true=true:=by
       have e:(listed.setIfInBounds i true).getD k true=listed.getD k true:=by
        simp[yf_,Array.getElem?_setIfInBounds_ne (Ne.symm hki)]
       rw[<-e];exact hkl
      exact hset j (hcl k o hk this j hj)
    ·refine⟨fun x=> ?_,?_,?_,?_⟩
     ·rw[<-heq'.1 x];exact heq.1 x
     ·rw[<-heq'.2.1];exact heq.2.1
     ·rw[<-heq'.2.2.1];exact heq.2.2.1
     ·rw[<-heq'.2.2.2];exact heq.2.2.2)
   split
   ·rename_i hw
    rw[if_pos hw]at key;exact .inl key
   ·rename_i hw
    rw[if_neg hw]at key;exact key
end Go.Proofs.YtbcbkiaineacpaaGreat.VS
namespace Go.Proofs.YtbcbkiaineacpaaGreat.VS
variable {P:Program} {fid:Nat->FuncId}
def qg3(p:Id)(c c':Nat)(x:Id):Prop:=∃q j,c<=j/\j<c'/\x=q++j::p
theorem qbO{p:Id}{c c':Nat}{g g':Gh}{w w':World}{A A':Ids}(hs:Step (qg3 p c c') g w A g' w' A')(hc:c<=c')(h:qiX g p c):qiX g' p c':=by
 intro q j hj
 by_cases he:g'.row (q++j::p)=g.row (q++j::p)
 ·rw[he];exact h q j (by omega)
 ·obtain⟨q',j',h1,h2,h3⟩:=hs.new _ he
  have:=List.append_inj' h3 (by simp);simp at this;omega
theorem qtD{r:List (Nat×AV)}:∀{live:List Nat} {t:Nat} {v:AV},lk (keep r live) t=some v->lk r t=some v
 | [],t,v,h=>by simp[keep,lk]at h
 |x::xs,t,v,h=>by
  unfold keep at h;split at h
  ·rename_i u hu
   simp only[lk]at h;split at h
   ·rename_i ht
    simp at h;subst h;subst ht;exact hu
   ·exact qtD h
  ·exact qtD h
theorem qlw{g:Gh}{w:World}{r:List (Nat×AV)}{tm:Array Value}(h:qef fid g w r tm)(live:List Nat):qef fid g w (keep r live) tm:=fun t v hv=>h t v (qtD hv)
theorem qzj{g:Gh}{w w':World}{B:qal}{A:Ids}(h:Core fid g w B A)(hw:w'.heap=w.heap)(hc:∀ad,w'.cell? ad=w.cell? ad):Core fid g w' B A:=by
 have e:Ext g w g w':=⟨⟨fun _=>Nat.le_refl _,fun ad _=>hc ad,fun _ _ h=>h⟩,fun _ _ h=>h⟩;refine⟨fun i b hb=> ?_,h.inj,fun a ha=> ?_,h.apart,fun b hb=>h.K0 b (by rw[<-hw];exact hb)⟩
 ·obtain⟨cs,arr,el,h1,h2,h3,h4,h5,h6⟩:=h.box i b hb
  exact⟨cs,arr,el,h1,by rw[hw];exact h2,h3,fun j v u h7 h8=>(h4 j v u h7 h8).mono fid e,h5,h6⟩
 ·obtain⟨b,n,c,sz,arr,el,o1,o2,o3⟩:=h.opn a ha
  exact⟨b,n,c,sz,arr,el,o1,by rw[hw];exact o2,o3⟩
theorem qpT{call:qaz}(hcall:qgh P fid call)(hm:P.follows .mixedOrders=true){p:Id}{N id na:Nat}{live:List Nat}{draw:Bool}{ops:Array Oper}{vs:List VOper}(hok:qbN P fid N ops draw ops.toList vs=true)
 {g:Gh} {w:World} {a:Act} {s s':St} (hcore:Core fid g w s.B s.A) (hr:qef fid g w s.r a.tmps) (hN:a.tmps.size=N) (hfr:qiX g p s.c) (hv:qcx call p draw na live vs s=some s')
 {Q:Exit->Act->World->Prop} (hQ:∀g' a' w',Core fid g' w' s'.B s'.A->Boxes g w g'->Step (qg3 p s.c s'.c) g w s.A g' w' s'.A->qef fid g' w' s'.r a'.tmps->a'.tmps.size=N->a'.defers=a.defers->s.c<=s'.c->Q .normal a' w'):
 (Code.region id ops draw).wp P Q a w:=by
 unfold qcx at hv;split at hv
 ·simp at hv
 rename_i hdr;obtain⟨t,hv1,rfl⟩:=ya_.1 hv;have hmore:Core fid g w (s.B++List.replicate na none) s.A:=hcore.more fun i cs h=>by
  have:=(List.getElem?_eq_some_iff.1 h).1;rw[ye_ this];exact h
 cases draw with
 |false=>
  refine wp_region_list (qLI hcall ops.toList vs 0 g w a {s with B:=s.B++List.replicate na none} t hok hmore hr hN (fun q j hj=>hfr q j (by simpa using hj)) hv1 Q fun g' a' w' c1 b1 st1 r1 n1 d1=> ?_);exact hQ g' a' w' c1 b1 (st1.weaken fun x hx=>hx) (qlw r1 live) n1 d1 (by simp)
 |true=>
  simp only[Bool.true_and,Bool.not_eq_true',Bool.not_eq_false]at hdr;refine wp_region_any hm ?_;obtain⟨hl,_⟩:=qiD hok;have hl':ops.size=vs.length:=by simpa using hl
  have hcell:∀ad,({w with drawn:=w.drawn+1}:World).cell? ad=w.cell? ad:=fun _=>rfl
  have hE:Ext g w g {w with drawn:=w.drawn+1}:=⟨⟨fun _=>Nat.le_refl _,fun ad _=>hcell ad,fun _ _ h=>h⟩,fun _ _ h=>h⟩;have hE':ExtV g w g {w with drawn:=w.drawn+1}:=hE.toExtV;have hrest:rest vs (Array.replicate ops.size false)=(List.range' 0 vs.length).zip vs:=by
   unfold rest;rw[List.filter_eq_self];intro q hq;have:=qup hq;have h3:=(List.getElem?_eq_some_iff.1 this).1;simp[yf_,hl',h3]
  rw[hl'];rw[hl']at hrest;refine qVq (N:=N) (c:=s.c) (L0:=s.B.length) (p:=p) (g0:=g) (w0:={w with drawn:=w.drawn+1}) (A0:=s.A) (a0:=a) (sf:=t) hcall hok hdr (fun g' a' w' c1 b1 st1 r1 n1 d1=> ?_) vs.length (Array.replicate vs.length false) g {w with drawn:=w.drawn+1} a {s with B:=s.B++List.replicate na none} t ?_ (by simp) rfl (qzj hmore rfl hcell) (hr.mono fid hE) hN rfl (.refl _ _) (.refl _ _ _ _) (fun i _ q=>hfr q _ (by omega)) (fun i o hi hc=> ?_) ?_ (.refl t)
  ·refine hQ g' a' w' c1 ⟨b1.old,b1.new⟩ ⟨st1.os,st1.tape,st1.output,st1.size,⟨st1.ext.K,st1.ext.cell,st1.ext.row⟩,st1.keep,fun x hx=> ?_,st1.org,st1.arr⟩ (qlw r1 live) n1 d1 (by simp)
   exact st1.new x hx
  ·rw[hrest];simp
  ·have h3:=(List.getElem?_eq_some_iff.1 hi).1
   simp[yf_,h3]at hc
  ·rw[hrest,<-qrd];exact hv1
structure Reach(fid:Nat->FuncId)(p:Id)(N:Nat)(g:Gh)(w:World)(s:St)(a:Act)(g':Gh)(w':World)(s':St)(a':Act):Prop where
 core:Core fid g' w' s'.B s'.A
 boxes:Boxes g w g'
 step:Step (qg3 p s.c s'.c) g w s.A g' w' s'.A
 regs:qef fid g' w' s'.r a'.tmps
 size:a'.tmps.size=N
 defers:a'.defers=a.defers
 le:s.c<=s'.c
theorem Reach.trans{p:Id}{N:Nat}{g g' g'':Gh}{w w' w'':World}{s s' s'':St}{a a' a'':Act}(h:Reach fid p N g w s a g' w' s' a')(h':Reach fid p N g' w' s' a' g'' w'' s'' a''):Reach fid p N g w s a g'' w'' s'' a'':=by
 have l1:=h.le;have l2:=h'.le;exact⟨h'.core,h.boxes.trans h.step.size h'.boxes,(h.step.weaken fun x ⟨q,j,h1,h2,h3⟩=>⟨q,j,h1,by omega,h3⟩).trans h.boxes (h'.step.weaken fun x ⟨q,j,h1,h2,h3⟩=>⟨q,j,by omega,h2,h3⟩),h'.regs,h'.size,h'.defers.trans h.defers,by omega⟩
theorem Reach.refl{p:Id}{N:Nat}{g:Gh}{w:World}{s:St}{a:Act}(hc:Core fid g w s.B s.A)(hr:qef fid g w s.r a.tmps)(hN:a.tmps.size=N):Reach fid p N g w s a g w s a:=
 ⟨hc,.refl _ _,.refl _ _ _ _,hr,hN,rfl,Nat.le_refl _⟩
def Ex.toExit:Ex->Exit
 | .normal=> .normal
 | .exit id=> .exit id
 | .ret=> .ret
theorem qke{m:Nat}:∀{r:List (Nat×AV)} {t:Nat} {v:AV},qab m r=true->lk r t=some v->v.safe m=true
 | [],t,v,_,h=>by simp[lk]at h
 |(x,u)::r,t,v,hs,h=>by
  simp only[qab,Bool.and_eq_true]at hs;simp only[lk]at h;split at h
  ·simp at h;subst h;exact hs.1
  ·exact qke hs.2 h
theorem qjT{g:Gh}{w:World}{B:qal}{A:Ids}(h:Core fid g w B A){i b:Nat}(hb:g.bx i=some b):i<B.length:=by
 obtain⟨cs,arr,e,h1,_⟩:=h.box i b hb;exact(List.getElem?_eq_some_iff.1 h1).1
theorem qOJ{p:Id}{N:Nat}{g0 g:Gh}{w0 w:World}{s0 s s1:St}{a0 a:Act}{live:List Nat}(hc0:Core fid g0 w0 s0.B s0.A)(h:Reach fid p N g0 w0 s0 a0 g w s a)(hh:qqY s0.B.length live s=some s1):
 Reach fid p N g0 w0 s0 a0 (g.cutB s0.B.length) w s1 a/\s1.c=s.c:=by
 unfold qqY at hh;simp only at hh;split at hh
 ·rename_i hs
  simp at hh;subst hh;refine⟨⟨h.core.cutB _,⟨fun i b hb=> ?_,fun i b hb=>h.boxes.new i b (qct hb).2⟩,⟨h.step.os,h.step.tape,h.step.output,h.step.size,⟨h.step.ext.K,h.step.ext.cell,h.step.ext.row⟩,h.step.keep,h.step.new,h.step.org,h.step.arr⟩,fun t v hv=> ?_,h.size,h.defers,h.le⟩,rfl⟩
  ·have h1:=qjT hc0 hb
   have h2:=h.boxes.old i b hb;simp[Gh.cutB,h1,h2]
  ·exact(qlw h.regs live t v hv).cutB (qke hs.1 hv)
 ·simp at hh
theorem qgf{call:qaz}(hcall:qgh P fid call)(hm:P.follows .mixedOrders=true){p:Id}{n N:Nat}:∀(vc:VCode) (c:Code) (g:Gh) (w:World) (a:Act) (s s':St) (e:Ex),
 qaW P fid N c vc=true->Core fid g w s.B s.A->qef fid g w s.r a.tmps->a.tmps.size=N->qiX g p s.c->qaP call p n vc s=some (e,s')->
 ∀(Q:Exit->Act->World->Prop),(∀g' w' a',Reach fid p N g w s a g' w' s' a'->Q e.toExit a' w')->c.wp P Q a w:=by
 intro vc
 induction vc with
 |skip=>
  intro c g w a s s' e hok hc hr hN hfr hv Q hQ;cases c with
  |skip=>
   simp[qaP]at hv;obtain⟨rfl,rfl⟩:=hv
   exact wp_skip (hQ g w a (.refl hc hr hN))
  |_=>simp[qaW]at hok
 |ret=>
  intro c g w a s s' e hok hc hr hN hfr hv Q hQ;cases c with
  |ret=>
   simp[qaP]at hv;obtain⟨rfl,rfl⟩:=hv
   exact wp_ret (hQ g w a (.refl hc hr hN))
  |_=>simp[qaW]at hok
 |exit id=>
  intro c g w a s s' e hok hc hr hN hfr hv Q hQ;cases c with
  |exit id'=>
   simp[qaW]at hok;subst hok
   simp[qaP]at hv;obtain⟨rfl,rfl⟩:=hv
   exact wp_exit (hQ g w a (.refl hc hr hN))
  |_=>simp[qaW]at hok
 |seq x y ihx ihy=>
  intro c g w a s s' e hok hc hr hN hfr hv Q hQ;cases c with
  |seq x' y'=>
   simp[qaW]at hok;simp only[qaP]at hv;obtain⟨⟨e1,s1⟩,h1,h2⟩:=yb_.1 hv;refine wp_seq (ihx x' g w a s s1 e1 hok.1 hc hr hN hfr h1 _ fun g1 w1 a1 R1=> ?_);cases e1 with
   |normal=>
    simp only at h2;show y'.wp P Q a1 w1;exact ihy y' g1 w1 a1 s1 s' e hok.2 R1.core R1.regs R1.size (qbO R1.step R1.le hfr) h2 Q fun g2 w2 a2 R2=>hQ g2 w2 a2 (R1.trans R2)
   |exit id=>
    simp at h2;obtain⟨rfl,rfl⟩:=h2;exact hQ g1 w1 a1 R1
   |ret=>
    simp at h2;obtain⟨rfl,rfl⟩:=h2;exact hQ g1 w1 a1 R1
  |_=>simp[qaW]at hok
 |regionF draw na live fs=>
  intro c g w a s s' e hok hc hr hN hfr hv Q hQ;cases c with
  |region id ops' draw'=>
   simp[qaW]at hok;obtain⟨rfl,hok⟩:=hok;simp only[qaP]at hv;obtain⟨s1,h1,h2⟩:=ya_.1 hv;simp at h2;obtain⟨rfl,rfl⟩:=h2;exact qpT hcall hm hok hc hr hN hfr h1 fun g' a' w' c1 b1 st1 r1 n1 d1 l1=>hQ g' w' a' ⟨c1,b1,st1,r1,n1,d1,l1⟩
  |_=>simp[qaW]at hok
 |region draw na live ops=>
  intro c g w a s s' e hok hc hr hN hfr hv Q hQ;cases c with
  |region id ops' draw'=>
   simp[qaW]at hok;obtain⟨rfl,hok⟩:=hok;simp only[qaP]at hv;obtain⟨s1,h1,h2⟩:=ya_.1 hv;simp at h2;obtain⟨rfl,rfl⟩:=h2;exact qpT hcall hm hok hc hr hN hfr h1 fun g' a' w' c1 b1 st1 r1 n1 d1 l1=>hQ g' w' a' ⟨c1,b1,st1,r1,n1,d1,l1⟩
  |_=>simp[qaW]at hok
 |cond x y z ihy ihz=>
  intro c g w a s s' e hok hc hr hN hfr hv Q hQ;cases c with
  |cond x' y' z'=>
   simp[qaW]at hok;obtain⟨⟨hx,hy⟩,hz⟩:=hok;simp only[qaP]at hv;split at hv
   ·rename_i hg
    have:=qdl (qas (w:=w) hr hx hg);refine wp_cond (t:=true) this ?_;simp only[if_true];exact ihy y' g w a s s' e hy hc hr hN hfr hv Q hQ
   ·rename_i hg
    have:=qdl (qas (w:=w) hr hx hg);refine wp_cond (t:=false) this ?_;simp only[Bool.false_eq_true,if_false];exact ihz z' g w a s s' e hz hc hr hN hfr hv Q hQ
   ·simp at hv
  |_=>simp[qaW]at hok
 |block id y ih=>
  intro c g w a s s' e hok hc hr hN hfr hv Q hQ;cases c with
  |block id' y'=>
   simp[qaW]at hok;obtain⟨rfl,hok⟩:=hok;simp only[qaP]at hv;obtain⟨⟨e1,s1⟩,h1,h2⟩:=ya_.1 hv;refine wp_block (ih y' g w a s s1 e1 hok hc hr hN hfr h1 _ fun g1 w1 a1 R1=> ?_);split at h2
   ·rename_i he
    simp at he;subst he;simp at h2;obtain⟨rfl,rfl⟩:=h2;simp only[Ex.toExit,Exit.inBlock,if_true];exact hQ g1 w1 a1 R1
   ·rename_i he
    simp at he h2;obtain⟨rfl,rfl⟩:=h2;cases e1 with
    |normal=>exact hQ g1 w1 a1 R1
    |ret=>exact hQ g1 w1 a1 R1
    |exit id=>
     have:id≠id':=fun h=>he (by rw[h])
     simp only[Ex.toExit,Exit.inBlock,this,if_false];exact hQ g1 w1 a1 R1
  |_=>simp[qaW]at hok
 |loop live y ih=>
  intro c g w a s s' e hok hc hr hN hfr hv Q hQ;cases c with
  |loop y'=>
   simp[qaW]at hok;simp only[qaP]at hv;have key:∀(m:Nat) (g1:Gh) (w1:World) (a1:Act) (s1:St),Reach fid p N g w s a g1 w1 s1 a1->qls (qaP call p n y) s.B.length live m s1=some (e,s')->Code.rounds P y' Q m a1 w1:=by
    intro m
    induction m with
    |zero=>intro g1 w1 a1 s1 _ h;simp[qls]at h
    |succ m ihm=>
     intro g1 w1 a1 s1 R1 h;simp only[qls]at h;obtain⟨s2,h2,h3⟩:=yb_.1 h;obtain⟨⟨e3,s3⟩,h4,h5⟩:=yb_.1 h3;obtain⟨R2,hc2⟩:=qOJ hc R1 h2;rw[rounds_succ];refine ih y' _ w1 a1 s2 s3 e3 hok R2.core R2.regs R2.size (qbO R2.step R2.le hfr) h4 _ fun g3 w3 a3 R3=> ?_
     have R:=R2.trans R3;cases e3 with
     |normal=>exact ihm g3 w3 a3 s3 R h5
     |exit id=>
      simp at h5;obtain⟨rfl,rfl⟩:=h5;exact hQ g3 w3 a3 R
     |ret=>
      simp at h5;obtain⟨rfl,rfl⟩:=h5;exact hQ g3 w3 a3 R
   exact wp_loop_rounds n (key n g w a s (.refl hc hr hN) hv)
  |_=>simp[qaW]at hok
end Go.Proofs.YtbcbkiaineacpaaGreat.VS
namespace Go.Proofs.YtbcbkiaineacpaaGreat.VS
variable {P:Program} {fid:Nat->FuncId}
def qiz(tmps:Array Value):ResultVar->Sem Value
 | .tmp t=>pure (tmps.getD t undef)
 | .cell a t=>do loadVar t (<-asAddr (tmps.getD a undef))
theorem qhh{g:Gh}{w:World}{s:St}{tm:Array Value}(hc:Core fid g w s.B s.A)(hr:qef fid g w s.r tm):∀(l:List ResultVar) (rs:List VRes) (vs:List AV),qeC P l rs=true->qfX s rs=some vs->
 ∃us:List Value,(l.mapM (qiz tm)).run P w= .ok us w/\us.length=vs.length/\∀(j:Nat) (v:AV) (u:Value),vs[j]?=some v->us[j]?=some u->AVR fid g w v u
 | [],[],vs,_,h=>by
  simp[qfX]at h;subst h
  exact⟨[],by simp,rfl,fun j v u h=>by simp at h⟩
 |x::l,y::rs,vs,hok,h=>by
  simp only[qfX]at h;obtain⟨v,h1,h2⟩:=yb_.1 h;obtain⟨vs',h3,rfl⟩:=ya_.1 h2;have step:∃u,(qiz tm x).run P w= .ok u w/\AVR fid g w v u/\qeC P l rs=true:=by
   cases x with
   |tmp t=>
    cases y with
    |tmp t'=>
     simp[qeC]at hok;obtain⟨rfl,hok⟩:=hok;simp only[qki]at h1;exact⟨tm.getD t undef,by simp[qiz],hr t v h1,hok⟩
    |cell t' ag sz=>simp[qeC]at hok
   |cell t ty=>
    cases y with
    |tmp t'=>simp[qeC]at hok
    |cell t' ag sz=>
     simp[qeC]at hok;obtain⟨⟨⟨rfl,ha⟩,hs⟩,hok⟩:=hok;simp only[qki]at h1;split at h1
     ·rename_i i off hl
      obtain⟨blk,hb,he⟩:=qeu (hr t _ hl);obtain⟨u,hu,ha',hb'⟩:=qm9 hc hb h1;refine⟨u,?_,hu,hok⟩;have:=qoJ (P:=P) (w:=w) (ad:=⟨blk,off,none⟩) (u:=u) ha hs ha' hb';unfold qiz;simp only[Sem.run_bind];rw[he];simp[asAddr,this]
     ·simp at h1
  obtain⟨u,r1,r2,hok'⟩:=step;obtain⟨us,r3,r4,r5⟩:=qhh hc hr l rs vs' hok' h3;refine⟨u::us,?_,by simp[r4],fun j v' u' hj hu=> ?_⟩
  ·simp[List.mapM_cons,r1,r3]
  ·cases j with
   |zero=>simp at hj hu;subst hj;subst hu;exact r2
   |succ j=>simp at hj hu;exact r5 j v' u' hj hu
 | [],_::_,_,h,_=>by simp[qeC]at h
 |x::_,[],_,h,_=>by cases x<;>simp[qeC]at h
def qVu:List Value->Value
 | [u]=>u
 |us=> .tuple us.toArray
theorem qyp(fn:Func)(tm:Array Value):results fn tm=(do
 let vs<-fn.results.mapM (qiz tm)
 pure (if h:vs.size=1 then vs[0]else .tuple vs)):=by
 unfold results
 congr 2
theorem qe4{fn:Func}{tm:Array Value}{w:World}{us:List Value}(h:(fn.results.toList.mapM (qiz tm)).run P w= .ok us w):
 (results fn tm).run P w= .ok (qVu us) w:=by
 rw[qyp,Array.mapM_eq_mapM_toList];simp only[Sem.run_bind,h,map_eq_pure_bind,Result.andThen_ok,Sem.run_pure]
 match us with
 | []=>simp[qVu]
 | [u]=>simp[qVu]
 |u::v::r=>simp[qVu]
theorem qlD{p:Id}{N:Nat}{g0 g:Gh}{w0 w:World}{s0 s:St}{a0 a:Act}{fn:Func}{rs:List VRes}{r:Res}(hc0:Core fid g0 w0 s0.B s0.A)(hfr:qiX g0 p s0.c)(h:Reach fid p N g0 w0 s0 a0 g w s a)
 (hok:qeC P fn.results.toList rs=true) (hf:finish s0.B.length p s rs=some r):
 ∃u,(results fn a.tmps).run P w= .ok u w/\∃g',Post fid (from_ p 0) g0 w0 s0.A r u g' w:=by
 have hfr':=qbO h.step h.le hfr;have hst:Step (from_ p 0) g0 w0 s0.A g w s.A:=h.step.weaken fun x ⟨q,j,h1,h2,h3⟩=>⟨q,j,Nat.zero_le _,h3⟩
 have hcutbox:Boxes g0 w0 (g.cutB s0.B.length):=⟨fun i b hb=>by
  have h1:=qjT hc0 hb;have h2:=h.boxes.old i b hb;simp[Gh.cutB,h1,h2],fun i b hb=>h.boxes.new i b (qct hb).2⟩
 have hcutstep:Step (from_ p 0) g0 w0 s0.A (g.cutB s0.B.length) w s.A:=⟨hst.os,hst.tape,hst.output,hst.size,⟨hst.ext.K,hst.ext.cell,hst.ext.row⟩,hst.keep,hst.new,hst.org,hst.arr⟩;have hcutE:ExtV g w (g.cutB s0.B.length) w:=⟨fun _=>Nat.le_refl _,fun _ _=>rfl,fun _ _ h=>h⟩;unfold finish at hf;split at hf
 ·
  rename_i v hv;simp at hf;subst hf
  obtain⟨us,r1,r2,r3⟩:=qhh h.core h.regs _ _ _ hok hv
  match us,r2 with
  | [u],_=>
   refine⟨u,qe4 r1,g.cutB s0.B.length,AVR.data fid hcutE (r3 0 _ u rfl rfl),h.core.cutB _,hcutbox,hcutstep⟩
 ·
  rename_i i off hv;simp at hf;subst hf
  obtain⟨us,r1,r2,r3⟩:=qhh h.core h.regs _ _ _ hok hv
  match us,r2 with
  | [u],_=>exact⟨u,qe4 r1,g,r3 0 _ u rfl rfl,h.core,h.boxes,hst⟩
 ·
  rename_i idb agg i sz n hv;split at hf
  ·rename_i hL
   obtain⟨hLi,hn63⟩:=hL;obtain⟨cs,h1,h2⟩:=yb_.1 hf;obtain⟨avs,h3,h4⟩:=yb_.1 h1;split at h2
   ·rename_i hlen
    obtain⟨xs,h5,rfl⟩:=ya_.1 h2;obtain⟨us,r1,r2,r3⟩:=qhh h.core h.regs _ _ _ hok hv
    match us,r2 with
    | [u],_=>
     have hu:=r3 0 _ u rfl rfl;refine⟨u,qe4 r1,?_⟩;cases hu with
     |bsl _ _ _ _ _ b hb=>
      obtain⟨bcs,arr,e,b1,b2,b3,b4,b5,b6⟩:=h.core.box i b hb;have hbcs:avs=bcs:=by
       have:=qib.1 h3;rw[b1]at this;simp at this;exact this.symm
      subst hbcs;have hds:=qbz h4;have hbnew:w0.heap.size<=b:=by
       rcases h.boxes.new i b hb with h6|h6
       ·have:=qjT hc0 h6;omega
       ·exact h6
      have hids:g.row (s.c::p)=none:=by have:=hfr' [] s.c (Nat.le_refl _);simpa using this
      have hnotbox:∀i',(g.cutB s0.B.length).bx i'≠some b:=fun i' h6=>by
       obtain⟨h7,h8⟩:=qct h6;have:=h.core.inj i i' b hb h8;omega
      have hE:ExtV g w {K:=fun x=>if x=b then n*sz else g.K x,row:=fun a=>if a=s.c::p then some (b,n,n,sz)else g.row a,bx:=(g.cutB s0.B.length).bx} w:=by
       refine⟨fun x=> ?_,fun _ _=>rfl,fun a x hx=> ?_⟩
       ·simp only;split
        ·rename_i hx;rw[hx,b6];exact Nat.zero_le _
        ·exact Nat.le_refl _
       ·simp only
        rw[if_neg (fun he=>by rw[he,hids]at hx;simp at hx)];exact hx
      have hE2:Ext (g.cutB s0.B.length) w {K:=fun x=>if x=b then n*sz else g.K x,row:=fun a=>if a=s.c::p then some (b,n,n,sz)else g.row a,bx:=(g.cutB s0.B.length).bx} w:=⟨⟨hE.K,hE.cell,hE.row⟩,fun _ _ h=>h⟩;have hcellcs:∀v:DV,v∈cs->v.isCell=true:=fun v hvm=>by
       have:=(b5 (.d v) (by rw[hds];exact List.mem_map_of_mem hvm)).1;exact this
      obtain⟨c1,c2⟩:=qh7 hcellcs h5;have hal:n*sz<=arr.size:=by rw[hds]at b3;simpa[hlen]using b3
      refine⟨{K:=fun x=>if x=b then n*sz else g.K x,row:=fun a=>if a=s.c::p then some (b,n,n,sz)else g.row a,bx:=(g.cutB s0.B.length).bx},?_,⟨fun i' b' h6=> ?_,fun i1 i2 b' h6 h7=> ?_,fun x hx=> ?_,fun x x' b' y y' hx hx' hb1 hb2=> ?_,fun b' hb'=> ?_⟩,⟨hcutbox.old,hcutbox.new⟩,⟨hst.os,hst.tape,hst.output,hst.size,hst.ext.trans hE,fun b' hb' hx1 hx2=> ?_,fun x hx=> ?_,fun x b' hx hb'=> ?_,hst.arr⟩⟩
      ·have key:VR {K:=fun x=>if x=b then n*sz else g.K x,row:=fun a=>if a=s.c::p then some (b,n,n,sz)else g.row a,bx:=(g.cutB s0.B.length).bx} w (.sl (.own (s.c::p) sz) xs) (.slice (some ⟨b,0,none⟩) xs.length xs.length):=by
        refine .row _ xs ⟨b,0,none⟩ xs.length sz (fun k=>arr.getD k undef) (by simp) (Nat.le_refl _) (by rw[c1];unfold maxLen;omega) (fun k hk=> ?_) (.inr (by simp[c1])) (fun i' x hx=>⟨(c2 i' x hx).1,(c2 i' x hx).2.1⟩) (fun i' x j v hx hj=> ?_) (fun a' sz' ht=> ?_)
        ·rw[qfA]
         have:k<arr.size:=by rw[c1]at hk;omega
         simp[World.cell?,b2,yf_,this]
        ·have h6:=(c2 i' x hx).2.2 j v hj
         have h7:(i'*sz+j)<arr.size:=by
          have:=(List.getElem?_eq_some_iff.1 h6).1;omega
         have h8:=b4 (i'*sz+j) (.d v) (arr[i'*sz+j]) (by rw[hds];simp[h6]) (by simp[h7]);have h9:=qee h8;simp[yf_,h7];exact h9.mono hE
        ·simp at ht
         obtain⟨rfl,rfl⟩:=ht;refine⟨rfl,rfl,rfl,?_,fun h=>by simp[h]⟩;simp[c1]
       rw[c1]at key;exact .d _ _ key
      ·obtain⟨h7,h8⟩:=qct h6
       obtain⟨cs',arr',e',d1,d2,d3,d4,d5,d6⟩:=(h.core.cutB s0.B.length).box i' b' h6;have hne:b'≠b:=fun he=>by rw[he]at h6;exact hnotbox i' h6
       refine⟨cs',arr',e',d1,d2,d3,fun j v u q1 q2=>(d4 j v u q1 q2).mono fid hE2,d5,?_⟩;simp only[if_neg hne];exact d6
      ·exact(h.core.cutB s0.B.length).inj i1 i2 b' h6 h7
      ·simp only[Ids.add,Bool.or_eq_true,decide_eq_true_eq]at hx
       rcases hx with rfl|hx
       ·exact⟨b,n,n,sz,arr,e,by simp,b2,hal,by simp,Nat.le_refl _,hnotbox⟩
       ·obtain⟨b',n',c',sz',arr',e',o1,o2,o3,o4,o5,o6⟩:=h.core.opn x hx
        have hne:b'≠b:=fun he=>o6 i (by rw[he];exact hb)
        have hnx:x≠s.c::p:=fun he=>by rw[he,hids]at o1;simp at o1
        exact⟨b',n',c',sz',arr',e',by simp only[if_neg hnx];exact o1,o2,o3,by simp only[if_neg hne];exact o4,o5,fun i' h6=>o6 i' (qct h6).2⟩
      ·simp only[Ids.add,Bool.or_eq_true,decide_eq_true_eq]at hx hx'
       have old:∀z y,s.A z=true->(if z=s.c::p then some (b,n,n,sz)else g.row z)=some (b',y)->z≠s.c::p/\b'≠b/\g.row z=some (b',y):=by
        intro z y hz hzr;obtain⟨b2',n',c',sz',arr',e',o1,o2,o3,o4,o5,o6⟩:=h.core.opn z hz;have hnz:z≠s.c::p:=fun he=>by rw[he,hids]at o1;simp at o1
        rw[if_neg hnz]at hzr;refine⟨hnz,fun he=> ?_,hzr⟩;rw[o1]at hzr;simp at hzr;exact o6 i (by rw[hzr.1,he];exact hb)
       rcases hx with rfl|hx
       ·rcases hx' with rfl|hx'
        ·rfl
        ·obtain⟨_,z2,_⟩:=old x' y' hx' hb2
         simp at hb1;exact absurd hb1.1.symm z2
       ·rcases hx' with rfl|hx'
        ·obtain⟨_,z2,_⟩:=old x y hx hb1
         simp at hb2;exact absurd hb2.1.symm z2
        ·exact h.core.apart x x' b' y y' hx hx' (old x y hx hb1).2.2 (old x' y' hx' hb2).2.2
      ·have hne:b'≠b:=fun he=>by
        have:=h.core.lt hb;omega
       simp only[if_neg hne];exact h.core.K0 b' hb'
      ·have hne:b'≠b:=by omega
       simp only[if_neg hne];exact hst.keep b' hb' hx1 hx2
      ·by_cases he:x=s.c::p
       ·exact⟨[],s.c,Nat.zero_le _,by simpa using he⟩
       ·simp only[if_neg he]at hx
        exact hst.new x hx
      ·simp only[Ids.add,Bool.or_eq_true,decide_eq_true_eq]at hx
       by_cases he:x=s.c::p
       ·simp[Gh.blk,he]at hb'
        exact .inl (by omega)
       ·rcases hx with hx|hx
        ·exact absurd hx he
        ·simp only[Gh.blk,if_neg he]at hb'
         exact hst.org x b' hx (by simpa[Gh.blk]using hb')
   ·simp at h2
  ·simp at hf
 ·simp at hf
 ·
  rename_i vs hnd hnp hnb hn1 hv;obtain⟨ds,hds,rfl⟩:=ya_.1 hf;obtain⟨us,r1,r2,r3⟩:=qhh h.core h.regs _ _ _ hok hv;have hd:=qbz hds;have hne:∀u,us≠[u]:=fun u hu=>by
   rw[hu]at r2
   match vs,r2 with
   | [v],_=>exact hn1 v rfl
  refine⟨.tuple us.toArray,?_,g.cutB s0.B.length,AVR.data fid hcutE (.d _ _ (.tup ds us.toArray (by simp[r2,hd]) fun j v u q1 q2=> ?_)),h.core.cutB _,hcutbox,hcutstep⟩
  ·rw[qe4 r1]
   match us,hne with
   | [],_=>rfl
   | [u],hne=>exact absurd rfl (hne u)
   |_::_::_,_=>rfl
  ·exact qee (r3 j (.d v) u (by rw[hd];simp[q1]) (by simpa using q2))
 ·simp at hf
end Go.Proofs.YtbcbkiaineacpaaGreat.VS
namespace Go.Proofs.YtbcbkiaineacpaaGreat.VS
variable {P:Program} {fid:Nat->FuncId}
def qmn(P:Program)(fid:Nat->FuncId)(k:Nat)(f:Id->List AV->Option (DV×Ids)):Prop:=
 quv P (fid k)/\∀p args v A,(qaG args).isSome->f p args=some (v,A)->∀g w (us:Array Value),us.size=args.length->(∀(j:Nat) (v:AV) (u:Value),args[j]?=some v->us[j]?=some u->AVR fid g w v u)->
  Core fid g w [] Ids.none->qiX g p 0->Calls P (fid k) us w fun e w'=>∃u g',e= .returned u/\Post fid (from_ p 0) g w Ids.none ⟨.d v,A,[]⟩ u g' w'
def qxQ(P:Program)(fid:Nat->FuncId)(k:Nat)(sf:SFn):Prop:=
 ∀call n,qgh P fid call->qmn P fid k (fun p args=>(qaG args).bind (qpH call n p sf))
structure EnvOK(P:Program)(fid:Nat->FuncId)(E:Env):Prop where
 code:∀k vf,E.nat k=none->E.code k=some vf->∃fn,P.funcs[fid k]?=some fn/\qbf P fid fn vf=true
 nat:∀k f,E.nat k=some f->qmn P fid k f
 spec:∀k sf,E.spec k=some sf->qxQ P fid k sf
 mixed:P.follows .mixedOrders=true
theorem qiH:∀(args:List AV) (i t:Nat) (v:AV),lk (qao i args) t=some v->i<=t/\args[t-i]?=some v
 | [],i,t,v,h=>by simp[qao,lk]at h
 |x::xs,i,t,v,h=>by
  simp only[qao,lk]at h;split at h
  ·rename_i ht
   simp at h;subst h;subst ht
   simp
  ·rename_i ht
   obtain⟨h1,h2⟩:=qiH xs (i+1) t v h;refine⟨by omega,?_⟩;rw[show t-i=(t-(i+1))+1 by omega];simpa using h2
theorem qw0{p:Id}{f:Nat}{args:List AV}{B:qal}{A A1:Ids}{v:DV}{fn:Id->List AV->Option (DV×Ids)}(hk:qmn P fid f fn)(h1:(qaG args).isSome)(h3:fn p args=some (v,A1)):
 quv P (fid f)/\∀g w (us:Array Value),us.size=args.length->(∀(j:Nat) (v:AV) (u:Value),args[j]?=some v->us[j]?=some u->AVR fid g w v u)->
 Core fid g w B A->qiX g p 0->Calls P (fid f) us w fun e w'=>∃u g',e= .returned u/\Post fid (from_ p 0) g w A ⟨.d v,Ids.or A1 A,B⟩ u g' w':=by
 obtain⟨ds,h1'⟩:=Option.isSome_iff_exists.1 h1;obtain⟨q1,q2⟩:=hk;refine⟨q1,fun g w us hus hrel hcore hfr=> ?_⟩;have hd:=qbz h1';have e5:ExtV g w (g.cutB 0) w:=⟨fun _=>Nat.le_refl _,fun _ _=>rfl,fun _ _ h=>h⟩;have hcalls:=q2 p args v A1 h1 h3 (g.cutB 0) w us hus (fun j x u h4 h5=>by
  have h6:=hrel j x u h4 h5;have:∃d,x= .d d:=by
   rw[hd]at h4;simp at h4;obtain⟨d,_,rfl⟩:=h4;exact⟨d,rfl⟩
  obtain⟨d,rfl⟩:=this;exact AVR.data fid e5 h6) (by
  have h5:=(hcore.cutB 0).sub (A':=Ids.none) (fun x hx=>by simp[Ids.none]at hx);simpa using h5) (fun q j hj=>by have:=hfr q j hj;simpa[Gh.cutB]using this)
 refine hcalls.mono fun e w' ⟨u,g',he,hp⟩=> ?_
 obtain⟨g2,c2,b2,s2,e2,v2⟩:=qw8 hcore rfl hp;exact⟨u,g2,he,v2,c2,b2,s2⟩
theorem qJi{E:Env}(hE:EnvOK P fid E):∀n,qgh P fid (qeN E n):=by
 intro n
 induction n with
 |zero=>intro p f args B A r h;simp[qeN]at h
 |succ n ih=>
  intro p f args B A r h;simp only[qeN]at h;split at h
  ·rename_i fn hn
   obtain⟨ds,h1,h2⟩:=yb_.1 h;obtain⟨⟨v,A1⟩,h3,rfl⟩:=ya_.1 h2;exact qw0 (hE.nat f fn hn) (by simp[h1]) h3
  ·rename_i hn
   split at h
   ·split at h
    ·simp at h
    rename_i sf hs;obtain⟨ds,h1,h2⟩:=yb_.1 h;obtain⟨⟨v,A1⟩,h3,rfl⟩:=ya_.1 h2;exact qw0 (hE.spec f sf hs (qeN E n) n ih) (by simp[h1]) (by simp only[h1,Option.bind_some];exact h3)
   rename_i vf hvf;split at h
   ·simp at h
   rename_i hlen;obtain⟨fn,hfn,hok⟩:=hE.code f vf hn hvf;simp only[qbf,Bool.and_eq_true,decide_eq_true_eq,Bool.not_eq_true']at hok;obtain⟨⟨⟨hb,hrs⟩,hnp⟩,hname⟩:=hok;split at hb
   ·rename_i c hbody
    obtain⟨⟨e,s'⟩,h1,h2⟩:=yb_.1 h;refine⟨⟨fn,hfn,hname,by simp[hbody]⟩,fun g w us hus hrel hcore hfr=> ?_⟩;refine calls_of_wp hfn hbody (qgf (N:=fn.ntmps) ih hE.mixed vf.code c g w _ ⟨qao 0 args,B,A,0⟩ s' e hb hcore (fun t v hv=> ?_) ?_ hfr h1 _ fun g' w' a' R=> ?_)
    ·obtain⟨_,h3⟩:=qiH args 0 t v hv
     simp at h3;have hlt:t<us.size:=by rw[hus];exact(List.getElem?_eq_some_iff.1 h3).1
     have:(us++Array.replicate (fn.ntmps-us.size) undef).getD t undef=us[t]:=by
      simp[yf_,Array.getElem?_append_left hlt,hlt]
     show AVR fid g w v ((us++Array.replicate (fn.ntmps-us.size) undef).getD t undef);rw[this];exact hrel t v _ h3 (by simp[hlt])
    ·simp at hlen⊢
     omega
    ·cases e with
     |exit id=>simp at h2
     |normal=>
      simp only at h2;obtain⟨u,r1,g2,hp⟩:=qlD hcore hfr R hrs h2;exact bodyPost_end r1 R.defers ⟨u,g2,rfl,hp⟩
     |ret=>
      simp only at h2;obtain⟨u,r1,g2,hp⟩:=qlD hcore hfr R hrs h2;exact bodyPost_ret r1 R.defers ⟨u,g2,rfl,hp⟩
   ·simp at hb
theorem qJh{E:Env}(hE:EnvOK P fid E):qgh P fid (qzI E):=by
 intro p f args B A r h;obtain⟨n,hn⟩:=qns.1 h;exact qJi hE n p f args B A r hn
end Go.Proofs.YtbcbkiaineacpaaGreat.VS
namespace Go.Proofs.YtbcbkiaineacpaaGreat.VS
variable {P:Program} {fid:Nat->FuncId}
theorem qOT{g g2:Gh}{w w2:World}(hrow:∀a x,g.row a=some x->g2.row a=some x){v:DV}{u:Value}(h:VR g w v u)(hf:v.flat=true):VR g2 w2 v u:=by
 cases h with
 |int k n=>exact .int k n
 |bool b=>exact .bool b
 |str s=>exact .str s
 |agg cs us hs hc hv=>simp[DV.flat]at hf
 |tup cs us hs hv=>simp[DV.flat]at hf
 |nil=>exact .nil
 |row t xs ad c s U ht hl hm hcell hK hc hv hown=>
  cases xs with
  |cons x r=>simp[DV.flat]at hf
  |nil=>
   refine .row t [] ad c s U ht hl hm (fun k hk=>by simp at hk) (.inl (by simp)) (fun i x h=>by simp at h) (fun i x j v h=>by simp at h) (fun a sz ha=> ?_);obtain⟨h1,h2,h3,h4,h5⟩:=hown a sz ha;exact⟨h1,h2,h3,hrow _ _ h4,h5⟩
theorem qlm{N:Nat}{c:Code}{a b:VCode}(h:qaW P fid N c (.seq a b)=true):∃x y,c= .seq x y/\qaW P fid N x a=true/\qaW P fid N y b=true:=by
 cases c with
 |seq x y=>simp[qaW]at h;exact⟨x,y,rfl,h.1,h.2⟩
 |_=>simp[qaW]at h
theorem qNZ{N:Nat}{c:Code}{x:VX}{a b:VCode}(h:qaW P fid N c (.cond x a b)=true):∃o y z,c= .cond o y z/\okX fid o x=true/\qaW P fid N y a=true/\qaW P fid N z b=true:=by
 cases c with
 |cond o y z=>simp[qaW]at h;exact⟨o,y,z,rfl,h.1.1,h.1.2,h.2⟩
 |_=>simp[qaW]at h
theorem qln{N na:Nat}{c:Code}{live:List Nat}{vs:List VOper}(h:qaW P fid N c (.region false na live vs)=true):∃id ops,c= .region id ops false/\qbN P fid N ops false ops.toList vs=true:=by
 cases c with
 |region id ops d=>simp[qaW]at h;obtain⟨rfl,h⟩:=h;exact⟨id,ops,rfl,h⟩
 |_=>simp[qaW]at h
theorem qlo{N:Nat}{ops:Array Oper}{d:Bool}{l:List Oper}{v:VOper}{vs:List VOper}(h:qbN P fid N ops d l (v::vs)=true):∃o os,l=o::os/\qf6 P fid N ops o v=true/\qbN P fid N ops d os vs=true:=by
 cases l with
 |nil=>simp[qbN]at h
 |cons o os=>simp only[qbN,Bool.and_eq_true]at h;exact⟨o,os,rfl,h.1.1.1,h.2⟩
theorem qLK{N:Nat}{ops:Array Oper}{d:Bool}{l:List Oper}(h:qbN P fid N ops d l []=true):l=[]:=by
 cases l with
 |nil=>rfl
 |cons o os=>simp[qbN]at h
theorem qd6{ops:Array Oper}{Q:Exit->Act->World->Prop}{o:Oper}{os:List Oper}{a:Act}{w:World}(h:if Region.wanted o (yielded ops a.tmps)then o.wp P a w (wpList P ops Q os) Q else wpList P ops Q os (a.put o.dst undef) w):wpList P ops Q (o::os) a w:=by
 unfold wpList;split
 ·rename_i hw
  rw[if_pos hw]at h;exact .inl h
 ·rename_i hw
  rw[if_neg hw]at h;exact h
theorem qiM{call:qaz}{p:Id}{n:Nat}{a b:VCode}{s s':St}(h:qaP call p n (.seq a b) s=some (.normal,s')):∃s1,qaP call p n a s=some (.normal,s1)/\qaP call p n b s1=some (.normal,s'):=by
 simp only[qaP]at h;obtain⟨⟨e,s1⟩,h1,h2⟩:=yb_.1 h;cases e with
 |normal=>exact⟨s1,h1,h2⟩
 |exit id=>simp at h2
 |ret=>simp at h2
theorem qsy{s:St}{y:DV×DV}(h:qmz s=some y):∃c2 z0 z1 z2,lk s.r 3=some (.ptr 0 0)/\lk s.r 4=some (.ptr 1 0)/\s.B=[some [.d y.1,.d y.2,c2],some [.d z0,.d z1,.d z2]]/\
 y.1.flat=true/\y.2.flat=true/\z0.flat=true/\z1.flat=true/\z2.flat=true/\y.1.isCell=true/\y.2.isCell=true:=by
 unfold qmz at h;split at h
 ·rename_i x0 x1 x2 z0 z1 z2 e1 e2 e3
  split at h
  ·rename_i hc
   simp only[Option.some.injEq]at h;subst h
   simp only[Bool.and_eq_true]at hc;obtain⟨⟨⟨⟨⟨⟨c1,c2⟩,c3⟩,c4⟩,c5⟩,c6⟩,c7⟩:=hc;exact⟨x2,z0,z1,z2,e1,e2,e3,c1,c2,c3,c4,c5,c6,c7⟩
  ·simp at h
 ·simp at h
theorem qyg{call:qaz}{p:Id}{sf:SFn}{A:Ids}{a:Id}{x:DV}{xr:List DV}{r:List DV×Ids}(h:qnW call p sf A a x xr=some r):
 ∃l v A2 cs es,DV.namess (x::xr)=some l/\A a=true/\(∀b,b∈l->A b=true)/\a∉l/\
  call p sf.srt [.tsl true 0 x.cells.length (xr.length+1),.fn sf.cmp []] [some (((x::xr).flatMap DV.cells).map .d)] (fun b=>l.contains b)=some ⟨v,A2,[some cs]⟩/\
  qaG cs=some es/\es.length=(xr.length+1)*x.cells.length/\chunks true x.cells.length (xr.length+1) es=some r.1/\r.2=Ids.add a A2:=by
 unfold qnW at h;obtain⟨l,h1,h2⟩:=yb_.1 h;split at h2
 ·rename_i hc
  split at h2
  ·rename_i v A2 cs hq
   obtain⟨es,h3,h4⟩:=yb_.1 h2;split at h4
   ·rename_i hl
    obtain⟨ys,h5,rfl⟩:=ya_.1 h4;exact⟨l,v,A2,cs,es,h1,hc.1,fun b hb=>List.all_eq_true.1 hc.2.1 b hb,by simpa using hc.2.2,hq,h3,hl,h5,rfl⟩
   ·simp at h4
  ·simp at h2
 ·simp at h2
theorem qtX{p:Id}{s:St}{rs:List VRes}{r:Res}{v:DV}(h:finish 0 p s rs=some r)(hv:r.v= .d v):r.B=[]:=by
 unfold finish at h;split at h
 ·simp at h;subst h;rfl
 ·simp at h;subst h;simp at hv
 ·split at h
  ·obtain⟨cs,h1,h2⟩:=yb_.1 h
   split at h2
   ·obtain⟨xs,_,rfl⟩:=ya_.1 h2;rfl
   ·simp at h2
  ·simp at h
 ·simp at h
 ·obtain⟨ds,_,rfl⟩:=ya_.1 h;rfl
 ·simp at h
theorem qIp{call:qaz}(hcall:qgh P fid call){p:Id}{N:Nat}{g0 g:Gh}{w0 w:World}{s0 s s':St}{a0 a:Act}{ops:Array Oper}{o:Oper}{vo:VOper}(hfr:qiX g0 p s0.c)(R:Reach fid p N g0 w0 s0 a0 g w s a)
 (hok:qf6 P fid N ops o vo=true) (hv:qdU call p false s.B.length 0 vo s=some s') {K:Act->World->Prop} {Q:Exit->Act->World->Prop}
 (hK:∀g' w' u,Reach fid p N g0 w0 s0 a0 g' w' {s' with c:=s.c+1} (a.put o.dst u)->(∀(b:Nat) (c:Array Value) (e:TypeId) (z:Nat×Nat),w.heap[b]?=some (Obj.cells c e z)->∃c':Array Value,w'.heap[b]?=some (Obj.cells c' e z)/\c'.size=c.size)->
  (∀i b,g.bx i=some b->g'.bx i=some b)->(∀b x,g.row b=some x->g'.row b=some x)->K (a.put o.dst u) w'):
 if Region.wanted o (yielded ops a.tmps)then o.wp P a w K Q else K (a.put o.dst undef) w:=by
 have hf:=qbO R.step R.le hfr;refine qDU hcall R.core R.regs R.size (fun q=>hf q _ (by omega)) hok hv K Q (fun g' w' u c1 b1 st1 r1=> ?_);refine hK g' w' u ⟨c1,R.boxes.trans R.step.size b1,?_,r1,by rw[qfn];exact R.size,by rw[put_defers];exact R.defers,by have:=R.le;simp only;omega⟩ st1.arr b1.old st1.ext.row;exact(R.step.weaken fun x ⟨q,j,h1,h2,h3⟩=>⟨q,j,h1,by simp only;omega,h3⟩).trans R.boxes (st1.weaken fun x ⟨q,hx⟩=>⟨q,s.c,R.le,by simp only;omega,by simpa using hx⟩)
theorem qMN{g gc:Gh}{w:World}{b:Nat}{A:Ids}(hK:∀x,x≠b->gc.K x=g.K x)(hrow:gc.row=g.row)(hA:∀x c,A x=true->g.row x=some c->c.1≠b){v:DV}{u:Value}(h:VR g w v u):
 ∀l,v.names=some l->(∀x,x∈l->A x=true)->VR gc w v u:=by
 induction h with
 |int k n=>intro _ _ _;exact .int k n
 |bool b=>intro _ _ _;exact .bool b
 |str s=>intro _ _ _;exact .str s
 |agg cs us hs hc hv ih=>
  intro l hl hA';simp only[DV.names]at hl;have key:∀(cs:List DV) (l:List Id),DV.namess cs=some l->(∀x,x∈l->A x=true)->∀v,v∈cs->∃l',v.names=some l'/\∀x,x∈l'->A x=true:=by
   intro cs
   induction cs with
   |nil=>intro l _ _ v hv;simp at hv
   |cons c r ihr=>
    intro l hl hA' v hv;simp only[DV.namess]at hl;obtain⟨l1,h1,h2⟩:=yb_.1 hl;obtain⟨l2,h3,rfl⟩:=ya_.1 h2;rcases List.mem_cons.1 hv with rfl|hv
    ·exact⟨l1,h1,fun x hx=>hA' x (by simp[hx])⟩
    ·exact ihr l2 h3 (fun x hx=>hA' x (by simp[hx])) v hv
  refine .agg cs us hs hc fun j v u hj hu=> ?_
  obtain⟨l',h1,h2⟩:=key cs l hl hA' v (List.mem_of_getElem? hj);exact ih j v u hj hu l' h1 h2
 |tup cs us hs hv ih=>intro l hl;simp[DV.names]at hl
 |nil=>intro _ _ _;exact .nil
 |row t xs ad c s U ht hl hm hcell hKK hc hv hown ih=>
  intro l hn hA';cases xs with
  |nil=>
   refine .row t [] ad c s U ht hl hm (fun k hk=>by simp at hk) (.inl (by simp)) (fun i x h=>by simp at h) (fun i x j v h=>by simp at h) (fun a sz ha=> ?_);rw[hrow];exact hown a sz ha
  |cons x r=>
   cases t with
   |nil=>exact absurd rfl ht
   |sub=>simp[DV.names]at hn
   |own a sz=>
    simp only[DV.names]at hn;obtain⟨l1,h1,rfl⟩:=ya_.1 hn;obtain⟨o1,o2,o3,o4,o5⟩:=hown a sz rfl;have hne:ad.block≠b:=hA a _ (hA' a (by simp)) o4;have key:∀(cs:List DV) (l:List Id),DV.namess cs=some l->(∀x,x∈l->A x=true)->∀v,v∈cs->∃l',v.names=some l'/\∀x,x∈l'->A x=true:=by
     intro cs
     induction cs with
     |nil=>intro l _ _ v hv;simp at hv
     |cons c r ihr=>
      intro l hl hA' v hv;simp only[DV.namess]at hl;obtain⟨l1,h1,h2⟩:=yb_.1 hl;obtain⟨l2,h3,rfl⟩:=ya_.1 h2;rcases List.mem_cons.1 hv with rfl|hv
      ·exact⟨l1,h1,fun x hx=>hA' x (by simp[hx])⟩
      ·exact ihr l2 h3 (fun x hx=>hA' x (by simp[hx])) v hv
    have keyc:∀(v:DV) (l:List Id),v.names=some l->(∀x,x∈l->A x=true)->∀c,c∈v.cells->∃l',c.names=some l'/\∀x,x∈l'->A x=true:=by
     intro v l h1 h2 c hc;cases v with
     |agg cs=>simp only[DV.names]at h1;exact key cs l h1 h2 c hc
     |_=>simp only[DV.cells,List.mem_singleton]at hc;subst hc;exact⟨l,h1,h2⟩
    refine .row _ _ ad c s U ht hl hm hcell (by rw[hK _ hne];exact hKK) hc (fun i y j v hy hj=> ?_) (fun a' sz' ha=>by rw[hrow];exact hown a' sz' ha);obtain⟨l',h2,h3⟩:=key (x::r) l1 h1 (fun z hz=>hA' z (by simp[hz])) y (List.mem_of_getElem? hy);obtain⟨l2,h4,h5⟩:=keyc y l' h2 h3 v (List.mem_of_getElem? hj);exact ih i y j v hy hj l2 h4 h5
theorem qiL{sz:Nat}:∀(xs:List DV),(∀x,x∈xs->x.cells.length=sz)->∀k v,(xs.flatMap DV.cells)[k]?=some v->∃i x j,xs[i]?=some x/\x.cells[j]?=some v/\k=i*sz+j/\j<sz
 | [],_,k,v,h=>by simp at h
 |x::r,hs,k,v,h=>by
  simp only[List.flatMap_cons]at h;have hx:=hs x (by simp)
  by_cases hk:k<sz
  ·rw[ye_ (by omega)]at h
   exact⟨0,x,k,rfl,h,by simp,hk⟩
  ·rw[yd_ (by omega),hx]at h
   obtain⟨i,y,j,h1,h2,h3,h4⟩:=qiL r (fun y hy=>hs y (by simp[hy])) _ _ h;exact⟨i+1,y,j,by simpa using h1,h2,by rw[Nat.add_mul];omega,h4⟩
theorem qlB{sz:Nat}:∀(xs:List DV),(∀x,x∈xs->x.cells.length=sz)->(xs.flatMap DV.cells).length=xs.length*sz
 | [],_=>by simp
 |x::r,hs=>by
  simp only[List.flatMap_cons,yg_,List.length_cons,hs x (by simp),qlB r (fun y hy=>hs y (by simp[hy]))];rw[Nat.add_mul];omega
end Go.Proofs.YtbcbkiaineacpaaGreat.VS
namespace Go.Proofs.YtbcbkiaineacpaaGreat.VS
variable {P:Program} {fid:Nat->FuncId}
theorem qHw{fn:Func}{p:Id}{g0:Gh}{w0:World}{s0:St}{a0:Act}{rs:List VRes}{v:DV}{A:Ids}(hB:s0.B=[])(hA:s0.A=Ids.none)(hd:a0.defers=[])(hc0:Core fid g0 w0 s0.B s0.A)(hfr:qiX g0 p s0.c)(hrs:qeC P fn.results.toList rs=true)
 {e:Ex} {g:Gh} {w:World} {s:St} {a:Act} (R:Reach fid p fn.ntmps g0 w0 s0 a0 g w s a)
 (h:(match e with| .exit _=>none|_=>(finish 0 p s rs).bind fun q=>match q.v with| .d v=>some (v,q.A)|_=>none)=some (v,A)):
 bodyPost P fn (fun e w'=>∃u g',e= .returned u/\Post fid (from_ p 0) g0 w0 Ids.none ⟨.d v,A,[]⟩ u g' w') e.toExit a w:=by
 have key:(finish 0 p s rs).bind (fun q=>match q.v with| .d v=>some (v,q.A)|_=>none)=some (v,A)->∃u,(results fn a.tmps).run P w= .ok u w/\∃g',Post fid (from_ p 0) g0 w0 Ids.none ⟨.d v,A,[]⟩ u g' w:=by
  intro h;obtain⟨q,h1,h2⟩:=yb_.1 h;split at h2
  ·rename_i v' hv'
   simp only[Option.some.injEq,Prod.mk.injEq]at h2;obtain⟨rfl,rfl⟩:=h2;have hq:=qtX h1 hv';obtain⟨u,r1,g',hp⟩:=qlD (fn:=fn) hc0 hfr R hrs (by rw[hB];exact h1);refine⟨u,r1,g',?_⟩;rw[hA]at hp;obtain⟨qv,qA,qB⟩:=q;simp only at hv' hq;subst hv';subst hq
   exact hp
  ·simp at h2
 cases e with
 |exit id=>simp at h
 |normal=>
  obtain⟨u,r1,g2,hp⟩:=key h;exact bodyPost_end r1 (by rw[R.defers];exact hd) ⟨u,g2,rfl,hp⟩
 |ret=>
  obtain⟨u,r1,g2,hp⟩:=key h;exact bodyPost_ret r1 (by rw[R.defers];exact hd) ⟨u,g2,rfl,hp⟩
def qdu(g:Gh)(b:Nat):Gh:={K:=fun x=>if x=b then 0 else g.K x,row:=g.row,bx:=fun i=>if i=0 then some b else none}
theorem qlv{g:Gh}{w:World}{B:qal}{A:Ids}(hc:Core fid g w B A){a:Id}{sz:Nat}{x:DV}{xr:List DV}{u:Value}{l:List Id}(hv:VR g w (.sl (.own a sz) (x::xr)) u)(hn:DV.namess (x::xr)=some l)(ha:A a=true)(hl:∀z,z∈l->A z=true)(hal:a∉l):
 ∃b c,u= .slice (some ⟨b,0,none⟩) (xr.length+1) c/\xr.length+1<=c/\c<=maxLen/\sz=x.cells.length/\g.row a=some (b,xr.length+1,c,sz)/\g.K b=(xr.length+1)*sz/\
  (∃arr e,w.heap[b]?=some (.cells arr e (0,0))/\c*sz<=arr.size)/\(∀i,g.bx i≠some b)/\
  Core fid (qdu g b) w [some (((x::xr).flatMap DV.cells).map .d)] (fun z=>l.contains z)/\(∀z y,l.contains z=true->g.row z=some y->y.1≠b):=by
 cases hv with
 |row _ _ ad c s U ht hle hm hcell hK hcc hrel hown=>
  obtain⟨o1,o2,o3,o4,o5⟩:=hown a sz rfl;subst o3;obtain⟨b',n',c',sz',arr,e,q1,q2,q3,q4,q5,q6⟩:=hc.opn a ha;rw[q1]at o4;simp only[Option.some.injEq,Prod.mk.injEq]at o4;obtain⟨rfl,rfl,rfl,rfl⟩:=o4;have had:ad=⟨ad.block,0,none⟩:=by cases ad;simp at o1 o2;simp[o1,o2]
  have hsz:sz'=x.cells.length:=((hcc 0 x rfl).1).symm;have hlen:∀y,y∈x::xr->y.cells.length=sz':=fun y hy=>by
   obtain⟨i,hi⟩:=List.mem_iff_getElem?.1 hy;exact(hcc i y hi).1
  have hap:∀z y,l.contains z=true->g.row z=some y->y.1≠ad.block:=fun z y hz hy he=>by
   have hzl:z∈l:=by simpa using hz
   have:z=a:=hc.apart z a ad.block y.2 _ (hl z hzl) ha (by rw[hy,<-he]) q1;exact hal (by rw[<-this];exact hzl)
  refine⟨ad.block,c',by rw[<-had];rfl,hle,hm,hsz,q1,by rw[q4];simp,⟨arr,e,q2,q3⟩,q6,⟨fun i b hb=> ?_,fun i j b hi hj=> ?_,fun z hz=> ?_,fun z z' b y y' hz hz' h1 h2=> ?_,fun b hb=> ?_⟩,hap⟩
  ·simp only[qdu]at hb
   split at hb
   ·rename_i hi
    subst hi;simp only[Option.some.injEq]at hb;subst hb
    refine⟨_,arr,e,rfl,q2,?_,fun j v u hj hu=> ?_,fun v hvm=> ?_,by simp[qdu]⟩
    ·rw[List.length_map,qlB _ hlen]
     have:(x::xr).length*sz'<=c'*sz':=Nat.mul_le_mul_right _ hle;omega
    ·rw[List.getElem?_map]at hj
     obtain⟨d,hd,rfl⟩:=ya_.1 hj;obtain⟨i,y,j',h1,h2,h3,h4⟩:=qiL _ hlen _ _ hd;have hi:i<(x::xr).length:=(List.getElem?_eq_some_iff.1 h1).1;have hjlt:j<(x::xr).length*sz':=by
      have:(i+1)*sz'<=(x::xr).length*sz':=Nat.mul_le_mul_right _ hi;rw[Nat.add_mul]at this;omega
     have h5:=hcell j hjlt;have h6:w.cell? (ad.add j)=arr[j]?:=by
      rw[had,qfA];simp[World.cell?,q2]
     rw[h6,hu]at h5;simp only[Option.some.injEq]at h5;have h7:=hrel i y j' d h1 h2;rw[<-h3,<-h5]at h7;have hnm:∃l',d.names=some l'/\∀z,z∈l'->l.contains z=true:=by
      have key:∀(cs:List DV) (l:List Id),DV.namess cs=some l->∀v,v∈cs->∃l',v.names=some l'/\∀x,x∈l'->x∈l:=by
       intro cs
       induction cs with
       |nil=>intro l _ v hv;simp at hv
       |cons c r ihr=>
        intro l hl v hv;simp only[DV.namess]at hl;obtain⟨l1,h1,h2⟩:=yb_.1 hl;obtain⟨l2,h3,rfl⟩:=ya_.1 h2;rcases List.mem_cons.1 hv with rfl|hv
        ·exact⟨l1,h1,fun x hx=>by simp[hx]⟩
        ·obtain⟨l3,h4,h5⟩:=ihr l2 h3 v hv
         exact⟨l3,h4,fun x hx=>by simp[h5 x hx]⟩
      obtain⟨l1,h8,h9⟩:=key _ l hn y (List.mem_of_getElem? h1);cases y with
      |agg cs=>
       simp only[DV.names]at h8;obtain⟨l2,h10,h11⟩:=key cs l1 h8 d (List.mem_of_getElem? h2);exact⟨l2,h10,fun z hz=>by simpa using h9 z (h11 z hz)⟩
      |_=>
       have:=List.mem_of_getElem? h2;simp only[DV.cells,List.mem_singleton]at this;subst this;exact⟨l1,h8,fun z hz=>by simpa using h9 z hz⟩
     obtain⟨l',h8,h9⟩:=hnm;refine .d _ _ (qMN (g:=g) (gc:=qdu g ad.block) (b:=ad.block) (A:=fun z=>l.contains z) (fun x hx=>by simp[qdu,hx]) rfl hap h7 l' h8 h9)
    ·simp only[List.mem_map]at hvm
     obtain⟨d,hd,rfl⟩:=hvm;obtain⟨j,hj⟩:=List.mem_iff_getElem?.1 hd;obtain⟨i,y,j',h1,h2,h3,h4⟩:=qiL _ hlen _ _ hj;exact⟨(hcc i y h1).2 d (List.mem_of_getElem? h2),by unfold AV.safe;rfl⟩
   ·simp at hb
  ·simp only[qdu]at hi hj
   split at hi
   ·split at hj
    ·omega
    ·simp at hj
   ·simp at hi
  ·have hzl:z∈l:=by simpa using hz
   obtain⟨b,n,c2,s2,arr2,e2,o1,o2,o3,o4,o5,o6⟩:=hc.opn z (hl z hzl);have hne:b≠ad.block:=hap z _ hz o1;refine⟨b,n,c2,s2,arr2,e2,o1,o2,o3,by simp[qdu,hne,o4],o5,fun i hi=> ?_⟩;simp only[qdu]at hi;split at hi
   ·simp at hi;exact hne hi.symm
   ·simp at hi
  ·exact hc.apart z z' b y y' (hl z (by simpa using hz)) (hl z' (by simpa using hz')) h1 h2
  ·simp only[qdu]
   split
   ·rfl
   ·exact hc.K0 b hb
end Go.Proofs.YtbcbkiaineacpaaGreat.VS
namespace Go.Proofs.YtbcbkiaineacpaaGreat.VS
variable {P:Program} {fid:Nat->FuncId}
theorem qdS{ops:Array Oper}{a:Act}{o:Oper}{N:Nat}{vo:VOper}(hok:qf6 P fid N ops o vo=true)(hg:vo.guard=none):Region.wanted o (yielded ops a.tmps)=true:=by
 simp only[qf6,Bool.and_eq_true]at hok;obtain⟨_,h4⟩:=hok;rw[hg]at h4;unfold qoA at h4;unfold Region.wanted;split at h4
 ·rename_i e0 e1;rw[e0]
 ·rename_i h;simp at h
 ·simp at h4
theorem qFU{g0 g g1:Gh}{w0 w w1:World}{A A2:Ids}{p:Id}{k k2:Nat}{l:List Id}{a:Id}{b c n sz:Nat}{cs:List AV}{es ys:List DV}{x0 x1 z0 z1 z2:DV}{c2:AV}
 (hc0:Core fid g0 w0 [] Ids.none) (hbx:Boxes g0 w0 g) (hst:Step (qg3 p 0 k) g0 w0 Ids.none g w A)
 (hc:Core fid g w [some [.d x0,.d x1,c2],some [.d z0,.d z1,.d z2]] A)
 (ha:A a=true) (hl:∀z,z∈l->A z=true) (hal:∀z y,l.contains z=true->g.row z=some y->y.1≠b)
 (hrow:g.row a=some (b,n,c,sz)) (hKb:g.K b=n*sz) (hn:0<n) (hcap:n<=c) (hmax:c<=maxLen) (hheap:∃arr e,w.heap[b]?=some (.cells arr e (0,0))/\c*sz<=arr.size) (hnbx:∀i,g.bx i≠some b)
 {N1:Id->Prop} (hN1:∀x,N1 x->qg3 p 0 k2 x) (hk:k<=k2) (hbx1:Boxes (qdu g b) w g1) (hst1:Step N1 (qdu g b) w (fun z=>l.contains z) g1 w1 A2) (hc1:Core fid g1 w1 [some cs] A2)
 (hcs:qaG cs=some es) (hes:es.length=n*sz) (hys:chunks true sz n es=some ys)
 (f0:x0.flat=true) (f1:x1.flat=true) (f2:z0.flat=true) (f3:z1.flat=true) (f4:z2.flat=true)
 {b3 b4:Nat} (hb3:g.bx 0=some b3) (hb4:g.bx 1=some b4):
 ∃arr3 e3,w1.heap[b3]?=some (.cells arr3 e3 (0,0))/\3<=arr3.size/\∃g3,g3.bx 0=some b3/\g3.bx 1=some b4/\
  Core fid g3 (w1.setRow b3 (splice arr3.toList 2 [.slice (some ⟨b,0,none⟩) n c]).toArray) [some [.d x0,.d x1,.d (.sl (.own a sz) ys)],some [.d z0,.d z1,.d z2]] (Ids.add a A2)/\
  Boxes g0 w0 g3/\Step (qg3 p 0 k2) g0 w0 Ids.none g3 (w1.setRow b3 (splice arr3.toList 2 [.slice (some ⟨b,0,none⟩) n c]).toArray) (Ids.add a A2):=by
 have hg1b:g1.bx 0=some b:=hbx1.old 0 b (by simp[qdu]);have h0bx:∀i,g0.bx i=none:=fun i=>by
  cases h:g0.bx i with
  |none=>rfl
  |some x=>have:=qjT hc0 h;simp at this
 have hnew:∀i x,g.bx i=some x->w0.heap.size<=x:=fun i x h=>by
  rcases hbx.new i x h with h1|h1
  ·rw[h0bx]at h1;simp at h1
  ·exact h1
 have hAnew:∀z y,A z=true->g.row z=some y->w0.heap.size<=y.1:=fun z y hz hy=>by
  rcases hst.org z y.1 hz (by simp[Gh.blk,hy])with h|⟨z0,h,_⟩
  ·exact h
  ·simp[Ids.none]at h
 have hbnew:w0.heap.size<=b:=hAnew a _ ha hrow;have hne3:b3≠b:=fun h=>hnbx 0 (by rw[hb3,h])
 have hne4:b4≠b:=fun h=>hnbx 1 (by rw[hb4,h])
 have hne34:b3≠b4:=fun h=>by have:=hc.inj 0 1 b3 hb3 (by rw[hb4,h]);simp at this
 have hopen:∀i x,g.bx i=some x->∀z,l.contains z=true->(qdu g b).blk z≠some x:=fun i x hx z hz hblk=>by
  have hzl:z∈l:=by simpa using hz
  obtain⟨b',n',c',s',arr',e',q1,q2,q3,q4,q5,q6⟩:=hc.opn z (hl z hzl);simp only[Gh.blk,qdu,q1,Option.map_some,Option.some.injEq]at hblk;exact q6 i (by rw[hx,hblk])
 have kept:∀i x,g.bx i=some x->x≠b->w1.heap[x]?=w.heap[x]?/\g1.K x=g.K x:=fun i x hx hxb=>by
  obtain⟨cs',arr',e',q1,q2,_⟩:=hc.box i x hx;have:=hst1.keep x (Array.getElem?_eq_some_iff.1 q2).1 (fun j hj=>by
   simp only[qdu]at hj;split at hj
   ·simp at hj;exact hxb hj.symm
   ·simp at hj) (hopen i x hx)
  exact⟨this.1,by rw[this.2];simp[qdu,hxb]⟩
 obtain⟨cs3,arr3,e3,q1,q2,q3,q4,q5,q6⟩:=hc.box 0 b3 hb3;simp only[List.getElem?_cons_zero,Option.some.injEq]at q1;subst q1;obtain⟨cs4,arr4,e4,r1,r2,r3,r4,r5,r6⟩:=hc.box 1 b4 hb4;simp only[List.getElem?_cons_succ,List.getElem?_cons_zero,Option.some.injEq]at r1;subst r1;simp at q3 r3;obtain⟨k3a,k3b⟩:=kept 0 b3 hb3 hne3;obtain⟨k4a,k4b⟩:=kept 1 b4 hb4 hne4;have hw3:w1.heap[b3]?=some (.cells arr3 e3 (0,0)):=by rw[k3a];exact q2
 have hK3:g1.K b3=0:=by rw[k3b];exact q6
 obtain⟨csb,arrb,eb,s1,s2,s3,s4,s5,s6⟩:=hc1.box 0 b hg1b;simp only[List.getElem?_cons_zero,Option.some.injEq]at s1;subst s1;obtain⟨arr0,e0,t1,t2⟩:=hheap;obtain⟨arrb',t3,t4⟩:=hst1.arr b arr0 e0 (0,0) t1;rw[s2]at t3;simp only[Option.some.injEq,Obj.cells.injEq]at t3;obtain⟨rfl,rfl,_⟩:=t3;have hds:=qbz hcs;refine⟨arr3,e3,hw3,by simpa using q3,?_⟩;generalize hw2:w1.setRow b3 (splice arr3.toList 2 [.slice (some ⟨b,0,none⟩) n c]).toArray=w2;have hh3:w2.heap[b3]?=some (.cells (splice arr3.toList 2 [.slice (some ⟨b,0,none⟩) n c]).toArray e3 (0,0)):=by rw[<-hw2];exact setRow_heap w1 b3 arr3 _ e3 (0,0) hw3
 have hoth:∀x,x≠b3->w2.heap[x]?=w1.heap[x]?:=fun x hx=>by rw[<-hw2];exact setRow_other w1 b3 x _ hx
 have hsz2:w2.heap.size=w1.heap.size:=by rw[<-hw2];simp[World.setRow]
 have hE1:ExtV g1 w1 g1 w2:=by rw[<-hw2];exact(qnk (g:=g1) hw3 hK3).toExtV
 let g3:Gh:={K:=fun x=>if x=b then n*sz else g1.K x,row:=g1.row,bx:=fun i=>if i=0 then some b3 else if i=1 then some b4 else none}
 have hE3:ExtV g1 w1 g3 w2:=⟨fun x=>by
  simp only[g3];split
  ·rename_i h;rw[h,s6];exact Nat.zero_le _
  ·exact Nat.le_refl _,hE1.cell,fun _ _ h=>h⟩
 have hrow3:∀z y,g.row z=some y->g3.row z=some y:=fun z y h=>hst1.ext.row z y h
 have hlenes:n*sz<=arrb.size:=by rw[hds]at s3;simpa[hes]using s3
 have hcelles:∀v:DV,v∈es->v.isCell=true:=fun v hv=>(s5 (.d v) (by rw[hds];exact List.mem_map_of_mem hv)).1
 obtain⟨c1,c2'⟩:=qh7 hcelles hys;have hrowv:VR g3 w2 (.sl (.own a sz) ys) (.slice (some ⟨b,0,none⟩) n c):=by
  have key:VR g3 w2 (.sl (.own a sz) ys) (.slice (some ⟨b,0,none⟩) ys.length c):=by
   refine .row _ ys ⟨b,0,none⟩ c sz (fun k=>arrb.getD k undef) (by simp) (by rw[c1];exact hcap) hmax (fun k hk=> ?_) (.inr (by simp[g3,c1])) (fun i x hx=>⟨(c2' i x hx).1,(c2' i x hx).2.1⟩) (fun i x j v hx hj=> ?_) (fun a' sz' ht=> ?_)
   ·rw[qfA]
    have:k<arrb.size:=by rw[c1]at hk;omega
    have hb:w2.heap[b]?=some (.cells arrb eb (0,0)):=by rw[hoth b (Ne.symm hne3)];exact s2
    simp[World.cell?,hb,yf_,this]
   ·have h6:=(c2' i x hx).2.2 j v hj
    have h7:(i*sz+j)<arrb.size:=by
     have:=(List.getElem?_eq_some_iff.1 h6).1;omega
    have h8:=s4 (i*sz+j) (.d v) (arrb[i*sz+j]) (by rw[hds];simp[h6]) (by simp[h7]);have h9:=qee h8;simp[yf_,h7];exact h9.mono hE3
   ·simp at ht
    obtain⟨rfl,rfl⟩:=ht;refine⟨rfl,rfl,rfl,by rw[c1];exact hrow3 _ _ hrow,fun h=> ?_⟩;have:c=0\/c≠0:=by omega
    rcases this with h'|h'
    ·exact h'
    ·exfalso
     rw[h]at c1;simp at c1;omega
  rw[c1]at key;exact key
 have hdata:∀{v:DV} {u:Value},v.flat=true->AVR fid g w (.d v) u->AVR fid g3 w2 (.d v) u:=fun hf h=> .d _ _ (qOT hrow3 (qee h) hf)
 have hA2:∀z,A2 z=true->∃b' n' c' s' arr' e',g1.row z=some (b',n',c',s')/\w1.heap[b']?=some (.cells arr' e' (0,0))/\c'*s'<=arr'.size/\g1.K b'=n'*s'/\n'<=c'/\b'≠b/\b'≠b3/\b'≠b4/\w0.heap.size<=b':=fun z hz=>by
  obtain⟨b',n',c',s',arr',e',o1,o2,o3,o4,o5,o6⟩:=hc1.opn z hz;have hlt3:=hc.lt hb3;have hlt4:=hc.lt hb4;have hs:=hst.size;refine⟨b',n',c',s',arr',e',o1,o2,o3,o4,o5,fun h=>o6 0 (by rw[hg1b,h]),?_⟩;rcases hst1.org z b' hz (by simp[Gh.blk,o1])with h|⟨z0,h1,h2⟩
  ·exact⟨by omega,by omega,by omega⟩
  ·refine⟨fun h=>hopen 0 b3 hb3 z0 h1 (by rw[h2,h]),fun h=>hopen 1 b4 hb4 z0 h1 (by rw[h2,h]),?_⟩
   simp only[Gh.blk,qdu]at h2;obtain⟨y,h3,rfl⟩:=ya_.1 h2;exact hAnew z0 y (hl z0 (by simpa using h1)) h3
 have hs3:=hst.size;have hs1:=hst1.size;have hltb:b<w1.heap.size:=(Array.getElem?_eq_some_iff.1 s2).1;refine⟨g3,by simp[g3],by simp[g3],⟨fun i b' hb'=> ?_,fun i j b' hi hj=> ?_,fun z hz=> ?_,fun z z' b' y y' hz hz' h1 h2=> ?_,fun x hx=> ?_⟩,⟨fun i x h=>by rw[h0bx]at h;simp at h,fun i x h=> ?_⟩,⟨?_,?_,?_,by omega,⟨fun x=> ?_,fun ad had=> ?_,fun z y h=> ?_⟩,fun x hx hx1 hx2=> ?_,fun z hz=> ?_,fun z x hz hx=> ?_,fun x c' e' y h=> ?_⟩⟩
 ·simp only[g3]at hb'
  split at hb'
  ·rename_i hi;subst hi
   simp only[Option.some.injEq]at hb';subst hb'
   refine⟨_,_,e3,rfl,hh3,?_,fun j v u hj hu=> ?_,fun v hv=> ?_,by simp[g3,hne3,hK3]⟩
   ·rw[List.size_toArray,qcj _ _ _ (by simp;omega)];simpa using q3
   ·simp only[List.getElem?_toArray]at hu
    rw[qcE _ _ _ (by simp;omega)]at hu
    match j with
    |0=>
     simp at hj hu;subst hj
     exact hdata f0 (q4 0 _ u rfl (by simpa using hu))
    |1=>
     simp at hj hu;subst hj
     exact hdata f1 (q4 1 _ u rfl (by simpa using hu))
    |2=>
     simp at hj hu;subst hj;subst hu
     exact .d _ _ hrowv
    |j+3=>simp at hj
   ·simp at hv
    rcases hv with rfl|rfl|rfl
    ·exact q5 _ (by simp)
    ·exact q5 _ (by simp)
    ·exact⟨rfl,by unfold AV.safe;rfl⟩
  ·split at hb'
   ·rename_i hi;subst hi
    simp only[Option.some.injEq]at hb';subst hb'
    refine⟨_,arr4,e4,rfl,by rw[hoth _ (Ne.symm hne34),k4a];exact r2,by simpa using r3,fun j v u hj hu=> ?_,fun v hv=>r5 v hv,by simp[g3,hne4,k4b,r6]⟩;have hh:=r4 j v u hj hu
    match j with
    |0=>simp at hj;subst hj;exact hdata f2 hh
    |1=>simp at hj;subst hj;exact hdata f3 hh
    |2=>simp at hj;subst hj;exact hdata f4 hh
    |j+3=>simp at hj
   ·simp at hb'
 ·simp only[g3]at hi hj
  split at hi<;>split at hj
  ·omega
  ·split at hj
   ·simp only[Option.some.injEq]at hi hj;exact absurd (hi.trans hj.symm) hne34
   ·simp at hj
  ·split at hi
   ·simp only[Option.some.injEq]at hi hj;exact absurd (hj.trans hi.symm) hne34
   ·simp at hi
  ·split at hi
   ·split at hj
    ·omega
    ·simp at hj
   ·simp at hi
 ·simp only[Ids.add,Bool.or_eq_true,decide_eq_true_eq]at hz
  rcases hz with rfl|hz
  ·refine⟨b,n,c,sz,arrb,eb,hrow3 _ _ hrow,by rw[hoth b (Ne.symm hne3)];exact s2,by omega,by simp[g3],hcap,fun i hi=> ?_⟩
   simp only[g3]at hi;split at hi
   ·simp at hi;exact hne3 hi
   ·split at hi
    ·simp at hi;exact hne4 hi
    ·simp at hi
  ·obtain⟨b',n',c',s',arr',e',o1,o2,o3,o4,o5,o6,o7,o8,o9⟩:=hA2 z hz
   refine⟨b',n',c',s',arr',e',o1,by rw[hoth b' o7];exact o2,o3,by simp[g3,o6,o4],o5,fun i hi=> ?_⟩;simp only[g3]at hi;split at hi
   ·simp at hi;exact o7 hi.symm
   ·split at hi
    ·simp at hi;exact o8 hi.symm
    ·simp at hi
 ·simp only[Ids.add,Bool.or_eq_true,decide_eq_true_eq]at hz hz'
  have ha3:=hrow3 _ _ hrow;have no:∀z y,A2 z=true->g3.row z=some (b,y)->False:=fun z y hz hy=>by
   obtain⟨b',n',c',s',arr',e',o1,o2,o3,o4,o5,o6,o7,o8,o9⟩:=hA2 z hz;simp only[g3]at hy;rw[o1]at hy;simp only[Option.some.injEq,Prod.mk.injEq]at hy;exact o6 hy.1
  rcases hz with rfl|hz<;>rcases hz' with rfl|hz'
  ·rfl
  ·rw[ha3]at h1
   simp only[Option.some.injEq,Prod.mk.injEq]at h1;exact(no z' y' hz' (by rw[h2,h1.1])).elim
  ·rw[ha3]at h2
   simp only[Option.some.injEq,Prod.mk.injEq]at h2;exact(no z y hz (by rw[h1,h2.1])).elim
  ·exact hc1.apart z z' b' y y' hz hz' h1 h2
 ·have hxb:x≠b:=by omega
  simp only[g3,if_neg hxb];exact hc1.K0 x (by omega)
 ·simp only[g3]at h
  split at h
  ·simp at h;subst h;exact .inr (hnew 0 _ hb3)
  ·split at h
   ·simp at h;subst h;exact .inr (hnew 1 _ hb4)
   ·simp at h
 ·rw[<-hw2];exact hst1.os.trans hst.os
 ·rw[<-hw2];exact hst1.tape.trans hst.tape
 ·rw[<-hw2];exact hst1.output.trans hst.output
 ·simp only[g3]
  split
  ·rename_i h;subst h;rw[hc0.K0 _ hbnew];exact Nat.zero_le _
  ·rename_i h
   have h1:=hst.ext.K x;have h2:=hst1.ext.K x;simp only[qdu,if_neg h]at h2;omega
 ·have hlt:ad.block<w0.heap.size:=by
   rcases Nat.lt_or_ge ad.block w0.heap.size with h|h
   ·exact h
   ·rw[hc0.K0 _ h]at had;omega
  have hb3n:=hnew 0 b3 hb3;have e1:w2.cell? ad=w1.cell? ad:=by simp only[World.cell?];rw[hoth _ (by omega)]
  have e2:=hst1.ext.cell ad (by
   have:=hst.ext.K ad.block;simp only[qdu];rw[if_neg (by omega)];omega)
  rw[e1,e2];exact hst.ext.cell ad had
 ·exact hrow3 z y (hst.ext.row z y h)
 ·have hb3n:=hnew 0 b3 hb3
  obtain⟨k1,k2⟩:=hst.keep x hx hx1 hx2;obtain⟨k3,k4⟩:=hst1.keep x (by omega) (fun i hi=>by
   simp only[qdu]at hi;split at hi
   ·simp at hi;omega
   ·simp at hi) (fun z hz hblk=>by
   simp only[Gh.blk,qdu]at hblk;obtain⟨y,h3,h4⟩:=ya_.1 hblk;have:=hAnew z y (hl z (by simpa using hz)) h3;omega)
  have hxb:x≠b:=by omega
  refine⟨by rw[hoth x (by omega),k3,k1],?_⟩;simp only[g3,if_neg hxb];rw[k4];simp only[qdu,if_neg hxb];exact k2
 ·simp only[g3]at hz
  by_cases he:g.row z=g0.row z
  ·refine hN1 z (hst1.new z ?_)
   simp only[qdu];rw[he];exact hz
  ·obtain⟨q,j,h1,h2,h3⟩:=hst.new z he
   exact⟨q,j,h1,by omega,h3⟩
 ·simp only[Ids.add,Bool.or_eq_true,decide_eq_true_eq]at hz
  simp only[Gh.blk]at hx;obtain⟨y,h3,h4⟩:=ya_.1 hx;rcases hz with rfl|hz
  ·rw[hrow3 _ _ hrow]at h3
   simp only[Option.some.injEq]at h3;subst h3;simp only at h4;subst h4
   exact .inl hbnew
  ·obtain⟨b',n',c',s',arr',e',o1,o2,o3,o4,o5,o6,o7,o8,o9⟩:=hA2 z hz
   simp only[g3]at h3;rw[o1]at h3;simp only[Option.some.injEq]at h3;subst h3;simp only at h4;subst h4
   exact .inl o9
 ·obtain⟨c1',d1,d2⟩:=hst.arr x c' e' y h
  obtain⟨c3',d3,d4⟩:=hst1.arr x c1' e' y d1
  by_cases hx:x=b3
  ·subst hx
   rw[hw3]at d3;simp only[Option.some.injEq,Obj.cells.injEq]at d3;obtain⟨rfl,rfl,rfl⟩:=d3;refine⟨_,hh3,?_⟩;rw[List.size_toArray,qcj _ _ _ (by simp;omega)];simp;omega
  ·exact⟨c3',by rw[hoth x hx];exact d3,by omega⟩
end Go.Proofs.YtbcbkiaineacpaaGreat.VS
namespace Go.Proofs.YtbcbkiaineacpaaGreat.VS
variable {P:Program} {fid:Nat->FuncId}
theorem qN0{o:Operand}{n:Nat}(h:okX fid o (.t n)=true)(a:Act):a.eval o=a.tmps.getD n undef:=by
 unfold okX at h;split at h
 ·rename_i t t' heq
  simp at h;subst h
  simp only[VX.t.injEq]at heq;subst heq;rfl
 all_goals simp_all
theorem qT9{o:Oper}{n:Nat}(h:qa4 P fid o.op (.move (.t n))=true)(a:Act)(w:World):(execOp a.eval o).run P w= .ok (.value (a.tmps.getD n undef)) w:=by
 obtain⟨dst,op,ty,pos,after,guard⟩:=o;cases op with
 |move y=>rw[<-qN0 (show okX fid y (.t n)=true by simpa[qa4]using h) a];rfl
 |assign y=>rw[<-qN0 (show okX fid y (.t n)=true by simpa[qa4]using h) a];rfl
 |_=>simp[qa4]at h
theorem qM7{call:qaz}(hcall:qgh P fid call)(hm:P.follows .mixedOrders=true){N:Nat}{srt cmp:Nat}{cnd rg2 rg3:Code}
 (hok1:qaW P fid N cnd (.cond (.t 42) (.region false 0 [3,4,5] [⟨some 43,.move (.t 5),none,[]⟩,⟨some 44,.call false (.c (.fn srt [])) [.t 43,.c (.fn cmp [])],none,[]⟩]) .skip)=true)
 (hok2:qaW P fid N rg2 (.region false 0 [3,4] [⟨some 45,.move (.t 5),none,[]⟩,⟨some 46,.fieldAddr 2 (.t 3),none,[]⟩,⟨none,.store false 1 (.t 46) (.t 45),none,[]⟩])=true)
 (hok3:qaW P fid N rg3 (.region false 0 [4] [⟨some 47,.load true 3 (.t 3),none,[]⟩,⟨none,.store false 3 (.t 4) (.t 47),none,[]⟩])=true)
 {p:Id} {g0 g:Gh} {w0 w:World} {s0 s:St} {a0 a:Act} (hB0:s0.B=[]) (hA0:s0.A=Ids.none) (hc0:s0.c=0) (hcore0:Core fid g0 w0 [] Ids.none) (hfr0:qiX g0 p 0)
 (R:Reach fid p N g0 w0 s0 a0 g w s a) {i:Id} {sz:Nat} {x:DV} {xr:List DV} {y:DV×DV} {q:List DV×Ids}
 (h42:lk s.r 42=some (.d (.bool true))) (h5:lk s.r 5=some (.d (.sl (.own i sz) (x::xr)))) (hat:qmz s=some y) (hs:qnW call ((s.c+1)::p) ⟨2,.skip,.skip,[],5,42,srt,cmp⟩ s.A i x xr=some q)
 (Q:Exit->Act->World->Prop)
 (hQ:∀g' w' a' s',Reach fid p N g0 w0 s0 a0 g' w' s' a'->finish 0 p s' [.cell 4 true 3]=some ⟨.d (.agg [y.1,y.2,.sl (.own i sz) q.1]),q.2,[]⟩->Q .ret a' w'):
 cnd.wp P (Exit.then ((Code.seq rg2 (Code.seq rg3 Code.ret)).wp P Q) Q) a w:=by
 obtain⟨oc,cy,cz,rfl,hx1,hy1,hz1⟩:=qNZ hok1;have ht:=qdl (qas (w:=w) R.regs hx1 (show VX.get s.r (.t 42)=_ from h42));refine wp_cond (t:=true) ht ?_;simp only[if_true];obtain⟨id1,ops1,rfl,hops1⟩:=qln hy1;obtain⟨o1,os1,hl1,ho1,hops1'⟩:=qlo hops1;obtain⟨o2,os2,rfl,ho2,hops1''⟩:=qlo hops1';have:=qLK hops1'';subst this
 obtain⟨c2,z0,z1,z2,b1,b2,b3,f0,f1,f2,f3,f4,kk0,kk1⟩:=qsy hat;obtain⟨l,vr,A2,cs,es,e1,e2,e3,e4,e5,e6,e7,e8,e9⟩:=qyg hs;refine wp_region_list ?_;rw[hl1];have hmv:qdU call p false s.B.length 0 ⟨some 43,.move (.t 5),none,[]⟩ s=some (s.put (some 43) (.d (.sl (.own i sz) (x::xr)))):=by
  simp[qdU,qcI,qbv,evP,VX.get,h5]
 have hfr0':qiX g0 p s0.c:=by rw[hc0];exact hfr0
 refine qd6 (qIp hcall hfr0' R ho1 hmv fun g w u R _ _ _=> ?_);have hN2:=qdS (a:=a.put o1.dst u) ho2 rfl;refine qd6 ?_;rw[if_pos hN2];generalize ha1:a.put o1.dst u=a1 at R⊢
 have hfr:=qbO R.step R.le hfr0';simp only[qf2]at hfr;have r43:lk (s.put (some 43) (.d (.sl (.own i sz) (x::xr)))).r 43=some (.d (.sl (.own i sz) (x::xr))):=by simp[St.put,lk]
 have r5:lk (s.put (some 43) (.d (.sl (.own i sz) (x::xr)))).r 5=some (.d (.sl (.own i sz) (x::xr))):=by simp[St.put,lk,h5]
 have r3:lk (s.put (some 43) (.d (.sl (.own i sz) (x::xr)))).r 3=some (.ptr 0 0):=by simp[St.put,lk,b1]
 have r4:lk (s.put (some 43) (.d (.sl (.own i sz) (x::xr)))).r 4=some (.ptr 1 0):=by simp[St.put,lk,b2]
 have hBs:(s.put (some 43) (.d (.sl (.own i sz) (x::xr)))).B=s.B:=rfl;have hAs:(s.put (some 43) (.d (.sl (.own i sz) (x::xr)))).A=s.A:=rfl;have hcore:Core fid g w s.B s.A:=R.core;rw[b3]at hcore;obtain⟨b,c,hu5,hcap,hmax,hsz,hrow,hKb,hheap,hnbx,hlent,hnames⟩:=qlv hcore (qee (R.regs 43 _ r43)) e1 e2 e3 e4;obtain⟨b',c',hu5',hcap',hmax',hsz',hrow',_⟩:=qlv hcore (qee (R.regs 5 _ r5)) e1 e2 e3 e4;rw[hrow]at hrow';simp only[Option.some.injEq,Prod.mk.injEq]at hrow';obtain⟨rfl,_,rfl,_⟩:=hrow';obtain⟨hfn,hcc⟩:=hcall _ _ _ _ _ _ e5;obtain⟨dst2,op2,ty2,pos2,aft2,gd2⟩:=o2;have hokop2:qa4 P fid op2 (.call false (.c (.fn srt [])) [.t 43,.c (.fn cmp [])])=true:=by
  simp only[qf6,Bool.and_eq_true]at ho2;exact ho2.1.2
 cases op2 with
 |call cl=>
  obtain⟨callee,cargs,argTypes⟩:=cl;cases callee with
  |value fo=>
   simp only[qa4,Bool.and_eq_true]at hokop2;obtain⟨hk1,hk2⟩:=hokop2;have hfun:=qas (w:=w) (a:=a1) R.regs hk1 (show VX.get _ (.c (.fn srt []))=some (.fn srt [])from rfl);obtain⟨hla,hargs⟩:=qhB (w:=w) (a:=a1) R.regs hk2 (show qgE _ [.t 43,.c (.fn cmp [])]=some [.d (.sl (.own i sz) (x::xr)),.fn cmp []]by simp[qgE,VX.get,r43]);generalize hq:a1.eval fo=qf at hfun;cases hfun with
   |fn _ _ us hus hcap2=>
    have hus0:us= #[]:=by simpa using hus
    subst hus0;have hrun:=qhW (P:=P) (w:=w) (a:=a1) (o:=⟨dst2,.call ⟨.value fo,cargs,argTypes⟩,ty2,pos2,aft2,gd2⟩) rfl rfl hq hfn;have hlc:cargs.size=2:=by simpa using hla.symm
    have hcalls:=hcc (qdu g b) w (cargs.map a1.eval++ #[]) (by simp[hlc]) (fun j v u h1 h2=>by
     simp at h2;obtain⟨oo,h3,rfl⟩:=h2
     match j with
     |0=>
      simp at h1;subst h1
      have h4:=hargs 0 _ oo rfl (by simpa using h3);obtain⟨b',c',hu5',_,_,_,hrow',_⟩:=qlv hcore (qee h4) e1 e2 e3 e4;rw[hrow]at hrow';simp only[Option.some.injEq,Prod.mk.injEq]at hrow';obtain⟨rfl,_,rfl,_⟩:=hrow';rw[hu5'];exact .tsl _ _ _ _ _ _ (by simp[qdu]) hcap hmax
     |1=>
      simp at h1;subst h1
      have h4:=hargs 1 _ oo rfl (by simpa using h3);generalize a1.eval oo=uu at h4;cases h4 with
      |fn _ _ us2 hus2 hc2=>exact .fn _ _ us2 hus2 (fun j v u h5 h6=>by simp at h5)
     |j+2=>simp at h1) hlent (fun q j _=>by
     have:=hfr (q++[j]) (s.c+1) (Nat.le_refl _);simpa[qdu]using this)
    unfold Oper.wp;rw[hrun,Oper.upon_enter];refine hcalls.mono fun e w1 ⟨u2,g1,he,hp⟩=> ?_
    subst he;have hd2:dst2=some 44:=by simp only[qf6,Bool.and_eq_true,beq_iff_eq]at ho2;exact ho2.1.1.1
    subst hd2;show(Code.seq rg2 (Code.seq rg3 Code.ret)).wp P Q (a1.put (some 44) u2) w1;have t3:=qeu (R.regs 3 _ r3);have t4:=qeu (R.regs 4 _ r4);obtain⟨b3',hb3,t3⟩:=t3;obtain⟨b4',hb4,t4⟩:=t4;have t5:a1.tmps.getD 5 undef= .slice (some ⟨b,0,none⟩) (xr.length+1) c:=hu5';have hst:Step (qg3 p 0 (s.c+1)) g0 w0 Ids.none g w s.A:=by
     have:=R.step;rw[hA0,hc0]at this;exact this
    obtain⟨arr3,e3',hh3,hs3,g3,hg0,hg1,hcore3,hbox3,hstep3⟩:=qFU (k2:=s.c+2) hcore0 R.boxes hst hcore e2 e3 hnames hrow hKb (by omega) hcap hmax hheap hnbx
     (N1:=from_ ((s.c+1)::p) 0) (fun x ⟨q,j,_,hx⟩=>⟨q++[j],s.c+1,Nat.zero_le _,by omega,by simp[hx]⟩) (by omega) hp.boxes hp.step hp.core e6 (by rw[e7,hsz]) (by rw[hsz];exact e8) f0 f1 f2 f3 f4 hb3 hb4
    have hsize:(a1.put (some 44) u2).tmps.size=N:=by rw[qfn];exact R.size
    have hdef:(a1.put (some 44) u2).defers=a0.defers:=by rw[put_defers];exact R.defers
    have n3:(a1.put (some 44) u2).tmps.getD 3 undef= .pointer (some ⟨b3',0,none⟩):=by rw[qgo,if_neg (by simp)];exact t3
    have n4:(a1.put (some 44) u2).tmps.getD 4 undef= .pointer (some ⟨b4',0,none⟩):=by rw[qgo,if_neg (by simp)];exact t4
    have n5:(a1.put (some 44) u2).tmps.getD 5 undef= .slice (some ⟨b,0,none⟩) (xr.length+1) c:=by rw[qgo,if_neg (by simp)];exact t5
    generalize a1.put (some 44) u2=a2 at hsize hdef n3 n4 n5⊢
    let gt:Gh:={K:=fun _=>0,row:=fun _=>none,bx:=fun i=>if i=0 then some b3' else if i=1 then some b4' else if i=2 then some b else none}
    have hr0:qef fid gt w1 [(3,.ptr 0 0),(4,.ptr 1 0),(5,.tsl true 2 sz (xr.length+1))] a2.tmps:=by
     intro t v hv;simp only[lk]at hv;split at hv
     ·rename_i h;subst h;simp at hv;subst hv;rw[n3];exact .ptr _ _ _ (by simp[gt])
     ·split at hv
      ·rename_i h;subst h;simp at hv;subst hv;rw[n4];exact .ptr _ _ _ (by simp[gt])
      ·split at hv
       ·rename_i h;subst h;simp at hv;subst hv;rw[n5];exact .tsl _ _ _ _ _ _ (by simp[gt]) hcap hmax
       ·simp at hv
    obtain⟨id2,ops2,rfl,hops2⟩:=qln hok2;obtain⟨p1,ps1,hl2,hp1,hps1⟩:=qlo hops2;obtain⟨p2,ps2,rfl,hp2,hps2⟩:=qlo hps1;obtain⟨p3,ps3,rfl,hp3,hps3⟩:=qlo hps2;have:=qLK hps3;subst this
    refine wp_seq (wp_region_list ?_);rw[hl2];refine qd6 ?_;rw[if_pos (qdS hp1 rfl)];have k1:=hp1;have k2:=hp2;have k3:=hp3
    simp only[qf6,Bool.and_eq_true,beq_iff_eq]at k1 k2 k3;obtain⟨⟨⟨d1,l1⟩,k1⟩,_⟩:=k1;obtain⟨⟨⟨d2,l2⟩,k2⟩,_⟩:=k2;obtain⟨⟨⟨d3,l3⟩,k3⟩,_⟩:=k3;have x3:=qT9 (P:=P) k1 a2 w1;rw[n5]at x3;have v3:AVR fid gt w1 (.tsl true 2 sz (xr.length+1)) (.slice (some ⟨b,0,none⟩) (xr.length+1) c):= .tsl _ _ _ _ _ _ (by simp[gt]) hcap hmax;generalize hu3:Value.slice (some ⟨b,0,none⟩) (xr.length+1) c=u3 at v3 x3;have reg1:=qbX (s:=⟨[(3,.ptr 0 0),(4,.ptr 1 0),(5,.tsl true 2 sz (xr.length+1))],[],Ids.none,0⟩) (dst:=p1.dst) hr0 v3 (fun d hd=>by rw[hd]at l1;rw[hsize];simpa using l1);unfold Oper.wp;rw[x3];show wpList P ops2 _ [p2,p3] (a2.put p1.dst u3) w1;rw[d1]at reg1⊢
    simp only[St.put]at reg1;refine qd6 ?_;rw[if_pos (qdS hp2 rfl)];obtain⟨u4,x4,v4⟩:=qLV (P:=P) (fid:=fid) (w:=w1) (g:=gt) reg1 k2 (show evP _ (.fieldAddr 2 (.t 3))=some (.ptr 0 2)by simp[evP,VX.get,lk]);have reg2:=qbX (s:=⟨_,[],Ids.none,0⟩) (dst:=p2.dst) reg1 v4 (fun d hd=>by rw[hd]at l2;rw[qfn,hsize];simpa using l2);unfold Oper.wp;rw[x4];show wpList P ops2 _ [p3] ((a2.put (some 45) u3).put p2.dst u4) w1;rw[d2]at reg2⊢
    simp only[St.put]at reg2;refine qd6 ?_;rw[if_pos (qdS hp3 rfl)];have hsz5:((a2.put (some 45) u3).put (some 46) u4).tmps.size=N:=by rw[qfn,qfn];exact hsize
    have hdf5:((a2.put (some 45) u3).put (some 46) u4).defers=a0.defers:=by rw[put_defers,put_defers];exact hdef
    have n45:((a2.put (some 45) u3).put (some 46) u4).tmps.getD 45 undef=u3:=by
     rw[qgo,if_neg (by simp),qgo,if_pos ⟨rfl,by rw[hsize];rw[d1]at l1;simpa using l1⟩]
    generalize (a2.put (some 45) u3).put (some 46) u4=a5 at reg2 hsz5 hdf5 n45⊢
    obtain⟨dst3,op3,ty3,pos3,aft3,gd3⟩:=p3;simp only at d3 k3;subst d3;cases op3 with
    |store tt xo yo=>
     simp only[qa4,Bool.and_eq_true,decide_eq_true_eq]at k3;obtain⟨⟨h1,h2⟩,h3⟩:=k3;obtain⟨blk,hbk,heq⟩:=qeu (qas (w:=w1) (a:=a5) reg2 h2 (show VX.get _ (.t 46)=some (.ptr 0 2)by simp[VX.get,lk]));have hblk:blk=b3':=by simp[gt]at hbk;exact hbk.symm
     subst hblk;have hy5:a5.eval yo= .slice (some ⟨b,0,none⟩) (xr.length+1) c:=by rw[qN0 h3 a5,n45,hu3]
     have hst5:=run_storeCells_at (P:=P) blk 2 e3' [.slice (some ⟨b,0,none⟩) (xr.length+1) c] 0 arr3 w1 hh3 (by simp;omega) (by simp[Value.oneCell']);have hrun5:(execOp a5.eval ⟨none,.store tt xo yo,ty3,pos3,aft3,gd3⟩).run P w1= .ok .skip (w1.setRow blk (splice arr3.toList 2 [.slice (some ⟨b,0,none⟩) (xr.length+1) c]).toArray):=by
      simp only[execOp,Instr.storeAt,heq,Instr.sureAddr,hy5,Sem.run_bind,Sem.run_pure,Result.andThen_ok,storeVar,qnY h1];rw[if_neg (by simp[Value.cells]),show(Value.slice (some ⟨b,0,none⟩) (xr.length+1) c).cells.toList=[.slice (some ⟨b,0,none⟩) (xr.length+1) c]from rfl,hst5];simp[splice]
     unfold Oper.wp;rw[hrun5];generalize hw2:w1.setRow blk (splice arr3.toList 2 [.slice (some ⟨b,0,none⟩) (xr.length+1) c]).toArray=w2 at hcore3 hstep3⊢
     show(Code.seq rg3 Code.ret).wp P Q a5 w2;obtain⟨id3,ops3,rfl,hops3⟩:=qln hok3;have hr6:qef fid g3 w2 [(3,.ptr 0 0),(4,.ptr 1 0)] a5.tmps:=by
      have q3:=qeu (reg2 3 (.ptr 0 0) (by simp[lk]));have q4:=qeu (reg2 4 (.ptr 1 0) (by simp[lk]));obtain⟨c3,hc3,q3⟩:=q3;obtain⟨c4,hc4,q4⟩:=q4;simp[gt]at hc3 hc4;subst hc3;subst hc4
      intro t v hv;simp only[lk]at hv;split at hv
      ·rename_i h;subst h;simp at hv;subst hv;rw[q3];exact .ptr _ _ _ hg0
      ·split at hv
       ·rename_i h;subst h;simp at hv;subst hv;rw[q4];exact .ptr _ _ _ hg1
       ·simp at hv
     let s6:St:=⟨[(3,.ptr 0 0),(4,.ptr 1 0)],[some [.d y.1,.d y.2,.d (.sl (.own i sz) q.1)],some [.d z0,.d z1,.d z2]],Ids.add i A2,s.c+2⟩
     have R6:Reach fid p N g0 w0 s0 a0 g3 w2 s6 a5:=⟨hcore3,hbox3,by rw[hA0,hc0];exact hstep3,hr6,hsz5,hdf5,by rw[hc0];exact Nat.zero_le _⟩;have hfr6:=qbO R6.step R6.le hfr0';have hev:qaP call p 1 (.seq (.region false 0 [4] [⟨some 47,.load true 3 (.t 3),none,[]⟩,⟨none,.store false 3 (.t 4) (.t 47),none,[]⟩]) .ret) s6=some (.ret,⟨[(4,.ptr 1 0)],[some [.d y.1,.d y.2,.d (.sl (.own i sz) q.1)],some [.d y.1,.d y.2,.d (.sl (.own i sz) q.1)]],Ids.add i A2,s.c+4⟩):=by
      have k0':AV.isCell (.d y.1)=true:=kk0;have k1':AV.isCell (.d y.2)=true:=kk1;have k2':AV.isCell (.d (.sl (.own i sz) q.1))=true:=rfl;simp[s6,qaP,qcx,qcQ,qcI,qbv,VX.get,lk,qak,qcu,qiP,qaG,qdi,qbJ,splice,AV.cells,k0',k1',k2',AV.safe,St.put,keep]
     refine qgf hcall hm (.seq (.region false 0 [4] [⟨some 47,.load true 3 (.t 3),none,[]⟩,⟨none,.store false 3 (.t 4) (.t 47),none,[]⟩]) .ret) _ g3 w2 a5 s6 _ .ret (N:=N) (p:=p) (n:=1) (by simp[qaW,hops3]) hcore3 hr6 hsz5 hfr6 hev Q fun g7 w7 a7 R7=> ?_
     refine hQ g7 w7 a7 _ (R6.trans R7) ?_;simp[finish,qfX,qki,lk,qak,qcu,qiP,qaG,e9]
    |_=>simp[qa4]at k3
  |_=>simp[qa4]at hokop2
 |_=>simp[qa4]at hokop2
end Go.Proofs.YtbcbkiaineacpaaGreat.VS
namespace Go.Proofs.YtbcbkiaineacpaaGreat.VS
variable {P:Program} {fid:Nat->FuncId}
theorem qM6(hm:P.follows .mixedOrders=true){k:Nat}{fn:Func}{R0 d1 d2 d3:VCode}{srt cmp:Nat}(hfn:P.funcs[fid k]?=some fn)(hok:qbf P fid fn (qBD R0 d1 d2 d3 srt cmp)=true):qxQ P fid k (qfF R0 d1 d2 d3 srt cmp):=by
 intro call n hcall;simp only[qbf,Bool.and_eq_true,decide_eq_true_eq,Bool.not_eq_true']at hok;obtain⟨⟨⟨hb,hrs⟩,hnp⟩,hname⟩:=hok;split at hb
 case h_2=>simp at hb
 rename_i c hbody;refine⟨⟨fn,hfn,hname,by simp[hbody]⟩,fun p args v A hd hv g0 w0 us hus hrel hcore hfr=> ?_⟩;obtain⟨ds,hds⟩:=Option.isSome_iff_exists.1 hd;simp only[hds,Option.bind_some]at hv;have hargs:=qbz hds;unfold qpH at hv;split at hv
 ·simp at hv
 rename_i hlen;obtain⟨⟨e,s⟩,h1,h2⟩:=yb_.1 hv;simp only at h2;have he:e= .normal:=by
  cases e with
  |normal=>rfl
  |exit id=>simp at h2
  |ret=>simp at h2
 subst he;obtain⟨x0,y0,rfl,o0,t0⟩:=qlm hb;obtain⟨x1,y1,rfl,o1,t1⟩:=qlm t0;obtain⟨x2,y2,rfl,o2,t2⟩:=qlm t1;obtain⟨x3,y3,rfl,o3,t3⟩:=qlm t2;obtain⟨x3a,x3b,rfl,o3a,o3b⟩:=qlm o3;obtain⟨rg2,y4,rfl,o4,t4⟩:=qlm t3;obtain⟨rg3,y5,rfl,o5,t5⟩:=qlm t4;have hret:y5= .ret:=by cases y5<;>simp[qaW]at t5⊢
 subst hret;obtain⟨s1,e1,h1⟩:=qiM h1;obtain⟨s2,e2,h1⟩:=qiM h1;obtain⟨s3,e3,e4⟩:=qiM h1;refine calls_of_wp hfn hbody ?_;have hregs:qef fid g0 w0 (qao 0 (ds.map .d)) (us++Array.replicate (fn.ntmps-us.size) undef):=by
  intro t v hv;obtain⟨_,h3⟩:=qiH _ 0 t v hv;rw[<-hargs]at h3;simp only[Nat.sub_zero]at h3;have hlt:t<us.size:=by rw[hus];exact(List.getElem?_eq_some_iff.1 h3).1
  have:(us++Array.replicate (fn.ntmps-us.size) undef).getD t undef=us[t]:=by
   simp[yf_,Array.getElem?_append_left hlt,hlt]
  rw[this];exact hrel t v _ h3 (by simp[hlt])
 have hsz:(us++Array.replicate (fn.ntmps-us.size) undef).size=fn.ntmps:=by
  have h5:us.size=2:=by rw[hus,hargs,List.length_map];simpa[qfF]using hlen
  simp[qBD]at hnp;simp;omega
 refine wp_seq (qgf hcall hm R0 x0 g0 w0 _ ⟨qao 0 (ds.map .d),[],Ids.none,0⟩ s1 .normal o0 hcore hregs hsz hfr e1 _ fun g1 w1 a1 R1=> ?_);show(Code.seq x1 _).wp P _ a1 w1;refine wp_seq (qgf hcall hm d1 x1 g1 w1 _ s1 s2 .normal o1 R1.core R1.regs R1.size (qbO R1.step R1.le hfr) e2 _ fun g2 w2 a2 R2=> ?_);show(Code.seq x2 _).wp P _ a2 w2;have R12:=R1.trans R2;refine wp_seq (qgf hcall hm d2 x2 g2 w2 _ s2 s3 .normal o2 R12.core R12.regs R12.size (qbO R12.step R12.le hfr) e3 _ fun g3 w3 a3 R3=> ?_);show(Code.seq _ _).wp P _ a3 w3;have R13:=R12.trans R3;refine wp_seq (wp_seq (qgf hcall hm d3 x3a g3 w3 _ s3 s .normal o3a R13.core R13.regs R13.size (qbO R13.step R13.le hfr) e4 _ fun g4 w4 a4 R4=> ?_));have R:=R13.trans R4;have fin:=fun(e:Ex) (s':St) (g':Gh) (w':World) (a':Act) (R':Reach fid p fn.ntmps g0 w0 ⟨qao 0 (ds.map .d),[],Ids.none,0⟩ ⟨us++Array.replicate (fn.ntmps-us.size) undef,[]⟩ g' w' s' a')=>qHw (v:=v) (A:=A) (e:=e) rfl rfl rfl hcore hfr hrs R'
 show x3b.wp P (Exit.then ((Code.seq rg2 (Code.seq rg3 Code.ret)).wp P (bodyPost P fn _)) (bodyPost P fn _)) a4 w4;have slow:(qaP call p n (qfF R0 d1 d2 d3 srt cmp).rest s).bind (fun r2=>match r2.1 with| .exit _=>none|_=>(finish 0 p r2.2 (qfF R0 d1 d2 d3 srt cmp).results).bind fun q=>match q.v with| .d v=>some (v,q.A)|_=>none)=some (v,A)->
  x3b.wp P (Exit.then ((Code.seq rg2 (Code.seq rg3 Code.ret)).wp P (bodyPost P fn (fun e w'=>∃u g',e= .returned u/\Post fid (from_ p 0) g0 w0 Ids.none ⟨.d v,A,[]⟩ u g' w'))) (bodyPost P fn (fun e w'=>∃u g',e= .returned u/\Post fid (from_ p 0) g0 w0 Ids.none ⟨.d v,A,[]⟩ u g' w'))) a4 w4:=by
  intro h;obtain⟨⟨e5,s5⟩,h5,h6⟩:=yb_.1 h;simp only[qfF,qaP]at h5;obtain⟨⟨ec,sc⟩,h7,h8⟩:=yb_.1 h5;refine qgf hcall hm (.cond (.t 42) (.region false 0 [3,4,5] [⟨some 43,.move (.t 5),none,[]⟩,⟨some 44,.call false (.c (.fn srt [])) [.t 43,.c (.fn cmp [])],none,[]⟩]) .skip) x3b g4 w4 _ s sc ec (n:=n) o3b R.core R.regs R.size (qbO R.step R.le hfr) (by simpa only[qaP]using h7) _ fun g5 w5 a5 R5=> ?_
  have R':=R.trans R5;cases ec with
  |exit id=>
   simp only[Option.some.injEq,Prod.mk.injEq]at h8;obtain⟨rfl,rfl⟩:=h8;simp at h6
  |ret=>
   simp only[Option.some.injEq,Prod.mk.injEq]at h8;obtain⟨rfl,rfl⟩:=h8;exact fin .ret sc g5 w5 a5 R' h6
  |normal=>
   show(Code.seq rg2 (Code.seq rg3 Code.ret)).wp P _ a5 w5;refine qgf hcall hm (.seq (.region false 0 [3,4] [⟨some 45,.move (.t 5),none,[]⟩,⟨some 46,.fieldAddr 2 (.t 3),none,[]⟩,⟨none,.store false 1 (.t 46) (.t 45),none,[]⟩])
    (.seq (.region false 0 [4] [⟨some 47,.load true 3 (.t 3),none,[]⟩,⟨none,.store false 3 (.t 4) (.t 47),none,[]⟩]) .ret)) _ g5 w5 _ sc s5 e5 (n:=n) (by simp only[qaW,o4,o5,Bool.and_self]) R'.core R'.regs R'.size (qbO R'.step R'.le hfr) (by simpa only[qaP]using h8) _ fun g6 w6 a6 R6=> ?_
   exact fin e5 s5 g6 w6 a6 (R'.trans R6) h6
 split at h2
 ·rename_i i sz x xr q1 q2
  obtain⟨y,h3,h4⟩:=yb_.1 h2;obtain⟨q,h5,h6⟩:=ya_.1 h4;simp only[Prod.mk.injEq]at h6;obtain⟨rfl,rfl⟩:=h6;refine qM7 hcall hm o3b o4 o5 rfl rfl rfl hcore hfr R q1 q2 h3 h5 _ fun g' w' a' s' R' hf=> ?_
  exact fin .ret s' g' w' a' R' (by show(finish 0 p s' [.cell 4 true 3]).bind _=_;rw[hf];rfl)
 ·exact slow h2
 ·exact slow h2
 ·simp at h2
end Go.Proofs.YtbcbkiaineacpaaGreat.VS
namespace Go.Proofs.YtbcbkiaineacpaaGreat.VS
open Go.WideShapes
def start(w:World)(M:Nat):Gh:=⟨fun b=>if b<w.heap.size then M else 0,fun _=>none,fun _=>none⟩
theorem qyc{fid:Nat->FuncId}(w:World)(M:Nat):Core fid (start w M) w [] Ids.none:=
 ⟨fun i b h=>by simp[start]at h,fun i j b h=>by simp[start]at h,fun a h=>by simp[Ids.none]at h,fun a a' b x x' h=>by simp[Ids.none]at h,fun b hb=>by simp[start];omega⟩
theorem qss(w:World)(M:Nat)(p:Id):qiX (start w M) p 0:=fun _ _ _=>rfl
theorem qyy{fid:Nat->FuncId}{N:Id->Prop}{w w':World}{M:Nat}{r:Res}{u:Value}{g':Gh}(h:Post fid N (start w M) w Ids.none r u g' w'):RowKit.Below w.heap.size w w':=
 ⟨h.step.os,h.step.tape,h.step.output,h.step.size,fun b hb=>(h.step.keep b hb (fun i h=>by simp[start]at h) (fun a h=>by simp[Ids.none]at h)).1⟩
variable {P:Program}
def qbQ(P:Program)(t:TypeId)(cs:List DV):DV:=
 match P.underlying t with
 |some (.struct _)=> .agg cs
 |_=>cs.headD (.bool false)
inductive Shape(P:Program):TypeId->List DV->Prop where
 |int {t:TypeId} {k:IntKind} {n:Int}:P.underlying t=some (.int k)->(Lit.int k n).wf=true->Shape P t [.int k n]
 |bool {t:TypeId} {b:Bool}:P.underlying t=some .bool->Shape P t [.bool b]
 |str {t:TypeId} {s:ByteArray}:P.underlying t=some .string->s.size<=maxLen->Shape P t [.str s]
 |nil {t e:TypeId}:P.underlying t=some (.slice e)->Shape P t [.sl .nil []]
 |row {t e:TypeId} {xs:List DV}:P.underlying t=some (.slice e)->xs.length<=maxLen->(∀x:DV,x∈xs->x=qbQ P e x.cells)->(∀x:DV,x∈xs->Shape P e x.cells)->Shape P t [.sl .sub xs]
 |struct {t:TypeId} {fs:Array Field} {cs:List DV}:P.underlying t=some (.struct fs)->cs.length=P.cellsOf t->(∀f:Field,f∈fs.toList->Shape P f.type ((cs.drop f.offset).take (P.cellsOf f.type)))->Shape P t cs
def layout(P:Program):List Field->Nat->Nat->Bool
 | [],o,n=>o==n
 |f::r,o,n=>f.offset==o&&layout P r (o+P.cellsOf f.type) n
def okT(P:Program)(S:List TypeId)(t:TypeId):Bool:=
 match P.underlying t with
 |some (.int _)|some .bool|some .string=>P.cellsOf t==1
 |some (.slice e)=>S.contains e&&P.cellsOf t==1
 |some (.struct fs)=>fs.toList.all (fun f=>S.contains f.type)&&layout P fs.toList 0 (P.cellsOf t)
 |_=>false
def VRs(w:World)(M0:Nat)(ds:List DV)(cs:List Value):Prop:=
 ds.length=cs.length/\(∀v:DV,v∈ds->v.isCell=true)/\∀M,M0<=M->∀(j:Nat) (v:DV) (u:Value),ds[j]?=some v->cs[j]?=some u->VR (start w M) w v u
theorem VRs.one{w:World}{M0:Nat}{v:DV}{u:Value}(hc:v.isCell=true)(h:∀M,M0<=M->VR (start w M) w v u):VRs w M0 [v] [u]:=
 ⟨rfl,fun x hx=>by simp at hx;subst hx;exact hc,fun M hM j x y h1 h2=>by
  cases j with
  |zero=>simp at h1 h2;subst h1;subst h2;exact h M hM
  |succ j=>simp at h1⟩
theorem bound(f:Nat->Nat):∀n,∃M,∀i,i<n->f i<=M
 |0=>⟨0,fun i h=>by omega⟩
 |n+1=>by
  obtain⟨M,h⟩:=bound f n;refine⟨max M (f n),fun i hi=> ?_⟩;rcases Nat.lt_or_ge i n with h1|h1
  ·exact Nat.le_trans (h i h1) (Nat.le_max_left _ _)
  ·have:i=n:=by omega
   subst this;exact Nat.le_max_right _ _
theorem fields{w:World}{cs:List Value}{n:Nat}:∀(l:List Field) (o:Nat),layout P l o n=true->
 (∀f:Field,f∈l->∃(dsf:List DV) (M0:Nat),dsf.length=P.cellsOf f.type/\Shape P f.type dsf/\VRs w M0 dsf ((cs.drop f.offset).take (P.cellsOf f.type)))->
 ∃(ds:List DV) (M0:Nat),o<=n/\ds.length=n-o/\(∀f:Field,f∈l->o<=f.offset/\Shape P f.type ((ds.drop (f.offset-o)).take (P.cellsOf f.type)))/\VRs w M0 ds ((cs.drop o).take (n-o))
 | [],o,hl,_=>by
  simp[layout]at hl;subst hl
  exact⟨[],0,Nat.le_refl _,by simp,fun f hf=>by simp at hf,by simp,fun v hv=>by simp at hv,fun M _ j v u h=>by simp at h⟩
 |f::r,o,hl,h=>by
  simp[layout]at hl;obtain⟨hof,hl⟩:=hl;obtain⟨dsf,M1,h1,h2,h3⟩:=h f (by simp);obtain⟨ds,M2,h4,h5,h6,h7⟩:=fields r _ hl fun f' hf'=>h f' (by simp[hf'])
  refine⟨dsf++ds,max M1 M2,by omega,by simp;omega,fun f' hf'=> ?_,?_,?_,?_⟩
  ·rcases List.mem_cons.1 hf' with rfl|hf'
   ·refine⟨by omega,?_⟩
    rw[hof,Nat.sub_self,List.drop_zero,<-h1,List.take_append_of_le_length (Nat.le_refl _),List.take_length];exact h2
   ·obtain⟨h8,h9⟩:=h6 f' hf'
    refine⟨by omega,?_⟩;have:(dsf++ds).drop (f'.offset-o)=ds.drop (f'.offset-(o+P.cellsOf f.type)):=by
     rw[show f'.offset-o=dsf.length+(f'.offset-(o+P.cellsOf f.type))by omega,List.drop_append];simp
    rw[this];exact h9
  ·have q1:=h3.1
   have q2:=h7.1;simp at q1 q2⊢
   omega
  ·intro v hv
   rcases List.mem_append.1 hv with hv|hv
   ·exact h3.2.1 v hv
   ·exact h7.2.1 v hv
  ·intro M hM j v u hj hu
   have hM1:M1<=M:=Nat.le_trans (Nat.le_max_left _ _) hM;have hM2:M2<=M:=Nat.le_trans (Nat.le_max_right _ _) hM;rcases Nat.lt_or_ge j dsf.length with hlt|hge
   ·rw[ye_ hlt]at hj
    refine h3.2.2 M hM1 j v u hj ?_;rw[List.getElem?_take]at hu⊢
    rw[hof];split at hu
    ·rw[if_pos (by omega)];exact hu
    ·simp at hu
   ·rw[yd_ hge]at hj
    refine h7.2.2 M hM2 (j-dsf.length) v u hj ?_;rw[List.getElem?_take]at hu⊢
    split at hu
    ·rw[if_pos (by omega),List.getElem?_drop]
     rw[List.getElem?_drop]at hu;rw[show o+P.cellsOf f.type+(j-dsf.length)=o+j by omega];exact hu
    ·simp at hu
theorem qzA{w:World}{base:Nat}{a:Addr}{n:Nat}{cs:List Value}(h:w.cells? base a n=some cs):cs.length=n/\∀j,j<n->w.cell? (a.add j)=cs[j]?:=by
 unfold World.cells? at h;split at h
 ·have hl:=mapM_some_length h
  simp at hl;refine⟨hl,fun j hj=> ?_⟩;have:=mapM_some_get h j j (by simp[hj]);exact this
 ·simp at h
theorem qze{t:TypeId}{ds:List DV}(hs:Shape P t ds)(hc:∀v:DV,v∈ds->v.isCell=true):(qbQ P t ds).cells=ds:=by
 cases hs with
 |struct hu hl hf=>simp[qbQ,hu,DV.cells]
 |int hu hw=>simp[qbQ,hu,DV.cells]
 |bool hu=>simp[qbQ,hu,DV.cells]
 |str hu hw=>simp[qbQ,hu,DV.cells]
 |nil hu=>simp[qbQ,hu,DV.cells]
 |row hu _ _ _=>simp[qbQ,hu,DV.cells]
theorem qFP{H:Type}{enc:TypeId×Value->H}{w:World}{sp:Nat->Bool}{held:Bool}{S:List TypeId}(hS:∀t,t∈S->okT P S t=true):
 ∀(fuel:Nat) (t:TypeId) (cs:List Value) (x:DataW H×List MemPlace),t∈S->DataW.trod enc P w 0 sp held fuel t cs=some x->
  ∃(ds:List DV) (M0:Nat),ds.length=P.cellsOf t/\Shape P t ds/\VRs w M0 ds cs
 |0,t,cs,x,_,h=>by simp[DataW.trod]at h
 |fuel+1,t,cs,x,ht,h=>by
  have hok:=hS t ht;unfold okT at hok;split at hok
  ·rename_i k hu
   obtain⟨n,rfl,_,hw⟩:=DataW.trod_int hu h;simp at hok;exact⟨[.int k n],0,by simp[hok],.int hu hw,.one rfl fun _ _=> .int k n⟩
  ·rename_i hu
   obtain⟨b,rfl,_⟩:=DataW.trod_bool hu h;simp at hok;exact⟨[.bool b],0,by simp[hok],.bool hu,.one rfl fun _ _=> .bool b⟩
  ·rename_i hu
   obtain⟨s,rfl,_,hw⟩:=DataW.trod_string hu h;simp at hok;exact⟨[.str s],0,by simp[hok],.str hu hw,.one rfl fun _ _=> .str s⟩
  ·rename_i e hu
   simp at hok;obtain⟨he,h1⟩:=hok;rcases DataW.trod_slice hu h with⟨rfl,_⟩|⟨a,len,cap,elems,rest,n,hn,rfl,_,_,hl,hm,hlen,hel,_,_⟩
   ·exact⟨[.sl .nil []],0,by simp[h1],.nil hu,.one rfl fun _ _=> .nil⟩
   ·obtain rfl:fuel=n:=by omega
    have hone:∀i,i<len->∃(ds:List DV) (M0:Nat) (ucs:List Value),ds.length=P.cellsOf e/\Shape P e ds/\VRs w M0 ds ucs/\∀j,j<P.cellsOf e->w.cell? ((a.add (i*P.cellsOf e)).add j)=ucs[j]?:=by
     intro i hi;have h2:=hel i hi;have h3:elems[i]?=some elems[i]:=by simp[hlen,hi]
     rw[h3]at h2;obtain⟨ucs,h4,h5⟩:=yb_.1 h2;obtain⟨h6,h7⟩:=qzA h4;obtain⟨ds,M0,q1,q2,q3⟩:=qFP hS fuel e ucs _ he h5;exact⟨ds,M0,ucs,q1,q2,q3,h7⟩
    have:∃(D:Nat->List DV) (Mf:Nat->Nat) (Uf:Nat->List Value),∀i,i<len->(D i).length=P.cellsOf e/\Shape P e (D i)/\VRs w (Mf i) (D i) (Uf i)/\∀j,j<P.cellsOf e->w.cell? ((a.add (i*P.cellsOf e)).add j)=(Uf i)[j]?:=by
     refine⟨fun i=>if hi:i<len then(hone i hi).choose else [],fun i=>if hi:i<len then(hone i hi).choose_spec.choose else 0,fun i=>if hi:i<len then(hone i hi).choose_spec.choose_spec.choose else [],fun i hi=> ?_⟩;simp only[hi,dite_true];exact(hone i hi).choose_spec.choose_spec.choose_spec
    obtain⟨D,Mf,Uf,hD⟩:=this;obtain⟨M1,hM1⟩:=bound Mf len;have hcellD:∀i,i<len->(qbQ P e (D i)).cells=D i:=fun i hi=>qze (hD i hi).2.1 (hD i hi).2.2.1.2.1
    have hsp0:0<len*P.cellsOf e->a.spot=none:=by
     intro hk;have hs0:0<P.cellsOf e:=by
      rcases Nat.eq_zero_or_pos (P.cellsOf e)with h0|h0
      ·rw[h0]at hk;simp at hk
      ·exact h0
     have hl0:0<len:=by
      rcases Nat.eq_zero_or_pos len with h0|h0
      ·rw[h0]at hk;simp at hk
      ·exact h0
     obtain⟨d1,d2,d3,d4⟩:=hD 0 hl0;have d5:=d4 0 hs0;have hul:(Uf 0).length=P.cellsOf e:=by rw[<-d3.1];exact d1
     rw[List.getElem?_eq_getElem (by omega)]at d5;have e1:(a.add (0*P.cellsOf e)).add 0=a:=by simp[Addr.add]
     rw[e1]at d5;unfold World.cell? at d5;split at d5
     ·split at d5
      ·simp at d5
      ·rename_i hh;simpa using hh
     ·simp at d5
    have hspot:∀k,k<len*P.cellsOf e->a.spot=none/\∃u,w.cell? (a.add k)=some u/\(Uf (k/P.cellsOf e))[k%P.cellsOf e]?=some u:=by
     intro k hk;have hs0:0<P.cellsOf e:=by
      rcases Nat.eq_zero_or_pos (P.cellsOf e)with h0|h0
      ·rw[h0]at hk;simp at hk
      ·exact h0
     have hi:k/P.cellsOf e<len:=Nat.div_lt_of_lt_mul (by rw[Nat.mul_comm];exact hk);have hj:k%P.cellsOf e<P.cellsOf e:=Nat.mod_lt _ hs0;obtain⟨d1,d2,d3,d4⟩:=hD _ hi;have d5:=d4 _ hj;have hul:(Uf (k/P.cellsOf e)).length=P.cellsOf e:=by rw[<-d3.1];exact d1
     rw[List.getElem?_eq_getElem (by omega)]at d5;have hsp:a.spot=none:=hsp0 (by omega);rw[add_add _ _ _ hsp,Nat.mul_comm,Nat.div_add_mod]at d5;exact⟨hsp,_,d5,by rw[List.getElem?_eq_getElem (by omega)]⟩
    refine⟨[.sl .sub ((List.range len).map fun i=>qbQ P e (D i))],max M1 (a.off+len*P.cellsOf e),by simp[h1],?_,.one rfl fun M hM=> ?_⟩
    ·refine .row hu (by simp;omega) (fun x hx=> ?_) (fun x hx=> ?_)
     ·simp only[List.mem_map,List.mem_range]at hx
      obtain⟨i,hi,rfl⟩:=hx;rw[hcellD i hi]
     ·simp only[List.mem_map,List.mem_range]at hx
      obtain⟨i,hi,rfl⟩:=hx;rw[hcellD i hi];exact(hD i hi).2.1
    ·have key:VR (start w M) w (.sl .sub ((List.range len).map fun i=>qbQ P e (D i))) (.slice (some a) ((List.range len).map fun i=>qbQ P e (D i)).length cap):=by
      refine .row .sub _ a cap (P.cellsOf e) (fun k=>(w.cell? (a.add k)).getD undef) (by simp) (by simpa using hl) hm (fun k hk=> ?_) ?_ (fun i x hx=> ?_) (fun i x j v hx hj=> ?_) (by simp)
      ·simp at hk
       obtain⟨_,u,h2,_⟩:=hspot k hk;rw[h2];rfl
      ·simp only[List.length_map,List.length_range]
       rcases Nat.eq_zero_or_pos (len*P.cellsOf e)with h0|h0
       ·exact .inl h0
       ·right
        obtain⟨hsp,u,h2,_⟩:=hspot 0 h0;have hb:a.block<w.heap.size:=by
         unfold World.cell? at h2;rw[add_block]at h2;split at h2
         ·rename_i hh
          exact(Array.getElem?_eq_some_iff.1 hh).1
         ·simp at h2
        simp only[start,hb,if_true];exact Nat.le_trans (Nat.le_max_right _ _) hM
      ·simp only[List.getElem?_map]at hx
       obtain⟨i',h2,rfl⟩:=ya_.1 hx;have hi:i<len:=by have:=(List.getElem?_eq_some_iff.1 h2).1;simpa using this
       have:i'=i:=by have:=(List.getElem?_eq_some_iff.1 h2).2;simp at this;omega
       subst this;rw[hcellD _ hi];exact⟨(hD _ hi).1,(hD _ hi).2.2.1.2.1⟩
      ·simp only[List.getElem?_map]at hx
       obtain⟨i',h2,rfl⟩:=ya_.1 hx;have hi:i<len:=by have:=(List.getElem?_eq_some_iff.1 h2).1;simpa using this
       have:i'=i:=by have:=(List.getElem?_eq_some_iff.1 h2).2;simp at this;omega
       subst this;rw[hcellD _ hi]at hj;obtain⟨d1,d2,d3,d4⟩:=hD _ hi;have hj':j<P.cellsOf e:=by rw[<-d1];exact(List.getElem?_eq_some_iff.1 hj).1
       have hk:i'*P.cellsOf e+j<len*P.cellsOf e:=by
        have:=Nat.mul_le_mul_right (P.cellsOf e) (show i'+1<=len by omega);rw[Nat.add_mul]at this;omega
       obtain⟨hsp,u,h3,h4⟩:=hspot _ hk;rw[h3];have e1:(i'*P.cellsOf e+j)/P.cellsOf e=i':=by
        rw[Nat.mul_comm,Nat.mul_add_div (by omega),Nat.div_eq_of_lt hj'];rfl
       have e2:(i'*P.cellsOf e+j)%P.cellsOf e=j:=by
        rw[Nat.mul_comm,Nat.mul_add_mod,Nat.mod_eq_of_lt hj']
       rw[e1,e2]at h4;exact d3.2.2 M (Nat.le_trans (hM1 _ hi) (Nat.le_trans (Nat.le_max_left _ _) hM)) j v u hj h4
     simpa using key
  ·rename_i fs hu
   simp only[Bool.and_eq_true,List.all_eq_true]at hok;obtain⟨h1,h2⟩:=hok;obtain⟨xs,n,hn,_,hl,hxl,hx⟩:=DataW.trod_struct hu h;obtain rfl:fuel=n:=by omega
   obtain⟨ds,M0,_,q1,q2,q3⟩:=fields (w:=w) (cs:=cs) fs.toList 0 h2 fun f hf=>by
    obtain⟨i,hi⟩:=Array.mem_iff_getElem?.1 (Array.mem_toList_iff.1 hf);have h4:=hx i f hi;have h5:i<xs.length:=by rw[hxl];exact(Array.getElem?_eq_some_iff.1 hi).1
    rw[List.getElem?_eq_getElem h5]at h4;obtain⟨dsf,M0,r1,r2,r3⟩:=qFP hS fuel f.type _ _ (by simpa using h1 f hf) h4;exact⟨dsf,M0,r1,r2,r3⟩
   refine⟨ds,M0,by simpa using q1,.struct hu (by simpa using q1) (fun f hf=>by simpa using (q2 f hf).2),?_⟩;rw[List.drop_zero,Nat.sub_zero,<-hl,List.take_length]at q3;exact q3
  ·simp at hok
theorem qzL{H:Type}{enc:TypeId×Value->H}{w:World}{sp:Nat->Bool}{held:Bool}{S:List TypeId}(hS:S.all (okT P S)=true){t:TypeId}{v:Value}{d:DataW H}{ps:List MemPlace}(ht:S.contains t=true)
 {r:Go.Reach} {b0:Nat} (hval:Value.okWide P w r b0 t v) (h:DataW.Trod enc P w 0 sp held t v d ps):
 ∃(ds:List DV) (M0:Nat),ds.length=P.cellsOf t/\Shape P t ds/\∀M,M0<=M->VR (start w M) w (qbQ P t ds) v:=by
 obtain⟨fuel,h⟩:=h;have hS':∀t,t∈S->okT P S t=true:=fun t ht=>List.all_eq_true.1 hS t ht
 have ht':t∈S:=by simpa using ht
 obtain⟨ds,M0,h1,h2,h3⟩:=qFP hS' fuel t _ _ ht' h;refine⟨ds,M0,h1,h2,fun M hM=> ?_⟩;have hok:=hS' t ht';have one:∀(x:DV),v.cells= #[v]->ds=[x]->VR (start w M) w x v:=by
  intro x h4 h5;subst h5;exact h3.2.2 M hM 0 x v rfl (by rw[h4];rfl)
 unfold okT at hok;split at hok
 ·rename_i k hu
  obtain⟨n,rfl⟩:=okWide_int hu hval;simp at hok;obtain⟨x,rfl⟩:=List.length_eq_one_iff.1 (h1.trans hok);simpa[qbQ,hu]using one x rfl rfl
 ·rename_i hu
  obtain⟨n,rfl⟩:=okWide_bool hu hval;simp at hok;obtain⟨x,rfl⟩:=List.length_eq_one_iff.1 (h1.trans hok);simpa[qbQ,hu]using one x rfl rfl
 ·rename_i hu
  obtain⟨n,rfl⟩:=okWide_string hu hval;simp at hok;obtain⟨x,rfl⟩:=List.length_eq_one_iff.1 (h1.trans hok);simpa[qbQ,hu]using one x rfl rfl
 ·rename_i e hu
  obtain⟨a,len,cap,rfl⟩:=okWide_slice hu hval;simp at hok;obtain⟨x,rfl⟩:=List.length_eq_one_iff.1 (h1.trans hok.2);simpa[qbQ,hu]using one x rfl rfl
 ·rename_i fs hu
  simp only[Value.okWide,hu]at hval;obtain⟨cs,rfl,h4,_⟩:=hval;simp only[qbQ,hu];refine .agg ds cs (by rw[h4,h1]) h3.2.1 fun j x u hj hu'=>h3.2.2 M hM j x u hj ?_
  simpa[Value.cells]using hu'
 ·simp at hok
end Go.Proofs.YtbcbkiaineacpaaGreat.VS
namespace Go.Proofs.YtbcbkiaineacpaaGreat.VS
open Go.ChangeShapes Go.WideShapes Go.ChangeAt Go.RowKit
def qL8(P:Program):List TypeId->List (List DV)->Prop
 | [],[]=>True
 |t::ts,x::xs=>(x.length=P.cellsOf t/\Shape P t x)/\qL8 P ts xs
 |_,_=>False
def qgI(P:Program):List TypeId->List (List DV)->List AV
 |t::ts,x::xs=> .d (qbQ P t x)::qgI P ts xs
 |_,_=>[]
variable {P:Program} {fid:Nat->FuncId}
theorem qnF:∀{ts:List TypeId} {xs:List (List DV)},qL8 P ts xs->(qgI P ts xs).length=ts.length
 | [],[],_=>rfl
 |t::ts,x::xs,h=>by simp[qgI,qnF h.2]
 | [],_::_,h=>h.elim
 |_::_,[],h=>h.elim
theorem ql4{H:Type}{enc:TypeId×Value->H}{w:World}{sp:Nat->Bool}{held:Bool}{S:List TypeId}(hS:S.all (okT P S)=true){r:Go.Reach}{b0:Nat}:
 ∀(ts:List TypeId) (vs:List Value) (ds:List (DataW H)) (ps:List MemPlace),ts.all (S.contains ·)=true->DataW.TrodAll enc P w 0 sp held ts vs ds ps->(∀(j:Nat) t v,ts[j]?=some t->vs[j]?=some v->Value.okWide P w r b0 t v)->
  ∃(xs:List (List DV)) (M0:Nat),qL8 P ts xs/\vs.length=ts.length/\ds.length=ts.length/\∀M,M0<=M->∀(j:Nat) (v:AV) (u:Value),(qgI P ts xs)[j]?=some v->vs[j]?=some u->AVR fid (start w M) w v u
 | [],[],[],ps,_,_,_=>⟨[],0,trivial,rfl,rfl,fun M _ j v u h=>by simp[qgI]at h⟩
 |t::ts,v::vs,d::ds,ps,hts,h,hv=>by
  obtain⟨p,q,h1,h2,rfl⟩:=h;simp only[List.all_cons,Bool.and_eq_true]at hts;obtain⟨x,M1,x1,x2,x3⟩:=qzL hS hts.1 (hv 0 t v rfl rfl) h1;obtain⟨xs,M2,y1,y2,y3,y4⟩:=ql4 hS ts vs ds q hts.2 h2 fun j t v h3 h4=>hv (j+1) t v h3 h4
  refine⟨x::xs,max M1 M2,⟨⟨x1,x2⟩,y1⟩,by simp[y2],by simp[y3],fun M hM j a u ha hu=> ?_⟩;cases j with
  |zero=>
   simp[qgI]at ha hu;subst ha;subst hu
   exact .d _ _ (x3 M (Nat.le_trans (Nat.le_max_left _ _) hM))
  |succ j=>
   simp[qgI]at ha hu;exact y4 M (Nat.le_trans (Nat.le_max_right _ _) hM) j a u ha hu
 | [],_::_,_,_,_,h,_=>h.elim
 | [],[],_::_,_,_,h,_=>h.elim
 |_::_,[],_,_,_,h,_=>h.elim
 |_::_,_::_,[],_,_,h,_=>h.elim
theorem ql5{H:Type}{enc:TypeId×Value->H}(hl:laidOutB P=true){W W':World}(hb:Below W.heap.size W W'):
 ∀(ts:List TypeId) (vs:List Value) (ds:List (DataW H)) (ps:List MemPlace),ts.all (fun t=>P.readableRec t&&decide (t<P.types.size))=true->DataW.TrodAll enc P W 0 (fun _=>true) true ts vs ds ps->
  DataW.TrodAll enc P W' 0 (fun b=>decide (b<W.heap.size)) true ts vs ds ps
 | [],[],[],ps,_,h=>h
 |t::ts,v::vs,d::ds,ps,hts,h=>by
  have hlt:=DataW.TrodAll.lt h;obtain⟨p,q,h1,h2,rfl⟩:=h;simp only[List.all_cons,Bool.and_eq_true,decide_eq_true_eq]at hts;exact⟨p,q,Below.trod hl hts.1.1 hts.1.2 h1 hb fun x hx=>hlt x (List.mem_append_left _ hx),ql5 hl hb ts vs ds q hts.2 h2,rfl⟩
 | [],_::_,_,_,_,h=>h.elim
 | [],[],_::_,_,_,h=>h.elim
 |_::_,[],_,_,_,h=>h.elim
 |_::_,_::_,[],_,_,h=>h.elim
theorem qyS{H:Type}{enc:TypeId×Value->H}{C:Checked}{os:Os}{f k:Nat}{fn:Func}{s:ChangeSpec}{conds:List PathCond}{E:Env}{S:List TypeId}{tb:TypeId}
 (hE:EnvOK C.prog fid E) (own:ownKnob C.prog.godebug=none) (started:os.Started) (hlaid:laidOutB C.prog=true) (hk:fid k=f) (noInit:C.prog.inits.idxOf? f=none) (hfn:C.prog.funcs[f]?=some fn)
 (hvars:s.vars=[]) (hS:S.all (okT C.prog S)=true) (hps:fn.params.toList.all (S.contains ·)=true) (hps2:fn.params.toList.all (fun t=>C.prog.readableRec t&&decide (t<C.prog.types.size))=true)
 (hres:fn.resultTypes= #[tb]) (hb:C.prog.underlying tb=some .bool) (hspec:∀ds:List (DataW H),ds.length=fn.params.size->s.fn H ds={results:=[.lit (.bool true)],args:=ds})
 (witness:∃(w:World) (tape:Tape) (i:Input),w.os=os/\(w.forCall tape i).Shaped C.prog/\i.vars=[]/\Input.okWide C.prog (w.forCall tape i) .any w.heap.size f i/\
  s.pre6 enc C.prog fn conds false (w.forCall tape i).memory i.args/\({}:Assume).holds C.prog (lone (Frame.enter C.prog f i.args .normal) [] (w.forCall tape i)))
 (plain:∀xs:List (List DV),qL8 C.prog fn.params.toList xs->∃A B,qzI E [] k (qgI C.prog fn.params.toList xs) [] Ids.none=some ⟨.d (.bool true),A,B⟩):
 ReturnsInHanded {} C os f .any (s.pre6 enc C.prog fn conds false) (s.post enc C.prog fn false true false false):=by
 refine returnsInHanded_of_change_sized own started noInit hfn witness ?_;intro W base args ds gs before hval hW hcnd hsz _;have hW':=hW;obtain⟨p,q,hA,hV,rfl,hfz,hnd⟩:=hW;rw[hvars]at hV;obtain⟨rfl,rfl⟩:=trodVars_none hV;obtain⟨xs,M,a1,a2,a3,a4⟩:=ql4 (fid:=fid) hS fn.params.toList args.toList ds p hps hA (fun j t v h1 h2=>hval j t v (by simpa using h1) (by simpa using h2));obtain⟨A,B,key⟩:=plain xs a1;obtain⟨_,hc⟩:=qJh hE _ _ _ _ _ _ key;rw[hk]at hc;refine(hc (start W M) W args (by rw[qnF a1];simpa using a2) (fun j v u h1 h2=>a4 M (Nat.le_refl _) j v u h1 (by simpa using h2)) (qyc W M) (qss W M [])).mono fun e W' ⟨u,g',he,hp⟩=> ?_
 have hu:u= .bool true:=qdl hp.val;have bel:=qyy hp;subst he;subst hu
 have hds:s.fn H (ds++[])={results:=[.lit (.bool true)],args:=ds}:=by
  rw[List.append_nil];exact hspec ds (by simpa using a3)
 refine⟨_,rfl,ds,[],_,[],p,[],hW',?_,?_,?_,bel.frame _,fun h=>by cases h⟩
 ·rw[hds,hres]
  exact trodAll_mk1 (shut_bool hb _)
 ·rw[hds]
  exact ql5 hlaid bel _ _ _ _ hps2 hA
 ·rw[hds,hvars]
  rfl
theorem qkb{t:TypeId}{k:IntKind}{x:List DV}(hu:P.underlying t=some (.int k))(h:Shape P t x):∃n,x=[.int k n]/\(Lit.int k n).wf=true:=by
 cases h with
 |int h hw=>rw[hu]at h;simp at h;subst h;exact⟨_,rfl,hw⟩
 |bool h=>rw[hu]at h;simp at h
 |str h=>rw[hu]at h;simp at h
 |nil h=>rw[hu]at h;simp at h
 |row h=>rw[hu]at h;simp at h
 |struct h=>rw[hu]at h;simp at h
theorem qyk{t:TypeId}{x:List DV}(hu:P.underlying t=some .bool)(h:Shape P t x):∃b,x=[.bool b]:=by
 cases h with
 |int h hw=>rw[hu]at h;simp at h
 |bool h=>exact⟨_,rfl⟩
 |str h=>rw[hu]at h;simp at h
 |nil h=>rw[hu]at h;simp at h
 |row h=>rw[hu]at h;simp at h
 |struct h=>rw[hu]at h;simp at h
theorem qBG{t:TypeId}{x:List DV}(hu:P.underlying t=some .string)(h:Shape P t x):∃s:ByteArray,x=[.str s]/\s.size<=maxLen:=by
 cases h with
 |int h hw=>rw[hu]at h;simp at h
 |bool h=>rw[hu]at h;simp at h
 |str h hw=>exact⟨_,rfl,hw⟩
 |nil h=>rw[hu]at h;simp at h
 |row h=>rw[hu]at h;simp at h
 |struct h=>rw[hu]at h;simp at h
theorem qka{t e:TypeId}{x:List DV}(hu:P.underlying t=some (.slice e))(h:Shape P t x):∃g xs,x=[.sl g xs]/\xs.length<=maxLen/\(g= .nil->xs=[])/\(∀y:DV,y∈xs->y=qbQ P e y.cells)/\∀y:DV,y∈xs->Shape P e y.cells:=by
 cases h with
 |int h hw=>rw[hu]at h;simp at h
 |bool h=>rw[hu]at h;simp at h
 |str h hw=>rw[hu]at h;simp at h
 |nil h=>exact⟨.nil,[],rfl,by simp,fun _=>rfl,by simp,by simp⟩
 |row h h1 h2 h3=>rw[hu]at h;simp at h;subst h;exact⟨.sub,_,rfl,h1,by simp,h2,h3⟩
 |struct h=>rw[hu]at h;simp at h
theorem qi8{t:TypeId}{fs:Array Field}{x:List DV}(hu:P.underlying t=some (.struct fs))(h:Shape P t x):x.length=P.cellsOf t/\∀f:Field,f∈fs.toList->Shape P f.type ((x.drop f.offset).take (P.cellsOf f.type)):=by
 cases h with
 |int h hw=>rw[hu]at h;simp at h
 |bool h=>rw[hu]at h;simp at h
 |str h hw=>rw[hu]at h;simp at h
 |nil h=>rw[hu]at h;simp at h
 |row h=>rw[hu]at h;simp at h
 |struct h h1 h2=>rw[hu]at h;simp at h;subst h;exact⟨h1,h2⟩
end Go.Proofs.YtbcbkiaineacpaaGreat.VS
namespace Go.Proofs.YtbcbkiaineacpaaGreat.VS
attribute [simp] qRo qRn qRp qWc qIE qEp qUd qOa qXK qXL qao qE4 qE2 qEW qEY qEZ qE0 qE1 qE3 qEV qEX qzF qzE quk qzC qFK qam qaf qai qtF qy1 qaC qHF qcN qHG qbi qgn qFI qzB qFH qxq qFJ qtG qy2 qzD qFL
def chr(s:ByteArray)(i:Nat):Int:=((s[i]?).map fun b=>(b.toNat:Int)).getD 0
theorem qh8{s:ByteArray}{i:Nat}(h:i<s.size):qlQ s i=some (chr s i):=by
 simp[qlQ,chr,h]
@[simp] theorem qWA(A:Ids):Ids.or Ids.none A=A:=by funext x;simp[Ids.or,Ids.none]
theorem qjI{n:Nat}(h:n<9223372036854775808):IntKind.i64.wrap (n:Int)=n:=wrap_i64 (by omega) (by omega)
theorem qae{n:Nat}(h:n+1<9223372036854775808):IntKind.i64.wrap ((n:Int)+1)=((n+1:Nat):Int):=by
 have:=qjI h;rw[<-this];congr 1
def qb5(es:List DV):List AV:=(flat es).map .d
theorem qja{sz:Nat}{es:List DV}(h:∀x:DV,x∈es->x.cells.length=sz):(qb5 es).length=es.length*sz:=by
 simp[qb5,qck h]
theorem qmx{sz i:Nat}{es:List DV}{e:DV}(h:∀x:DV,x∈es->x.cells.length=sz)(he:e.cells.length=sz)(hi:i<es.length):
 splice (qb5 es) (i*sz) (e.cells.map .d)=qb5 (es.set i e):=by
 unfold qb5;rw[qoX i e h he hi];simp[splice,List.map_take,List.map_drop]
theorem qrp:∀(l:List DV),qaG (l.map .d)=some l
 | []=>rfl
 |v::r=>by simp[qaG,qrp r]
theorem qlJ(es:List DV):qaG (qb5 es)=some (flat es):=qrp _
def qrk(agg:Bool)(sz:Nat)(x:DV):Prop:=x.cells.length=sz/\x.cells.all DV.isCell=true/\(agg=true->∃cs,x= .agg cs)/\(agg=false->x.cells=[x])
theorem qcG{agg:Bool}{sz:Nat}:∀(es:List DV),(∀x:DV,x∈es->qrk agg sz x)->chunks agg sz es.length (flat es)=some es
 | [],_=>rfl
 |x::r,h=>by
  obtain⟨h1,h2,h3,h4⟩:=h x (by simp);have ih:=qcG r fun y hy=>h y (by simp[hy])
  have hf:flat (x::r)=x.cells++flat r:=rfl;have hcut:cut agg sz (flat (x::r))=some x:=by
   rw[hf];cases agg with
   |true=>
    obtain⟨cs,rfl⟩:=h3 rfl;simp only[DV.cells]at h1⊢
    simp[cut,<-h1]
   |false=>
    have:=h4 rfl;rw[this];simp[cut]
  have hd:(flat (x::r)).drop sz=flat r:=by rw[hf,<-h1];simp
  simp only[List.length_cons,chunks,hcut,Option.bind_some,h1,h2,and_self,if_true,hd,ih,Option.map_some]
def filled(es:List DV)(z:DV)(i:Nat):List DV:=es.take i++List.replicate (es.length-i) z
theorem qgt(es:List DV)(z:DV)(i:Nat):(filled es z i).length=es.length:=by simp[filled];omega
theorem qni(es:List DV)(z:DV)(i:Nat)(h:i<es.length):(filled es z i).set i es[i]=filled es z (i+1):=by
 unfold filled;have e1:es.length-i=(es.length-(i+1))+1:=by omega
 have hl:(es.take i).length=i:=by simp;omega
 rw[List.set_append_right _ _ (by omega),hl,Nat.sub_self,e1,List.replicate_succ,List.set_cons_zero,List.take_succ_eq_append_getElem h,yh_];rfl
theorem qlE(es:List DV)(z:DV):filled es z 0=List.replicate es.length z:=by simp[filled]
theorem qnj(es:List DV)(z:DV):filled es z es.length=es:=by simp[filled]
theorem qem{sz:Nat}{es:List DV}{z:DV}(h:∀x:DV,x∈es->x.cells.length=sz)(hz:z.cells.length=sz)(i:Nat):∀x:DV,x∈filled es z i->x.cells.length=sz:=by
 intro x hx;rcases List.mem_append.1 hx with hx|hx
 ·exact h x (List.mem_of_mem_take hx)
 ·rw[(List.mem_replicate.1 hx).2];exact hz
end Go.Proofs.YtbcbkiaineacpaaGreat.VS
namespace Go.Proofs.YtbcbkiaineacpaaGreat.VS
variable {P:Program}
theorem wf_i64{n:Int}(h:(Lit.int .i64 n).wf=true): -9223372036854775808<=n/\n<=9223372036854775807:=by
 simp[Lit.wf,IntKind.min,IntKind.max,IntKind.signed,IntKind.bits]at h;omega
structure SymL where
 name:ByteArray
 arity:Int
 ac:Bool
def SymL.cells(s:SymL):List DV:=[.str s.name,.int .i64 s.arity,.bool s.ac]
def SymL.enc(s:SymL):DV:= .agg s.cells
def SymL.ok(s:SymL):Prop:=s.name.size<=maxLen/\-9223372036854775808<=s.arity/\s.arity<=9223372036854775807
def qVt(g:Tag)(l:List SymL):DV:= .sl g (l.map SymL.enc)
def qhV(fs:Array Field):List (TypeId×Nat):=fs.toList.map fun f=>(f.type,f.offset)
theorem qdc{fs:Array Field}{x:List DV}(h:∀f:Field,f∈fs.toList->Shape P f.type ((x.drop f.offset).take (P.cellsOf f.type))){t:TypeId}{o:Nat}(hm:(t,o)∈qhV fs):Shape P t ((x.drop o).take (P.cellsOf t)):=by
 simp only[qhV,List.mem_map]at hm;obtain⟨f,hf,he⟩:=hm;simp at he;obtain⟨rfl,rfl⟩:=he;exact h f hf
theorem qBF{t ts ti tb:TypeId}{fs:Array Field}{x:List DV}(hu:P.underlying t=some (.struct fs))(hf:qhV fs=[(ts,0),(ti,1),(tb,2)])(h1:P.underlying ts=some .string)(h2:P.underlying ti=some (.int .i64))(h3:P.underlying tb=some .bool)
 (hc:P.cellsOf t=3/\P.cellsOf ts=1/\P.cellsOf ti=1/\P.cellsOf tb=1) (h:Shape P t x):∃s:SymL,x=s.cells/\s.ok:=by
 obtain⟨hl,hfs⟩:=qi8 hu h;rw[hc.1]at hl
 match x,hl with
 | [a,b,c],_=>
  have e1:=qdc hfs (t:=ts) (o:=0) (by simp[hf]);have e2:=qdc hfs (t:=ti) (o:=1) (by simp[hf]);have e3:=qdc hfs (t:=tb) (o:=2) (by simp[hf]);rw[hc.2.1]at e1;rw[hc.2.2.1]at e2;rw[hc.2.2.2]at e3
  simp at e1 e2 e3;obtain⟨s,q1,q2⟩:=qBG h1 e1;obtain⟨n,q3,q4⟩:=qkb h2 e2;obtain⟨bb,q5⟩:=qyk h3 e3;simp at q1 q3 q5;subst q1;subst q3;subst q5
  have:=wf_i64 q4;exact⟨⟨s,n,bb⟩,rfl,q2,this.1,this.2⟩
theorem qyj{t e ts ti tb:TypeId}{fs:Array Field}{x:List DV}(ht:P.underlying t=some (.slice e))(hu:P.underlying e=some (.struct fs))(hf:qhV fs=[(ts,0),(ti,1),(tb,2)])(h1:P.underlying ts=some .string)(h2:P.underlying ti=some (.int .i64))(h3:P.underlying tb=some .bool)
 (hc:P.cellsOf e=3/\P.cellsOf ts=1/\P.cellsOf ti=1/\P.cellsOf tb=1) (h:Shape P t x):∃g l,x=[qVt g l]/\l.length<=maxLen/\∀s,s∈l->s.ok:=by
 obtain⟨g,xs,rfl,q1,q2,q3,q4⟩:=qka ht h;have key:∀xs:List DV,(∀y:DV,y∈xs->y=qbQ P e y.cells)->(∀y:DV,y∈xs->Shape P e y.cells)->∃l:List SymL,xs=l.map SymL.enc/\∀s,s∈l->s.ok:=by
  intro xs
  induction xs with
  |nil=>intro _ _;exact⟨[],rfl,by simp⟩
  |cons y r ih=>
   intro q1 q2;obtain⟨l,rfl,hl⟩:=ih (fun z hz=>q1 z (by simp[hz])) (fun z hz=>q2 z (by simp[hz]));obtain⟨s,hs,hok⟩:=qBF hu hf h1 h2 h3 hc (q2 y (by simp));have hy:=q1 y (by simp);rw[hs]at hy;simp[qbQ,hu]at hy;subst hy;refine⟨s::l,rfl,fun m hm=> ?_⟩;rcases List.mem_cons.1 hm with rfl|hm
   ·exact hok
   ·exact hl m hm
 obtain⟨l,rfl,hl⟩:=key xs q3 q4;exact⟨g,l,rfl,by simpa using q1,hl⟩
inductive TT where
 |node (f v:Int) (g:Tag) (kids:List TT)
mutual
def TT.cells:TT->List DV
 | .node f v g ks=>[.int .i64 f,.int .i64 v,.sl g (TT.encs ks)]
def TT.encs:List TT->List DV
 | []=>[]
 |t::r=> .agg t.cells::TT.encs r
end
def TT.enc(t:TT):DV:= .agg t.cells
theorem TT.qdZ:∀l:List TT,TT.encs l=l.map TT.enc
 | []=>by unfold TT.encs;rfl
 |t::r=>by unfold TT.encs;simp[TT.enc,TT.qdZ r]
mutual
def TT.ok:TT->Prop
 | .node f v g ks=>(-9223372036854775808<=f/\f<=9223372036854775807)/\(-9223372036854775808<=v/\v<=9223372036854775807)/\ks.length<=maxLen/\TT.oks ks
def TT.oks:List TT->Prop
 | []=>True
 |t::r=>t.ok/\TT.oks r
end
theorem TT.qph:∀l:List TT,TT.oks l↔∀t,t∈l->t.ok
 | []=>by simp[TT.oks]
 |t::r=>by simp[TT.oks,TT.qph r]
theorem qiw{t tk ti:TypeId}{fs:Array Field}(hu:P.underlying t=some (.struct fs))(hf:qhV fs=[(ti,0),(ti,1),(tk,2)])(h1:P.underlying ti=some (.int .i64))(h2:P.underlying tk=some (.slice t))
 (hc:P.cellsOf t=3/\P.cellsOf ti=1/\P.cellsOf tk=1):∀(n:Nat) (x:List DV),SizeOf.sizeOf x<n->Shape P t x->∃s:TT,x=s.cells/\s.ok
 |0,x,hn,_=>by omega
 |n+1,x,hn,h=>by
  obtain⟨hl,hfs⟩:=qi8 hu h;rw[hc.1]at hl
  match x,hl with
  | [a,b,c],_=>
   have e1:=qdc hfs (t:=ti) (o:=0) (by simp[hf]);have e2:=qdc hfs (t:=ti) (o:=1) (by simp[hf]);have e3:=qdc hfs (t:=tk) (o:=2) (by simp[hf]);rw[hc.2.1]at e1 e2;rw[hc.2.2]at e3
   simp at e1 e2 e3;obtain⟨f,q1,q2⟩:=qkb h1 e1;obtain⟨v,q3,q4⟩:=qkb h1 e2;obtain⟨g,xs,q5,q6,q7,q8,q9⟩:=qka h2 e3;simp at q1 q3 q5;subst q1;subst q3;subst q5
   have key:∀ys:List DV,(∀y:DV,y∈ys->SizeOf.sizeOf y<n+1)->(∀y:DV,y∈ys->y=qbQ P t y.cells)->(∀y:DV,y∈ys->Shape P t y.cells)->∃l:List TT,ys=TT.encs l/\TT.oks l:=by
    intro ys
    induction ys with
    |nil=>intro _ _ _;exact⟨[],by simp[TT.encs],by simp[TT.oks]⟩
    |cons y r ih=>
     intro p0 p1 p2;obtain⟨l,rfl,hl⟩:=ih (fun z hz=>p0 z (by simp[hz])) (fun z hz=>p1 z (by simp[hz])) (fun z hz=>p2 z (by simp[hz]));have hy:=p1 y (by simp);have hsz:=p0 y (by simp);have hlt:SizeOf.sizeOf y.cells<n:=by
      rw[hy]at hsz;simp[qbQ,hu]at hsz;omega
     obtain⟨s,hs,hok⟩:=qiw hu hf h1 h2 hc n y.cells hlt (p2 y (by simp));refine⟨s::l,?_,by simp[TT.oks,hok,hl]⟩;rw[hs]at hy;simp[qbQ,hu]at hy;simp[TT.encs,hy]
   obtain⟨l,rfl,hl'⟩:=key xs (fun y hy=>by
    have:=List.sizeOf_lt_of_mem hy;simp at hn;omega) q8 q9
   have w1:=wf_i64 q2;have w2:=wf_i64 q4;refine⟨.node f v g l,by simp[TT.cells],?_⟩;simp only[TT.ok];refine⟨w1,w2,?_,hl'⟩;simpa[TT.qdZ]using q6
end Go.Proofs.YtbcbkiaineacpaaGreat.VS
