/- The engine, part 3: a call of the program answers what an evaluator of values without memory answers, for the functions whose code is the one that the evaluator is given. -/
import Derived.Test.YtpcoohnjllclnaaGreatEngB
import Derived.Orders
import Derived.ChangeAt
import Derived.Below
import Derived.WideShapes
import Derived.ChangeArms
import Derived.DataReads
import Derived.WalkKit
import Derived.ProofKit
import Derived.OpenShut
import Derived.ChangeOld
import Derived.SizedLaws
set_option linter.unusedSimpArgs false
set_option linter.unusedVariables false
namespace Go.Proofs.YtpcoohnjllclnaaGreat.VS
section
variable {P:Program} {fid:Nat->FuncId}
theorem IA:∀(os:List VOper) (acc:List (List Nat)),
 (∀k,k<acc.length->(jy os acc).getD k []=acc.getD k [])/\
 (∀m o x,os[m]?=some o->x∈(jy os acc).getD (acc.length+m) []->∃j,j∈o.after/\(x=j\/(j<acc.length+m/\x∈(jy os acc).getD j [])))
 | [],acc=>⟨fun k c=>rfl,fun m o x h=>by simp at h⟩
 |o::os,acc=>by
  obtain⟨h1,d⟩:=IA os (acc++[dd (o.after.flatMap fun j=>j::acc.getD j [])]);simp only[jy];have hold:∀k,k<acc.length->(jy os (acc++[dd (o.after.flatMap fun j=>j::acc.getD j [])])).getD k []=acc.getD k []:=by
   intro k c;rw[h1 k (by simp;omega)];simp[List.getD,bY c]
  refine⟨hold,fun m i x hm hx=> ?_⟩;cases m with
  |zero=>
   simp at hm;subst hm
   rw[oM,h1 acc.length (by simp)]at hx;simp only[List.getD,cj (aU _),mq,d9,eE,xG,qv]at hx;obtain⟨j,hj,hx⟩:=hx;refine⟨j,hj,?_⟩;rcases br.1 hx with h|h
   ·exact .inl h
   ·right
    have b:j<acc.length:=by
     rcases dZ j acc.length with a|a
     ·exact a
     ·rw[f8 a]at h;simp at h
    exact⟨by omega,by rw[hold j b];exact h⟩
  |succ m=>
   simp at hm;obtain⟨j,hj,l⟩:=d m i x hm (by
    have e:(acc++[dd (o.after.flatMap fun j=>j::acc.getD j [])]).length+m=acc.length+(m+1):=by simp;omega
    rw[e];exact hx)
   refine⟨j,hj,?_⟩;rcases l with h|⟨h,a⟩
   ·exact .inl h
   ·exact .inr ⟨by simp at h;omega,a⟩
theorem JV{vs:List VOper}{L:Nat->Prop}(l:∀(i:Nat) (o:VOper),vs[i]?=some o->L i->∀j,j∈o.after->L j)(e:∀(i:Nat) (o:VOper),vs[i]?=some o->∀j,j∈o.after->j<i):
 ∀(i:Nat) (o:VOper),vs[i]?=some o->(∀j,j∈o.after->L j)->∀x,x∈(jy vs []).getD i []->L x:=by
 intro i
 induction i using Nat.strongRecOn with
 |_ i c=>
  intro o b ha x hx;obtain⟨j,hj,h⟩:=(IA vs []).2 i o x b (by simpa using hx);rcases h with rfl|⟨h1,d⟩
  ·exact ha _ hj
  ·have a:j<i:=by simpa using h1
   have k:j<vs.length:=by have:=(aK.1 b).1;omega
   exact c j a vs[j] (by simp) (l j vs[j] (by simp) (ha j hj)) x d
theorem KS{cl:List (List Nat)}{i:Nat}{a:VOper}:∀{l:List VOper} {j:Nat},uw cl i a j l=true->∀(m:Nat) (b:VOper),l[m]?=some b->sA cl i (j+m) a b=true
 | [],j,_,m,b,h=>by simp at h
 |c::r,j,h,m,b,hm=>by
  simp only[uw,aF]at h;cases m with
  |zero=>simp at hm;subst hm;exact h.1
  |succ m=>
   have:=KS h.2 m b (by simpa using hm);rw[show j+(m+1)=j+1+m by omega];exact this
theorem Dv{cl:List (List Nat)}:∀{l:List VOper} {i:Nat},uF cl i l=true->∀(m n:Nat) (a b:VOper),m<n->l[m]?=some a->l[n]?=some b->sA cl (i+m) (i+n) a b=true
 | [],i,_,m,n,a,b,_,h,_=>by simp at h
 |c::r,i,h,m,n,a,b,d,hm,hn=>by
  simp only[uF,aF]at h;cases n with
  |zero=>omega
  |succ n=>
   cases m with
   |zero=>
    simp at hm hn;subst hm
    have:=KS h.1 n b hn;rw[show i+0=i by omega,show i+(n+1)=i+1+n by omega];exact this
   |succ m=>
    simp at hm hn;have:=Dv h.2 m n a b (by omega) hm hn;rw[show i+(m+1)=i+1+m by omega,show i+(n+1)=i+1+n by omega];exact this
theorem DU:∀{l:List VOper} {i:Nat},ahead i l=true->∀(m:Nat) (o:VOper),l[m]?=some o->∀j,j∈o.after->j<i+m
 | [],i,_,m,o,h=>by simp at h
 |c::r,i,h,m,o,hm=>by
  simp only[ahead,aF]at h;cases m with
  |zero=>
   simp at hm;subst hm
   intro j hj;simpa using bu.1 h.1 j hj
  |succ m=>
   intro j hj;have:=DU h.2 m o (by simpa using hm) j hj;omega
theorem vE{N:Nat}{ops:Array Oper}:∀{os:List Oper} {vs:List VOper},dI P fid N ops true os vs=true->os.length=vs.length/\∀(i:Nat) (o:Oper) (v:VOper),os[i]?=some o->vs[i]?=some v->
 gS P fid N ops o v=true/\(∀j,j∈v.after↔j∈g_ o)
 | [],[],_=>⟨rfl,fun i o v h=>by simp at h⟩
 |o::os,v::vs,h=>by
  simp only[dI,aF,mb,qp]at h;obtain⟨⟨⟨h1,c⟩,m⟩,k⟩:=h;obtain⟨l,e⟩:=vE k;refine⟨by simp[l],fun i d v' a b=> ?_⟩;cases i with
  |zero=>
   simp at a b;subst a;subst b
   refine⟨h1,fun j=>⟨fun hj=> ?_,fun hj=> ?_⟩⟩
   ·simpa using bu.1 m j hj
   ·simpa using bu.1 c j hj
  |succ i=>simp at a b;exact e i d v' a b
 | [],_::_,h=>by simp[dI]at h
 |_::_,[],h=>by simp[dI]at h
def rest(vs:List VOper)(listed:Array Bool):List (Nat×VOper):=((List.range' 0 vs.length).zip vs).filter fun q=> !listed.getD q.1 true
theorem nO{vs:List VOper}{q:Nat×VOper}(h:q∈(List.range' 0 vs.length).zip vs):vs[q.1]?=some q.2:=by
 obtain⟨i,hi⟩:=c9.1 h;rw[List.getElem?_zip_eq_some]at hi;obtain⟨h1,b⟩:=hi;have c:=aK.1 h1;obtain⟨d,a⟩:=c;simp at a;rw[<-a];exact b
theorem LW{vs:List VOper}{i:Nat}{o:VOper}(h:vs[i]?=some o):
 ∃d b,(List.range' 0 vs.length).zip vs=d++(i,o)::b/\(∀q,q∈d->q.1<i)/\(∀q,q∈b->i<q.1):=by
 have hi:i<vs.length:=(aK.1 h).1;refine⟨(List.range' 0 i).zip (vs.take i),(List.range' (i+1) (vs.length-(i+1))).zip (vs.drop (i+1)),?_,fun q a=> ?_,fun q a=> ?_⟩
 ·have j:List.range' 0 vs.length=List.range' 0 i++i::List.range' (i+1) (vs.length-(i+1)):=by
   have h1:List.range' 0 vs.length=List.range' 0 i++List.range' i (vs.length-i):=by
    have c:= @List.range'_append_1 0 i (vs.length-i);rw[eQ]at c;rw[c]
    congr 1;omega
   rw[h1,show vs.length-i=(vs.length-(i+1))+1 by omega,AC]
  have e:vs=vs.take i++o::vs.drop (i+1):=by
   conv=>lhs;rw[<-List.take_append_drop i vs,cW hi]
   congr 2
   have:=(aK.1 h).2;exact this
  rw[j]
  conv=>lhs;rw[e]
  rw[List.zip_append (by simp;omega),List.zip_cons_cons];simp
  congr 2
  omega
 ·have:=(List.of_mem_zip a).1
  simp at this;omega
 ·have:=(List.of_mem_zip a).1
  simp at this;omega
theorem wP{vs:List VOper}{listed:Array Bool}{i:Nat}{o:VOper}(h:vs[i]?=some o)(c:listed.getD i true=false):
 ∃pre post,rest vs listed=pre++(i,o)::post/\rest vs (listed.setIfInBounds i true)=pre++post/\(∀q,q∈pre->q.1<i/\vs[q.1]?=some q.2/\listed.getD q.1 true=false):=by
 obtain⟨n,e,hb,h1,m⟩:=LW h;have hsz:i<listed.size:=by
  rcases dZ i listed.size with b|b
  ·exact b
  ·simp[bL,BL b]at c
 have same:∀k,k≠i->(listed.setIfInBounds i true).getD k true=listed.getD k true:=fun k l=>by
  simp[bL,jq (Ne.symm l)]
 have self:(listed.setIfInBounds i true).getD i true=true:=by
  simp[bL,hsz]
 refine⟨n.filter fun q=> !listed.getD q.1 true,e.filter fun q=> !listed.getD q.1 true,?_,?_,fun q a=> ?_⟩
 ·unfold rest
  rw[hb,List.filter_append,List.filter_cons];simp only[c,nz,if_true]
 ·unfold rest
  rw[hb,List.filter_append,List.filter_cons];simp only[self,mb,bI,if_false]
  congr 1
  ·exact List.filter_congr fun q a=>by rw[same q.1 (by have:=h1 q a;omega)]
  ·exact List.filter_congr fun q a=>by rw[same q.1 (by have:=m q a;omega)]
 ·obtain⟨d,j⟩:=gK.1 a
  exact⟨h1 q d,nO (by rw[hb];exact kj _ d),by simpa using j⟩
theorem Ij{g:Gh}{w:World}{s s':St}{a:Array Value}(h:s.eqv s')(c:qcY fid g w s.r a):qcY fid g w s'.r a:=fun t v b=>c t v (by rw[h.1 t];exact b)
theorem NP{call:aZ}(a1:gm P fid call){p:Id}{L0 N c:Nat}{ops:Array Oper}{vs:List VOper}(hok:dI P fid N ops true ops.toList vs=true)(G:ip vs=true){sf:St}
 {Q:Exit->Act->World->Prop} {g0:Gh} {w0:World} {A0:Ids} {a0:Act}
 (hQ:∀g' a' w',Core fid g' w' sf.B sf.A->Boxes g0 w0 g'->Step (fun x=>∃q j,c<=j/\j<c+vs.length/\x=q++j::p) g0 w0 A0 g' w' sf.A->qcY fid g' w' sf.r a'.tmps->a'.tmps.size=N->a'.defers=a0.defers->Q .normal a' w'):
 ∀(fuel:Nat) (listed:Array Bool) (g:Gh) (w:World) (a:Act) (s t:St),(rest vs listed).length=fuel->listed.size=vs.length->s.c=c->Core fid g w s.B s.A->qcY fid g w s.r a.tmps->a.tmps.size=N->a.defers=a0.defers->
  Boxes g0 w0 g->Step (fun x=>∃q j,c<=j/\j<c+vs.length/\x=q++j::p) g0 w0 A0 g w s.A->
  (∀i,listed.getD i true=false->∀q,g.row (q++(c+i)::p)=none)->(∀(i:Nat) (o:VOper),vs[i]?=some o->listed.getD i true=true->∀j,j∈o.after->listed.getD j true=true)->
  fk call p L0 (rest vs listed) s=some t->t.eqv sf->wpAny P .any ops Q fuel listed a w:=by
 obtain⟨hlen,hat⟩:=vE hok;simp only[ip,aF]at G;obtain⟨S,V⟩:=G;have z:∀(i:Nat) (o:VOper),vs[i]?=some o->∀j,j∈o.after->j<i:=fun i o h j hj=>by simpa using DU S i o h j hj
 intro fuel
 induction fuel with
 |zero=>
  intro listed g w a s t l hsz hc y hr hN F C d a2 hcl b heq;have hnil:rest vs listed=[]:=mc l;rw[hnil]at b;simp[fk]at b;subst b
  refine⟨?_,hQ g a w (by rw[<-heq.2.1,<-heq.2.2.1];exact y) C (by rw[<-heq.2.2.1];exact d) (Ij heq hr) hN F⟩;rw[Region.ready,List.filter_eq_nil_iff];intro i hi J;simp only[eW]at hi;simp only[aF,fi]at J;have hi':i<vs.length:=by simpa[<-hlen]using hi
  obtain⟨pre,post,h1,_⟩:=wP (vs:=vs) (i:=i) (o:=vs[i]) (by simp) J.1;rw[hnil]at h1;simp at h1
 |succ fuel ih=>
  intro listed g w a s t l hsz hc y hr hN F C d a2 hcl b heq;refine⟨fun R=> ?_,fun i hi=> ?_⟩
  ·
   exfalso;have hne:rest vs listed≠[]:=by intro h;rw[h]at l;simp at l
   obtain⟨q,hq⟩:=md _ hne;have hex:∃i,i<vs.length/\listed.getD i true=false:=by
    obtain⟨h1,h2⟩:=gK.1 hq;have h3:=nO h1;exact⟨q.1,(aK.1 h3).1,by simpa using h2⟩
   have least:∀n,(∃i,i<n/\i<vs.length/\listed.getD i true=false)->∃i,i<vs.length/\listed.getD i true=false/\∀j,j<i->listed.getD j true=true:=by
    intro n
    induction n with
    |zero=>rintro⟨i,h,_⟩;omega
    |succ n ihn=>
     rintro⟨i,h1,h2,h3⟩
     by_cases hl:∃i,i<n/\i<vs.length/\listed.getD i true=false
     ·exact ihn hl
     ·refine⟨i,h2,h3,fun j hj=> ?_⟩
      cases hjl:listed.getD j true with
      |true=>rfl
      |false=>exact absurd ⟨j,by omega,by omega,hjl⟩ hl
   obtain⟨i0,h1,h2⟩:=hex;obtain⟨i,h3,h4,h5⟩:=least (i0+1) ⟨i0,by omega,h1,h2⟩;have x1:i<ops.size:=by have:=hlen;simp at this;omega
   have Y:i∈Region.ready .any ops listed:=by
    rw[Region.ready,gK];refine⟨by simpa using x1,?_⟩;have ho:ops[i]?=some ops[i]:=by simp[x1]
    simp only[h4,ho,nz,eP,bz,eE];rw[pB];intro k K;simp only[ci,fi]
    by_cases hb:Region.binds .any ops[i].after[k]=true
    ·right
     have hj:(ops[i].after[k]).on∈vs[i].after:=by
      rw[(hat i ops[i] vs[i] (by simp[x1]) (by simp)).2];unfold g_;refine bP.2 ⟨ops[i].after[k],gK.2 ⟨by simp,hb⟩,rfl⟩
     have x3:=z i vs[i] (by simp) _ hj;have h6:=h5 _ x3;have h7:(ops[i].after[k]).on<listed.size:=by omega
     simp[bL,h7]at h6⊢
     exact h6
    ·left;simpa using hb
   rw[R]at Y;simp at Y
  ·
   rw[Region.ready,gK]at hi;obtain⟨O,hi2⟩:=hi;simp only[eW]at O;simp only[aF,fi]at hi2;obtain⟨hnl,I⟩:=hi2;have hiv:i<vs.length:=by simpa[<-hlen]using O
   have ho:ops[i]?=some ops[i]:=by simp[O]
   have hv:vs[i]?=some vs[i]:=by simp[hiv]
   obtain⟨hokop,haft⟩:=hat i ops[i] vs[i] (by simp[O]) hv;have X:∀j,j∈vs[i].after->listed.getD j true=true:=by
    intro j hj;rw[haft]at hj;unfold g_ at hj;obtain⟨e,he,rfl⟩:=bP.1 hj;obtain⟨he1,he2⟩:=gK.1 he;rw[ho]at I;simp only[bz,eE]at I;obtain⟨k,K,hke⟩:=AB.1 (uC.1 he1);have:=(pB.1 I) k K;rw[hke]at this;simp only[he2,mb,qp]at this;have x3:e.on<listed.size:=by
     rcases dZ e.on listed.size with h|h
     ·exact h
     ·simp[bL,BL h]at this
    simp[bL,x3]at this⊢
    exact this
   obtain⟨pre,post,hr1,hr2,x2⟩:=wP hv hnl;rw[hr1]at b;have H:∀q,q∈pre->yP q.2 vs[i]:=by
    intro q hq;obtain⟨q1,q2,q3⟩:=x2 q hq;have hp:=Dv V q.1 i q.2 vs[i] q1 q2 hv;simp only[eQ,sA,ci,aF]at hp;rcases hp with hp|⟨⟨hp1,hp2⟩,hp3⟩
    ·exfalso
     have hx:q.1∈(jy vs []).getD i []:=by simpa using hp
     have:=JV (L:=fun k=>listed.getD k true=true) (fun i o h1 h2 j hj=>hcl i o h1 h2 j hj) z i vs[i] hv X q.1 hx;rw[q3]at this;simp at this
    ·exact⟨hp1,hp2,hp3⟩
   obtain⟨s1,t',W,b2,D⟩:=AK H b;have hcs:=xp W;unfold wpOp;rw[ho];simp only;have key:=vX (g:=g) (w:=w) (ops:=ops) a1 y hr hN (fun q=>by rw[hc];exact a2 i hnl q) hokop W (wpAny P .any ops Q fuel (listed.setIfInBounds i true)) Q (fun g1 w1 u c1 b1 st1 r1=>by
    refine ih (listed.setIfInBounds i true) g1 w1 (a.put ops[i].dst u) s1 t' ?_ (by simpa using hsz) (by rw[hcs,hc]) c1 r1 (by rw[fN];exact hN) (by rw[put_defers];exact F) (C.trans d.size b1) (d.trans C (st1.weaken (fun x ⟨q,hx⟩=>⟨q,s.c+i,by omega,by omega,hx⟩))) (fun k K q=> ?_) (fun k o K hkl j hj=> ?_) (by rw[hr2];exact b2) ?_
    ·rw[hr2]
     have h8:=li List.length hr1;simp only[dz,cB]at h8⊢
     omega
    ·have M:k≠i:=by
      intro h;subst h
      have:k<listed.size:=by omega
      simp[bL,this]at K
     have hk':listed.getD k true=false:=by
      rw[<-K];simp[bL,jq (Ne.symm M)]
     exact Bb st1 (by omega) (fun q=>a2 k hk' q) q
    ·have Z:∀m,listed.getD m true=true->(listed.setIfInBounds i true).getD m true=true:=by
      intro m hm
      by_cases hmi:m=i
      ·subst hmi
       have:m<listed.size:=by omega
       simp[bL,this]
      ·have e:(listed.setIfInBounds i true).getD m true=listed.getD m true:=by
        simp[bL,jq (Ne.symm hmi)]
       rw[e];exact hm
     by_cases M:k=i
     ·subst M
      rw[hv]at K;simp at K;subst K
      exact Z j (X j hj)
     ·have:listed.getD k true=true:=by
       have e:(listed.setIfInBounds i true).getD k true=listed.getD k true:=by
        simp[bL,jq (Ne.symm M)]
       rw[<-e];exact hkl
      exact Z j (hcl k o K this j hj)
    ·refine⟨fun x=> ?_,?_,?_,?_⟩
     ·rw[<-D.1 x];exact heq.1 x
     ·rw[<-D.2.1];exact heq.2.1
     ·rw[<-D.2.2.1];exact heq.2.2.1
     ·rw[<-D.2.2.2];exact heq.2.2.2)
   split
   ·rename_i hw
    rw[ap hw]at key;exact .inl key
   ·rename_i hw
    rw[ak hw]at key;exact key
end
section
variable {P:Program} {fid:Nat->FuncId}
theorem uo{sz:Nat}:∀(xs:List DV),(∀x,x∈xs->x.cells.length=sz)->∀(k:Nat) (v:DV),(xs.flatMap DV.cells)[k]?=some v->∃(i:Nat) (x:DV) (j:Nat),xs[i]?=some x/\x.cells[j]?=some v/\k=i*sz+j/\j<sz
 | [],_,k,v,h=>by simp at h
 |x::r,hs,k,v,h=>by
  simp only[ei]at h;have hx:=hs x (by simp)
  by_cases a:k<sz
  ·rw[bY (by omega)]at h
   exact⟨0,x,k,rfl,h,by simp,a⟩
  ·rw[cj (by omega),hx]at h
   obtain⟨i,y,j,h1,b,d,c⟩:=uo r (fun y hy=>hs y (by simp[hy])) _ _ h;exact⟨i+1,y,j,by simpa using h1,b,by rw[c_];omega,c⟩
theorem wJ{sz:Nat}:∀(xs:List DV),(∀x,x∈xs->x.cells.length=sz)->(xs.flatMap DV.cells).length=xs.length*sz
 | [],_=>by simp
 |x::r,hs=>by
  simp only[ei,dz,cB,hs x (by simp),wJ r (fun y hy=>hs y (by simp[hy]))];rw[c_];omega
theorem qNt{g:Gh}{w:World}{c r:DV}{u:Value}(h1:VR g w c u)(a:VR g w r u)(hc:c.isCell=true)(b:r.isCell=true):c.like r=true:=by
 cases c<;>cases r<;>first|rfl|(simp[DV.isCell]at hc;done)|(simp[DV.isCell]at b;done)|((cases h1<;>cases a);done)|(cases h1;cases a;simp[DV.like])
theorem nS{A:Ids}{a:Id}{rs:List DV}:∀{cs:List DV},DV.rests A a rs cs=true->∀v:DV,v∈cs->v.rest A a rs=true
 | [],_,v,b=>by simp at b
 |c::r,h,v,b=>by
  simp only[DV.rests,aF]at h;rcases br.1 b with rfl|b
  ·exact h.1
  ·exact nS h.2 v b
theorem qxz{A:Ids}{a:Id}{rs:List DV}{x:DV}(h:x.rest A a rs=true)(v:DV)(b:v∈x.cells):v.rest A a rs=true:=by
 cases x with
 |agg cs=>simp only[DV.rest]at h;exact nS h v b
 |_=>simp only[DV.cells,bC]at b;subst b;exact h
theorem LD{g g2:Gh}{w:World}{A:Ids}{a:Id}{b:Nat}{rs:List DV}(D:g2.row=g.row)(hK:∀x,x≠b->g2.K x=g.K x)
 (hb:∃arr e,w.heap[b]?=some (.cells arr e (0,0))/\∀(k:Nat) (u:Value),k<g.K b->arr[k]?=some u->∃r:DV,r∈rs/\r.isCell=true/\VR g w r u)
 (G:∀a' x,A a'=true->a'≠a->g.row a'=some x->x.1≠b) {v:DV} {u:Value} (h:VR g w v u):v.rest A a rs=true->VR g2 w v u:=by
 induction h with
 |int k n=>intro _;exact .int k n
 |bool k=>intro _;exact .bool k
 |str s=>intro _;exact .str s
 |agg cs us hs hc _ q=>
  intro p;simp only[DV.rest]at p;exact .agg cs us hs hc fun j v u hj J=>q j v u hj J (nS p v (bU hj))
 |tup cs us hs _ q=>
  intro p;simp only[DV.rest]at p;exact .tup cs us hs fun j v u hj J=>q j v u hj J (nS p v (bU hj))
 |nil=>intro _;exact .nil
 |row t xs ad c s U ht X hm d C hc W o q=>
  intro p;simp only[DV.rest,aF,ci]at p;obtain⟨h1,V⟩:=p;refine .row t xs ad c s U ht X hm d ?_ hc (fun i x j v hi hj=>q i x j v hi hj (qxz (nS V x (bU hi)) v (bU hj))) (fun a sz ha=>by rw[D];exact o a sz ha)
  by_cases l:ad.block=b
  ·rcases h1 with(h1|h1)|h1
   ·left
    have:xs=[]:=by simpa using h1
    simp[this]
   ·obtain⟨c0,I,H⟩:=Ea.1 h1
    obtain⟨k,R⟩:=c9.1 I;have hlen:∀x,x∈xs->x.cells.length=s:=fun x hx=>by
     obtain⟨i,hi⟩:=c9.1 hx;exact(hc i x hi).1
    obtain⟨i,x,j,N,O,q3,q4⟩:=uo xs hlen k c0 R;have y:k<xs.length*s:=by rw[<-wJ xs hlen];exact(aK.1 R).1
    have h3:ad.off+xs.length*s<=g.K ad.block:=by
     rcases C with h|h
     ·omega
     ·exact h
    obtain⟨arr,e,Y,b2⟩:=hb;have hcl:=d k y;have z:arr[ad.off+k]?=some (U k):=by
     unfold World.cell? at hcl;rw[add_block,l,Y]at hcl;simp only[mi]at hcl;split at hcl
     ·simp at hcl
     ·exact hcl
    obtain⟨r,r1,r2,Z⟩:=b2 (ad.off+k) (U k) (by rw[<-l];omega) z;have F:=W i x j c0 N O;rw[<-q3]at F;have M:c0.isCell=true:=(hc i x N).2 c0 (bU O);have:=qNt F Z M r2;have m:=bu.1 H r r1;rw[this]at m;simp at m
   ·cases t with
    |own Q sz=>
     simp only[aF,fi,j9]at h1;obtain⟨o1,o2,o3,S,o5⟩:=o Q sz rfl;exact absurd l (G Q _ h1.1 h1.2 S)
    |nil=>simp at h1
    |sub=>simp at h1
  ·rw[hK _ l];exact C
theorem T8{g g2:Gh}{w:World}{A:Ids}{a:Id}{b:Nat}{rs:List DV}(p:g2.row=g.row)(t:∀x,x≠b->g2.K x=g.K x)(m:∀i l,g.bx i=some l->g2.bx i=some l)
 (hb:∃arr e,w.heap[b]?=some (.cells arr e (0,0))/\∀(k:Nat) (u:Value),k<g.K b->arr[k]?=some u->∃r:DV,r∈rs/\r.isCell=true/\VR g w r u)
 (s:∀a' x,A a'=true->a'≠a->g.row a'=some x->x.1≠b) {v:AV} {u:Value} (h:AVR fid g w v u) (q:v.rest A a rs=true):AVR fid g2 w v u:=by
 cases h with
 |d v u h=>exact .d _ _ (LD p t hb s h q)
 |ptr i off l h=>exact .ptr i off l (m _ _ h)
 |ep cs ad U h1 o y=>simp[AV.rest]at q
 |nilp=>exact .nilp
 |fn f cap us h1 o=>
  cases cap with
  |nil=>exact .fn f [] us h1 (fun j v u h=>by simp at h)
  |cons c r=>simp[AV.rest]at q
 |bsl id ag i sz n l h=>exact .bsl id ag i sz n l (m _ _ h)
 |tsl ag i sz n c l h h1 o=>exact .tsl ag i sz n c l (m _ _ h) h1 o
 |ag cs us h1 o=>simp[AV.rest]at q
 |tp cs us h1 o=>simp[AV.rest]at q
 |und=>exact .und
theorem CX{g:Gh}{w:World}{B:ah}{A:Ids}(hc:Core fid g w B A){a:Id}{sz:Nat}{x:DV}{xs:List DV}{u:Value}(ha:A a=true)(Q:VR g w (.sl (.own a sz) (x::xs)) u):
 ∃b c arr e,u= .slice (some ⟨b,0,none⟩) (xs.length+1) c/\g.row a=some (b,xs.length+1,c,sz)/\w.heap[b]?=some (.cells arr e (0,0))/\c*sz<=arr.size/\g.K b=(xs.length+1)*sz/\xs.length+1<=c/\c<=maxLen/\
  (∀i,g.bx i≠some b)/\((x::xs).flatMap DV.cells).length=(xs.length+1)*sz/\(∀d:DV,d∈(x::xs).flatMap DV.cells->d.isCell=true)/\
  (∀(k:Nat) (d:DV) (D:Value),((x::xs).flatMap DV.cells)[k]?=some d->arr[k]?=some D->VR g w d D):=by
 cases Q with
 |row _ _ ad c s U Z hle hm h hK q l o=>
  obtain⟨G,N,W,t,o5⟩:=o a sz rfl;subst W;obtain⟨b',n',c',m,arr,e,I,M,V,Y,q5,O⟩:=hc.opn a ha;rw[I]at t;simp only[aB,di]at t;obtain⟨rfl,rfl,rfl,rfl⟩:=t;have p:ad=⟨ad.block,0,none⟩:=by cases ad;simp at G N;simp[G,N]
  have hlen:∀y,y∈x::xs->y.cells.length=m:=fun y hy=>by
   obtain⟨i,hi⟩:=c9.1 hy;exact(q i y hi).1
  have n:=wJ _ hlen;refine⟨ad.block,c',arr,e,by rw[<-p];rfl,I,M,V,by rw[Y];simp,hle,hm,O,by rw[n];simp,fun d hd=> ?_,fun k d D r S=> ?_⟩
  ·obtain⟨k,r⟩:=c9.1 hd
   obtain⟨i,y,j,h1,z,J,X⟩:=uo _ hlen k d r;exact(q i y h1).2 d (bU z)
  ·obtain⟨i,y,j,h1,z,J,X⟩:=uo _ hlen k d r
   have F:k<(x::xs).length*m:=by rw[<-n];exact(aK.1 r).1
   have C:=h k F;have R:w.cell? (ad.add k)=arr[k]?:=by
    rw[p,lm];simp[World.cell?,M]
   rw[R,S]at C;simp only[aB]at C;have H:=l i y j d h1 z;rw[<-J,<-C]at H;exact H
def Gh.foc(b idx:Nat)(g:Gh):Gh:={K:=fun x=>if x=b then 0 else g.K x,row:=g.row,bx:=fun i=>if i=idx then some b else g.bx i}
theorem My{g:Gh}{w:World}{B D:ah}{A:Ids}(hc:Core fid g w B A){a:Id}{b c n sz idx:Nat}{arr:Array Value}{e:TypeId}{rs:List DV}(ha:A a=true)(t:g.row a=some (b,n,c,sz))(hb:w.heap[b]?=some (.cells arr e (0,0)))(hsz:c*sz<=arr.size)(hn:n<=c)
 (r:∀i,g.bx i≠some b) (F:g.bx idx=none) (S:rs.length=n*sz) (q:∀d:DV,d∈rs->d.isCell=true) (z:∀(k:Nat) (d:DV) (I:Value),rs[k]?=some d->arr[k]?=some I->VR (g.foc b idx) w d I) (m:D[idx]?=some (some (rs.map .d)))
 (s:∀i l,g.bx i=some l->∃cs arr e,D[i]?=some (some cs)/\w.heap[l]?=some (.cells arr e (0,0))/\cs.length<=arr.size/\(∀(j:Nat) (v:AV) (u:Value),cs[j]?=some v->arr[j]?=some u->AVR fid (g.foc b idx) w v u)/\(∀v,v∈cs->v.isCell=true/\v.safe i=true)):
 Core fid (g.foc b idx) w D (Ids.del a A):=by
 refine⟨fun i l h=> ?_,fun i j l h1 m=> ?_,fun a' p=> ?_,fun a1 R l x x' h1 m=> ?_,fun l C=> ?_⟩
 ·simp only[Gh.foc]at h
  split at h
  ·rename_i hi
   subst hi;simp only[aB]at h;subst h
   refine⟨rs.map .d,arr,e,m,hb,?_,fun j v u hj V=> ?_,fun v O=> ?_,by simp[Gh.foc]⟩
   ·rw[dK,S];exact cN (fb _ hn) hsz
   ·simp only[cH]at hj
    obtain⟨d,hd,rfl⟩:=au.1 hj;exact .d _ _ (z j d u hd V)
   ·obtain⟨d,hd,rfl⟩:=bP.1 O
    exact⟨q d hd,a_ _ _⟩
  ·obtain⟨cs,arr',G,Q,W,X,Z,M⟩:=s i l h
   obtain⟨_,_,_,_,_,_,_,_,J⟩:=hc.box i l h;have o:l≠b:=fun he=>r i (by rw[<-he];exact h)
   exact⟨cs,arr',G,Q,W,X,Z,M,by simp only[Gh.foc,ak o];exact J⟩
 ·simp only[Gh.foc]at h1 m
  split at h1<;>split at m
  ·omega
  ·simp only[aB]at h1;subst h1;exact absurd m (r j)
  ·simp only[aB]at m;subst m;exact absurd h1 (r i)
  ·exact hc.inj i j l h1 m
 ·simp only[Ids.del,aF,fi,j9]at p
  obtain⟨l,n',c',y,arr',G,H,o2,Y,K,o5,N⟩:=hc.opn a' p.2;have o:l≠b:=fun he=>p.1 (hc.apart a' a b _ _ p.2 ha (by rw[H,he]) t)
  refine⟨l,n',c',y,arr',G,H,o2,Y,by simp only[Gh.foc,ak o];exact K,o5,fun i hi=> ?_⟩;simp only[Gh.foc]at hi;split at hi
  ·simp only[aB]at hi;exact o hi.symm
  ·exact N i hi
 ·simp only[Ids.del,aF]at h1 m
  exact hc.apart a1 R l x x' h1.2 m.2
 ·simp only[Gh.foc]
  split
  ·rfl
  ·exact hc.K0 l C
end
section
variable {P:Program} {fid:Nat->FuncId}
theorem Va{s s1:St}{new:Id}{sz bytes:Nat}{g m:Tag}{xs:List DV}{z u:DV}{n:AV}(hnil:g= .nil->xs=[])(hz:z.cells.length=sz/\z.cells.all DV.isCell=true)(h:eO s new sz bytes (.sl g xs) (.sl m [u])=some (n,s1)):
 n= .d (.sl (.own new sz) (xs++[u]))/\eO s new sz bytes (.sl g xs) (.sl m [z])=some (.d (.sl (.own new sz) (xs++[z])),s1)/\s1.r=s.r/\s1.B=s.B/\s1.c=s.c/\s1.A new=true/\
  (∀a,s.A a=true->s1.A a=true\/((∃j,g= .own a j)/\xs≠[])):=by
 have k:([z]:List DV).all (fun e=>decide (e.cells.length=sz/\e.cells.all DV.isCell=true))=true:=by
  simp only[fM,List.all_nil,mp,ba];exact hz
 unfold eO at h⊢
 simp only at h⊢
 split at h
 ·simp only[iV,bI,if_false]at h
  rw[ap k];simp only[iV,bI,if_false];split at h
  ·rename_i hb
   have l:(xs.length+[z].length)*bytes<=140737488355328:=hb;rw[ap l];cases g with
   |nil=>
    have:=hnil rfl;subst this;simp only[aB,di]at h;obtain⟨rfl,rfl⟩:=h;exact⟨rfl,rfl,rfl,rfl,rfl,by simp[Ids.add],fun b hb=> .inl (by simp[Ids.add,hb])⟩
   |sub=>simp at h
   |own a j=>
    simp only at h⊢
    cases xs with
    |nil=>
     simp only[List.isEmpty_nil,if_true,aB,di]at h;obtain⟨rfl,rfl⟩:=h;exact⟨rfl,rfl,rfl,rfl,rfl,by simp[Ids.add],fun b hb=> .inl (by simp[Ids.add,hb])⟩
    |cons x r=>
     simp only[iV,bI,if_false]at h⊢
     split at h
     ·rename_i hc
      rw[ap hc];simp only[aB,di]at h;obtain⟨rfl,rfl⟩:=h;refine⟨rfl,rfl,rfl,rfl,rfl,by simp[Ids.add],fun b hb=> ?_⟩
      by_cases i:b=a
      ·subst i;exact .inr ⟨⟨_,rfl⟩,by simp⟩
      ·exact .inl (by simp[Ids.add,Ids.del,hb,i])
     ·simp at h
  ·simp at h
 ·simp at h
theorem ns(a:Act)(d t:Nat)(u:Value)(h:t≠d):(a.put (some d) u).tmps.getD t undef=a.tmps.getD t undef:=by
 rw[lN,ak (fun hh=>h (by simpa using hh.1.symm))]
theorem rR(a:Act)(d:Nat)(u:Value)(h:d<a.tmps.size):(a.put (some d) u).tmps.getD d undef=u:=by
 rw[lN,ap ⟨rfl,h⟩]
theorem K8{o:Oper}(h:o.guard.isNone=true)(l:Nat->Option Bool):Region.wanted o l=true:=by
 unfold Region.wanted;cases hg:o.guard with
 |none=>rfl
 |some q=>rw[hg]at h;simp at h
theorem Xo{op:Op}{sz bytes:Nat}{x y:VX}(h:aC P fid op (.append sz bytes x y)=true):∃c a,bB fid c x=true/\bB fid a y=true:=by
 cases op with
 |call d=>
  obtain⟨callee,args,argTypes⟩:=d;cases callee with
  |builtin b=>
   cases b with
   |append=>
    simp only[aC]at h;split at h
    ·rename_i c a t i ha e
     simp only[aF,ba]at h;exact⟨c,a,h.1.1.1,h.1.1.2⟩
    ·simp at h
   |_=>simp[aC]at h
  |_=>simp[aC]at h
 |_=>simp[aC]at h
theorem Nc{g:Gh}{w:World}{r:List (Nat×AV)}{a:Act}{b t9:Nat}{u8 u9:Value}{o:Operand}{x:VX}{v:AV}(l:qcY fid g w r a.tmps)(h1:x.tmps.contains b=false)(j:x.tmps.contains t9=false)(i:bB fid o x=true)(hx:x.get r=some v):
 AVR fid g w v (((a.put (some b) u8).put (some t9) u9).eval o):=by
 cases x with
 |c c0=>
  have e:qcY fid g w [] ((a.put (some b) u8).put (some t9) u9).tmps:=by intro t v h;simp[lk]at h
  exact bq e i hx
 |t t=>
  simp only[VX.tmps,List.contains_cons,List.contains_nil,oN,Cm]at h1 j;have d:qcY fid g w [(t,v)] ((a.put (some b) u8).put (some t9) u9).tmps:=by
   intro k v' h;simp only[lk]at h;split at h
   ·rename_i he
    simp only[aB]at h;subst h;subst he
    rw[ns _ _ _ _ (fun he=>j he.symm),ns _ _ _ _ (fun he=>h1 he.symm)];exact l k v hx
   ·simp at h
  exact bq d i (by simp[VX.get,lk])
theorem LH{sz:Nat}:∀{xs:List DV},(∀q:DV,q∈xs->q.cells.length=sz)->∀{i:Nat} {x:DV} {j:Nat} {v:DV},xs[i]?=some x->x.cells[j]?=some v->(xs.flatMap DV.cells)[i*sz+j]?=some v
 | [],_,i,x,j,v,h,_=>by simp at h
 |y::ys,hs,i,x,j,v,h,hj=>by
  simp only[ei];cases i with
  |zero=>
   simp only[d9,aB]at h;subst h
   rw[bY (by have:=(aK.1 hj).1;omega)];simpa using hj
  |succ i=>
   simp only[lH]at h;have hy:=hs y (by simp);rw[cj (by rw[hy,c_];omega),hy,show(i+1)*sz+j-sz=i*sz+j by rw[c_];omega];exact LH (fun q a=>hs q (by simp[a])) h hj
theorem Zy{g:Gh}{w:World}{v:DV}{u:Value}(h:VR g w v u)(hc:∀c:DV,c∈v.cells->c.isCell=true):u.cells.size=v.cells.length/\∀(m:Nat) (c:DV) (x:Value),v.cells[m]?=some c->u.cells[m]?=some x->VR g w c x:=by
 have ha:(AV.d v).cells.all AV.isCell=true:=by
  cases v with
  |agg cs=>simp only[AV.cells,List.all_map,bu];intro c b;exact hc c b
  |tup vs=>have:=hc (.tup vs) (by simp[DV.cells]);simp[DV.isCell]at this
  |_=>rfl
 obtain⟨h1,e,_⟩:=rn (fid:=fun _=>0) (.d _ _ h) ha;refine⟨by rw[h1];cases v<;>simp[AV.cells,DV.cells],fun m c x a i=> ?_⟩;have j:(AV.d v).cells[m]?=some (.d c):=by
  cases v with
  |agg cs=>simp only[AV.cells,DV.cells,cH]at a⊢;rw[a];rfl
  |_=>
   simp only[AV.cells,DV.cells]at a⊢
   cases m with
   |zero=>simp at a⊢;exact a
   |succ m=>simp at a
 exact cX (e m _ x j i)
theorem XN{call:aZ}{p:Id}{L0 i N:Nat}{g:Gh}{w:World}{a:Act}{s s':St}{o8 o9 W:Oper}{vo:VOper}
 (G:Core fid g w s.B s.A) (hr:qcY fid g w s.r a.tmps) (hN:a.tmps.size=N) (hfr:∀q,g.row (q++(s.c+i)::p)=none) (hok:DJ P fid N o8 o9 W vo=true) (hv:dn call p false L0 i vo s=some s'):
 ∃(I t9:Nat) (u8:Value) (b off:Nat) (arr arr':Array Value) (e:TypeId) (w1:World) (g2:Gh),o8.dst=some I/\o9.dst=some t9/\W.dst=none/\o8.guard.isNone=true/\o9.guard.isNone=true/\W.guard.isNone=true/\
  (∃n,(execOp a.eval o8).run P w= .ok n w1/\(n= .value u8\/(n= .skip/\u8=undef)))/\
  (∀ww:World,(execOp (a.put (some I) u8).eval o9).run P ww= .ok (.value (.pointer (some ⟨b,off,none⟩))) ww)/\w1.heap[b]?=some (.cells arr e (0,0))/\
  (∀ww:World,ww.heap[b]?=some (.cells arr e (0,0))->(execOp ((a.put (some I) u8).put (some t9) (.pointer (some ⟨b,off,none⟩))).eval W).run P ww= .ok .skip (ww.setRow b arr'))/\
  (∀X l,g2.bx X=some l->l≠b)/\
  Core fid g2 (w1.setRow b arr') s'.B s'.A/\Boxes g w g2/\Step (under (s.c+i) p) g w s.A g2 (w1.setRow b arr') s'.A/\qcY fid g2 (w1.setRow b arr') s'.r ((a.put (some I) u8).put (some t9) (.pointer (some ⟨b,off,none⟩))).tmps:=by
 unfold DJ at hok;split at hok
 rotate_left
 ·simp at hok
 rename_i vo0 I sz bytes x y ix v t9 af;simp only[aF,eJ,ba,fi]at hok;obtain⟨⟨⟨⟨⟨⟨⟨⟨⟨⟨⟨⟨⟨⟨k1,k2⟩,k3⟩,k4⟩,k5⟩,k6⟩,k7⟩,k8⟩,k9⟩,k10⟩,k11⟩,k12⟩,k13⟩,k14⟩,k15⟩:=hok;have hv':aP call p false L0 i ⟨some I,.append1 sz bytes x y ix v t9,none,af⟩ s=some s':=by
  unfold dn at hv;simpa[cJ]using hv
 simp only[aP]at hv';split at hv'
 rotate_left
 ·simp at hv'
 rename_i gx xs gy z kk n wv e1 e2 e3 e4;split at hv'
 rotate_left
 ·simp at hv'
 rename_i hc;obtain⟨-,hn,hz1,hz2,hw1,hw2,ht9⟩:=hc;obtain⟨⟨rv,s1⟩,hap,hs'⟩:=au.1 hv';simp only at hs';obtain⟨px,py,hpx,hpy⟩:=Xo k9;have hxv:=cX (bq (w:=w) hr hpx e1);have hnil:gx= .nil->xs=[]:=by
  intro he;subst he
  generalize a.eval px=q0 at hxv;cases hxv with
  |nil=>rfl
  |row _ _ _ _ _ _ ht=>exact absurd rfl ht
 have hf0:g.row ((s.c+i)::p)=none:=by have:=hfr [];simpa using this
 obtain⟨rfl,hapz,hs1r,hs1B,hs1c,M,hold⟩:=Va hnil ⟨hz1,hz2⟩ hap;subst hs';have b2:I<a.tmps.size:=by rw[hN];exact k4
 have hd8:∀d,o8.dst=some d->d<a.tmps.size:=fun d hd=>by
  rw[k1]at hd;have:=sE hd;rw[<-this];exact b2
 obtain⟨D,hheap,F⟩:=HQ (call:=call) (p:=p) (draw:=false) (L0:=L0) (i:=i) (s':=s1.put (some I) (.d (.sl (.own ((s.c+i)::p) sz) (xs++[z])))) (gd:=none) (af:=[]) G hr hd8 k9 (by rw[k1];simp only[aP,e1,e2,hapz,bz]) hf0;obtain⟨nx,u8,w1,g1,run8,res8,c1,b1,st1,r1⟩:=D;simp only at hheap F;obtain⟨bn,ln,cn,hun,F⟩:=F gx xs gy [z] e1 e2 (by simp);rw[ge]at c1;rw[db]at c1 st1;have hnx:nx= .value u8\/(nx= .skip/\u8=undef):=res8;rw[k1]at r1;have hu8:AVR fid g1 w1 (.d (.sl (.own ((s.c+i)::p) sz) (xs++[z]))) u8:=by
  have h:=r1 I (.d (.sl (.own ((s.c+i)::p) sz) (xs++[z]))) (by simp[St.put,lk]);rw[rR a I u8 b2]at h;exact h
 obtain⟨y0,ys0,hy0⟩:∃y0 ys0,xs++[z]=y0::ys0:=by
  cases xs with
  |nil=>exact⟨_,_,rfl⟩
  |cons q r=>exact⟨_,_,rfl⟩
 have hlen:ys0.length+1=xs.length+1:=by have:=li List.length hy0;simp at this;omega
 have hu8':=cX hu8;rw[hy0]at hu8';obtain⟨b,c,arr,e,hu,Z,hb,hsz,hKb,hnc,hm,hnb,hfl,hfc,hrel⟩:=CX c1 M hu8';rw[hlen]at hu Z hKb hnc hfl;rw[<-hy0]at hfl hfc hrel;have V:∀q:DV,q∈xs++[z]->q.cells.length=sz:=by
  cases hu8' with
  |row _ _ ad cc ss U ht hl hm' hcell hK' hcs hvs hown=>
   obtain⟨_,_,rfl,_,_⟩:=hown _ _ rfl;intro q hq;rw[hy0]at hq;obtain⟨j,hj⟩:=c9.1 hq;exact(hcs j q hj).1
 have hxl:(xs.flatMap DV.cells).length=xs.length*sz:=wJ xs fun q hq=>V q (by simp[hq])
 have hoff:xs.length*sz+sz<=arr.size:=by
  have h1:(xs.length+1)*sz<=c*sz:=fb _ hnc;rw[c_]at h1;omega
 have hu9:∀ww:World,(execOp (a.put (some I) u8).eval o9).run P ww= .ok (.value (.pointer (some ⟨b,xs.length*sz,none⟩))) ww:=by
  intro ww;obtain⟨dst9,op9,ty9,pos9,after9,guard9⟩:=o9;cases op9 with
  |indexAddr t yy jj=>
   simp only[aC,aF]at k10;obtain⟨⟨q1,q2⟩,q3⟩:=k10;split at q3
   ·rename_i el he
    simp only[ba]at q3;have hue:=p8 he;obtain⟨ti,hti,hsz'⟩:=ql q3;have hyy:(a.put (some I) u8).eval yy=u8:=by
     cases yy with
     |tmp t'=>
      simp only[bB,eJ]at q1;subst q1
      exact rR a _ u8 b2
     |_=>simp[bB]at q1
    have hjj:(a.put (some I) u8).eval jj= .int kk n:=by
     cases ix with
     |c c0=>
      have hr0:qcY fid g w [] (a.put (some I) u8).tmps:=by intro t v h;simp[lk]at h
      exact ek (bq hr0 q2 e3)
     |t t'=>
      simp only[VX.tmps,List.contains_cons,List.contains_nil,oN,Cm]at k12;have hr3:qcY fid g w [(t',.d (.int kk n))] (a.put (some I) u8).tmps:=by
       intro t2 v2 Q;simp only[lk]at Q;split at Q
       ·rename_i he2
        simp only[aB]at Q;subst Q;subst he2
        rw[ns _ _ _ _ (fun he3=>k12 he3.symm)];exact hr _ _ e3
       ·simp at Q
      exact ek (bq hr3 q2 (by simp[VX.get,lk]))
    have hn0:0<=n:=by omega
    have hnt:n.toNat=xs.length:=by omega
    have hyy:=hyy.trans hu;generalize (a.put (some I) u8).eval=ev at hyy hjj⊢
    simp[execOp,Instr.indexAt,hyy,hjj,asIntOf,underlying,hue,sizeOf,typeInfo,hti,hsz'];simp[hn0,hnt,lm];intro hh;omega
   ·simp at q3
  |_=>simp[aC]at k10
 have hq:=Nc (u8:=u8) (u9:= .pointer (some ⟨b,xs.length*sz,none⟩)) hr k13 k14 (o:=(match W.op with| .store _ _ y=>y|_=> .tmp 0)) (x:=v) (v:= .d wv) (by
  obtain⟨dst10,op10,ty10,pos10,after10,guard10⟩:=W;cases op10 with
  |store t xx yy=>
   simp only[aC,aF]at k11;exact k11.2
  |_=>simp[aC]at k11) e4
 have hu10:∃q:Value,AVR fid g w (.d wv) q/\q.cells.size=sz/\∀ww:World,ww.heap[b]?=some (.cells arr e (0,0))->(execOp ((a.put (some I) u8).put (some t9) (.pointer (some ⟨b,xs.length*sz,none⟩))).eval W).run P ww= .ok .skip (ww.setRow b (splice arr.toList (xs.length*sz) q.cells.toList).toArray):=by
  obtain⟨dst10,op10,ty10,pos10,after10,guard10⟩:=W;cases op10 with
  |store t xx yy=>
   simp only[aC,aF,ba]at k11;obtain⟨⟨q1,q2⟩,q3⟩:=k11;simp only at hq;refine⟨_,hq,?_⟩;have hsx:((a.put (some I) u8).put (some t9) (.pointer (some ⟨b,xs.length*sz,none⟩))).eval xx= .pointer (some ⟨b,xs.length*sz,none⟩):=by
    cases xx with
    |tmp t'=>
     simp only[bB,eJ]at q2;subst q2
     exact rR _ _ _ (by rw[fN];omega)
    |_=>simp[bB]at q2
   have hall:(AV.d wv).cells.all AV.isCell=true:=by
    cases wv with
    |agg cs=>simpa[AV.cells,DV.cells,AV.isCell]using hw2
    |_=>simpa[AV.cells,DV.cells,AV.isCell]using hw2
   have hcl:(AV.d wv).cells.length=sz:=by
    rw[<-hw1];cases wv<;>simp[AV.cells,DV.cells]
   obtain⟨z1,z2,z3⟩:=rn hq hall;rw[hcl]at z1;refine⟨z1,fun ww hww=> ?_⟩;generalize ((a.put (some I) u8).put (some t9) (.pointer (some ⟨b,xs.length*sz,none⟩))).eval=ev at hsx z1 z3⊢
   generalize hqq:ev yy=q at z1 z3⊢
   have hst:=run_storeCells_at (P:=P) b (xs.length*sz) e q.cells.toList 0 arr ww hww (by simp;omega) z3;simp only[execOp,Instr.storeAt,hsx,Instr.sureAddr,hqq,Sem.run_bind,Sem.run_pure,Result.andThen_ok,storeVar,pj q1];rw[ak (by simp;omega),hst];simp[splice]
  |_=>simp[aC]at k11
 obtain⟨q,hqv,hqs,hrun10⟩:=hu10
 let w2:=w1.setRow b (splice arr.toList (xs.length*sz) q.cells.toList).toArray
 let g2:Gh:={K:=g1.K,row:=g1.row,bx:=g.bx}
 have hKle:g.K b<=xs.length*sz:=by
  rcases dZ b w.heap.size with hlt|hge
  ·rcases st1.org ((s.c+i)::p) b M (by simp[Gh.blk,Z])with h1|⟨a0,h1,Q⟩
   ·omega
   ·rcases hold a0 h1 with h3|⟨⟨sz',h3⟩,h4⟩
    ·exfalso
     obtain⟨bb,x0,hb0⟩:∃bb x0,g.row a0=some (bb,x0)/\bb=b:=by
      simp only[Gh.blk,au]at Q;obtain⟨q0,h5,h6⟩:=Q;exact⟨q0.1,q0.2,h5,h6⟩
     obtain⟨hb0,rfl⟩:=hb0;have h5:=st1.ext.row a0 _ hb0;have h6:=c1.apart a0 ((s.c+i)::p) bb _ _ h3 M h5 Z;rw[<-h6]at hf0;rw[hb0]at hf0;simp at hf0
    ·subst h3
     cases xs with
     |nil=>exact absurd rfl h4
     |cons x0 xr=>
      have hszx:sz'=sz:=by
       have hxv':=hxv;generalize a.eval px=q0 at hxv';cases hxv' with
       |row _ _ ad cc ss U ht hl hm' hcell hK' hcs hvs hown=>
        obtain⟨_,_,rfl,_,_⟩:=hown a0 sz' rfl;rw[<-(hcs 0 x0 rfl).1];exact V x0 (by simp)
      obtain⟨l,c',arr',e',f1,f2,f3,f4,f5,_⟩:=CX G h1 hxv;simp only[Gh.blk,f2,bz,aB]at Q;subst Q;rw[f5,hszx];simp
  ·rw[G.K0 b hge];exact cE _
 have u:∀l,l≠b->w2.heap[l]?=w1.heap[l]?:=fun l O=>setRow_other w1 b l _ O
 have C:w2.heap[b]?=some (.cells (splice arr.toList (xs.length*sz) q.cells.toList).toArray e (0,0)):=setRow_heap w1 b arr _ e (0,0) hb;have x3:q.cells.toList.length=sz:=by simpa using hqs
 have hspl:(splice arr.toList (xs.length*sz) q.cells.toList).length=arr.size:=by rw[ji _ _ _ (by rw[x3];simpa using hoff)];simp
 have hlow:∀k,k<xs.length*sz->(splice arr.toList (xs.length*sz) q.cells.toList).toArray[k]?=arr[k]?:=fun k hk=>by
  simp only[nJ];rw[jU _ _ _ (by rw[x3];simpa using hoff),ak (by omega)];simp
 have S:Ext g w g2 w2:=by
  refine⟨⟨fun x=>st1.ext.K x,fun ad had=> ?_,st1.ext.row⟩,fun _ _ h=>h⟩;rw[<-st1.ext.cell ad had]
  by_cases J:ad.block=b
  ·simp only[World.cell?]
   rw[J,C,hb];simp only;split
   ·rfl
   ·rw[hlow ad.off (by rw[J]at had;omega)]
  ·simp only[World.cell?,u _ J]
 have hnbg:∀X,g.bx X≠some b:=fun X H=>hnb X (b1.old X b H)
 have hwv:VR g w wv q:=cX hqv;refine⟨I,t9,u8,b,xs.length*sz,arr,(splice arr.toList (xs.length*sz) q.cells.toList).toArray,e,w1,g2,k1,k2,k3,k6,k7,k8,⟨nx,run8,hnx⟩,hu9,hb,hrun10,fun X l H he=>hnbg X (by rw[<-he];exact H),?_,⟨fun _ _ h=>h,fun _ _ h=> .inl h⟩,?_,fun t v0 R=> ?_⟩
 ·rw[ge,db,hs1B]
  refine⟨fun X l H=> ?_,G.inj,fun a' ha'=> ?_,fun a1 a2 l x1 x2 h1 Q h3 h4=>c1.apart a1 a2 l x1 x2 h1 Q h3 h4,fun l O=>c1.K0 l (by simpa[w2,World.setRow]using O)⟩
  ·obtain⟨cs,arr',e',f1,f2,f3,f4,f5,f6⟩:=G.box X l H
   have hne:l≠b:=fun he=>hnbg X (by rw[<-he];exact H)
   obtain⟨cs2,arr2,e2',m1,m2,m3,m4,m5,m6⟩:=c1.box X l (b1.old X l H);exact⟨cs,arr',e',f1,by rw[u l hne,hheap X l H];exact f2,f3,fun j v0 u0 q1 q2=>(f4 j v0 u0 q1 q2).mono fid S,f5,m6⟩
  ·obtain⟨l,n',c',sz',arr',e',f1,f2,f3,f4,f5,f6⟩:=c1.opn a' ha'
   by_cases J:l=b
   ·subst J
    rw[hb]at f2;simp only[aB,Obj.cells.injEq]at f2;obtain⟨rfl,rfl,_⟩:=f2;exact⟨l,n',c',sz',_,e,f1,C,by rw[ir,hspl];exact f3,f4,f5,hnbg⟩
   ·exact⟨l,n',c',sz',arr',e',f1,by rw[u l J];exact f2,f3,f4,f5,fun X H=>f6 X (b1.old X l H)⟩
 ·rw[db]
  refine⟨st1.os,st1.tape,st1.output,by simpa[w2,World.setRow]using st1.size,S.toExtV,fun l O h1 Q=> ?_,st1.new,fun a' l ha' O=>st1.org a' l ha' O,fun l c0 e0 z0 O=> ?_⟩
  ·obtain⟨m1,m2⟩:=st1.keep l O h1 Q
   refine⟨?_,m2⟩;rw[u l (fun he=> ?_)]
   ·exact m1
   ·subst he
    rcases st1.org ((s.c+i)::p) l M (by simp[Gh.blk,Z])with h3|⟨a0,h3,h4⟩
    ·omega
    ·exact Q a0 h3 h4
  ·obtain⟨c2,m1,m2⟩:=st1.arr l c0 e0 z0 O
   by_cases J:l=b
   ·subst J
    rw[hb]at m1;simp only[aB,Obj.cells.injEq]at m1;obtain⟨rfl,rfl,rfl⟩:=m1;exact⟨_,C,by rw[ir,hspl];exact m2⟩
   ·exact⟨c2,by rw[u l J];exact m1,m2⟩
 ·simp only[St.put,lk]at R
  split at R
  ·rename_i he
   simp only[aB]at R;subst R;subst he
   rw[ns _ _ _ _ k15,rR a _ u8 b2,hu];have Y:(xs++[wv]).length=xs.length+1:=by simp
   have key:VR g2 w2 (.sl (.own ((s.c+i)::p) sz) (xs++[wv])) (.slice (some ⟨b,0,none⟩) (xs++[wv]).length c):=by
    have hget:∀k,k<(xs.length+1)*sz->∃u0,(splice arr.toList (xs.length*sz) q.cells.toList).toArray[k]?=some u0:=fun k hk=>by
     refine⟨_,kg (by rw[ir,hspl];rw[c_]at hk;omega)⟩
    refine .row _ _ ⟨b,0,none⟩ c sz (fun k=>(splice arr.toList (xs.length*sz) q.cells.toList).toArray.getD k undef) (by simp) (by rw[Y];exact hnc) hm (fun k hk=> ?_) (.inr ?_) (fun j y hj=> ?_) (fun j y m v1 hj hm1=> ?_) (fun a' sz' ht=> ?_)
    ·rw[lm]
     rw[Y]at hk;obtain⟨u0,hu0⟩:=hget k hk;simp only[World.cell?,C,Option.isSome_none,bI,if_false,hu0,bL,eE]
    ·simp only[Y];show 0+_<=g1.K b;rw[hKb];omega
    ·by_cases hjx:j<xs.length
     ·rw[bY hjx]at hj
      refine⟨V y (by simp[bU hj]),fun v1 hv1=>hfc v1 ?_⟩;exact qv.2 ⟨y,by simp[bU hj],hv1⟩
     ·rw[cj (by omega)]at hj
      have:j-xs.length=0:=by have:=(aK.1 hj).1;simp at this;omega
      rw[this]at hj;simp only[d9,aB]at hj;subst hj
      exact⟨hw1,fun v1 hv1=>bu.1 hw2 v1 hv1⟩
    ·by_cases hjx:j<xs.length
     ·rw[bY hjx]at hj
      have hyl:=V y (by simp[bU hj]);have hmlt:m<sz:=by have:=(aK.1 hm1).1;omega
      have hklt:j*sz+m<xs.length*sz:=by
       have:=fb sz (show j+1<=xs.length by omega);rw[c_]at this;omega
      have hat:(flat (xs++[z]))[j*sz+m]?=some v1:=by
       have:=LH (xs:=xs++[z]) (sz:=sz) V (i:=j) (x:=y) (j:=m) (v:=v1) (by rw[bY hjx];exact hj) hm1;exact this
      obtain⟨u0,h1,Q⟩:=F _ v1 hat;rw[hu]at hun;simp only[Value.slice.injEq,aB,Addr.mk.injEq]at hun;obtain⟨⟨rfl,-,-⟩,-,-⟩:=hun;have h3:arr[j*sz+m]?=some u0:=by simpa[World.cell?,hb]using h1
      have h4:=hlow (j*sz+m) hklt;rw[bL,h4,h3,eE];exact Q.mono S.toExtV
     ·rw[cj (by omega)]at hj
      have hj0:j-xs.length=0:=by have:=(aK.1 hj).1;simp at this;omega
      have hje:j=xs.length:=by omega
      rw[hj0]at hj;simp only[d9,aB]at hj;subst hj
      have hmlt:m<sz:=by have:=(aK.1 hm1).1;omega
      have hcells2:=Zy hwv (bu.1 hw2);obtain⟨w3,w4⟩:=hcells2;have hqm:∃u0,q.cells[m]?=some u0:=⟨_,kg (by omega)⟩;obtain⟨u0,hqm⟩:=hqm;have h3:(splice arr.toList (xs.length*sz) q.cells.toList).toArray[j*sz+m]?=some u0:=by
       simp only[nJ];rw[jU _ _ _ (by rw[x3];simpa using hoff),ap (by rw[x3,hje];omega),hje,show xs.length*sz+m-xs.length*sz=m by omega];simpa using hqm
      rw[bL,h3,eE];exact(w4 m v1 u0 hm1 hqm).mono S.toExtV
    ·simp only[Tag.own.injEq]at ht
     obtain⟨rfl,rfl⟩:=ht;exact⟨rfl,rfl,rfl,by rw[Y];exact Z,fun h=>by simp at h⟩
   rw[Y]at key;exact .d _ _ key
  ·rename_i he
   rw[hs1r]at R;have hne9:t≠t9:=fun h9=>by rw[h9,ht9]at R;simp at R
   rw[ns _ _ _ _ hne9,ns _ _ _ _ he];exact(hr t v0 R).mono fid S
end
section
variable {P:Program} {fid:Nat->FuncId}
def ko(n k:Nat):Array Bool:=Array.ofFn (n:=n) fun i=>decide (i.1<k)
theorem YP(n k:Nat):(ko n k).size=n:=by simp[ko]
theorem UE{n k i:Nat}(h:i<n)(b:Bool):(ko n k).getD i b=decide (i<k):=by
 simp[ko,bL,h]
theorem K3{n k:Nat}{l:Array Bool}(hs:l.size=n)(h:∀i,i<n->l.getD i true=decide (i<k)):l=ko n k:=by
 refine Array.ext (by rw[hs,YP]) fun i h1 c=> ?_
 have b:=h i (by omega);have a:=UE (n:=n) (k:=k) (i:=i) (by omega) true;simp only[bL,kg h1,kg c,eE]at b a;rw[b,a]
theorem Ud{call:aZ}(hcall:gm P fid call){p:Id}{L0 N c:Nat}{ops:Array Oper}{vs:List VOper}(hok:dI P fid N ops true (ops.toList.take vs.length) vs=true)(hK:vs.length<=ops.size)(htail:∀i,vs.length<=i->i<ops.size->∀j,j<vs.length->∀o,ops[i]?=some o->j∈g_ o)(K:ip vs=true){sf:St}
 {Q:Exit->Act->World->Prop} {g0:Gh} {w0:World} {A0:Ids} {a0:Act}
 (hQ:∀g' a' w',Core fid g' w' sf.B sf.A->Boxes g0 w0 g'->Step (fun x=>∃q j,c<=j/\j<c+vs.length/\x=q++j::p) g0 w0 A0 g' w' sf.A->qcY fid g' w' sf.r a'.tmps->a'.tmps.size=N->a'.defers=a0.defers->wpAny P .any ops Q (ops.size-vs.length) (ko ops.size vs.length) a' w'):
 ∀(fuel:Nat) (listed:Array Bool) (g:Gh) (w:World) (a:Act) (s t:St),(rest vs listed).length=fuel->listed.size=ops.size->(∀i,vs.length<=i->i<ops.size->listed.getD i true=false)->s.c=c->Core fid g w s.B s.A->qcY fid g w s.r a.tmps->a.tmps.size=N->a.defers=a0.defers->
  Boxes g0 w0 g->Step (fun x=>∃q j,c<=j/\j<c+vs.length/\x=q++j::p) g0 w0 A0 g w s.A->
  (∀i,listed.getD i true=false->∀q,g.row (q++(c+i)::p)=none)->(∀(i:Nat) (o:VOper),vs[i]?=some o->listed.getD i true=true->∀j,j∈o.after->listed.getD j true=true)->
  fk call p L0 (rest vs listed) s=some t->t.eqv sf->wpAny P .any ops Q (fuel+(ops.size-vs.length)) listed a w:=by
 obtain⟨hlen0,hat0⟩:=vE hok;have hat:∀(i:Nat) (o:Oper) (v:VOper),ops[i]?=some o->vs[i]?=some v->gS P fid N ops o v=true/\(∀j,j∈v.after↔j∈g_ o):=fun i o v ho X=>by
  have hi:i<vs.length:=(aK.1 X).1;exact hat0 i o v (by rw[ew,ap hi];simpa using ho) X
 simp only[ip,aF]at K;obtain⟨V,W⟩:=K;have D:∀(i:Nat) (o:VOper),vs[i]?=some o->∀j,j∈o.after->j<i:=fun i o h j hj=>by simpa using DU V i o h j hj
 intro fuel
 induction fuel with
 |zero=>
  intro listed g w a s t b hsz z hc C hr hN I F y hfr hcl d heq;have hnil:rest vs listed=[]:=mc b;rw[hnil]at d;simp[fk]at d;subst d
  have hup:listed=ko ops.size vs.length:=by
   refine K3 hsz fun i hi=> ?_
   by_cases hiK:i<vs.length
   ·rw[decide_eq_true hiK]
    cases hl:listed.getD i true with
    |true=>rfl
    |false=>
     obtain⟨pre,post,h1,_⟩:=wP (vs:=vs) (i:=i) (o:=vs[i]) (by simp) hl;rw[hnil]at h1;simp at h1
   ·rw[decide_eq_false hiK];exact z i (by omega) hi
  subst hup;rw[eQ];exact hQ g a w (by rw[<-heq.2.1,<-heq.2.2.1];exact C) F (by rw[<-heq.2.2.1];exact y) (Ij heq hr) hN I
 |succ fuel ih=>
  intro listed g w a s t b hsz z hc C hr hN I F y hfr hcl d heq;rw[show fuel+1+(ops.size-vs.length)=(fuel+(ops.size-vs.length))+1 by omega];refine⟨fun S=> ?_,fun i hi=> ?_⟩
  ·
   exfalso;have hne:rest vs listed≠[]:=by intro h;rw[h]at b;simp at b
   obtain⟨q,hq⟩:=md _ hne;have hex:∃i,i<vs.length/\listed.getD i true=false:=by
    obtain⟨h1,R⟩:=gK.1 hq;have h3:=nO h1;exact⟨q.1,(aK.1 h3).1,by simpa using R⟩
   have least:∀n,(∃i,i<n/\i<vs.length/\listed.getD i true=false)->∃i,i<vs.length/\listed.getD i true=false/\∀j,j<i->listed.getD j true=true:=by
    intro n
    induction n with
    |zero=>rintro⟨i,h,_⟩;omega
    |succ n ihn=>
     rintro⟨i,h1,R,h3⟩
     by_cases hl:∃i,i<n/\i<vs.length/\listed.getD i true=false
     ·exact ihn hl
     ·refine⟨i,R,h3,fun j hj=> ?_⟩
      cases hjl:listed.getD j true with
      |true=>rfl
      |false=>exact absurd ⟨j,by omega,by omega,hjl⟩ hl
   obtain⟨i0,h1,R⟩:=hex;obtain⟨i,h3,h4,h5⟩:=least (i0+1) ⟨i0,by omega,h1,R⟩;have x3:i<ops.size:=by omega
   have x1:i∈Region.ready .any ops listed:=by
    rw[Region.ready,gK];refine⟨by simpa using x3,?_⟩;have ho:ops[i]?=some ops[i]:=by simp[x3]
    simp only[h4,ho,nz,eP,bz,eE];rw[pB];intro k H;simp only[ci,fi]
    by_cases hb:Region.binds .any ops[i].after[k]=true
    ·right
     have hj:(ops[i].after[k]).on∈vs[i].after:=by
      rw[(hat i ops[i] vs[i] (by simp[x3]) (by simp)).2];unfold g_;refine bP.2 ⟨ops[i].after[k],gK.2 ⟨by simp,hb⟩,rfl⟩
     have hlt:=D i vs[i] (by simp) _ hj;have h6:=h5 _ hlt;have h7:(ops[i].after[k]).on<listed.size:=by omega
     simp[bL,h7]at h6⊢
     exact h6
    ·left;simpa using hb
   rw[S]at x1;simp at x1
  ·
   rw[Region.ready,gK]at hi;obtain⟨J,hi2⟩:=hi;simp only[eW]at J;simp only[aF,fi]at hi2;obtain⟨hnl,l⟩:=hi2;have hne:rest vs listed≠[]:=by intro h;rw[h]at b;simp at b
   have hiv:i<vs.length:=by
    rcases dZ i vs.length with h|h
    ·exact h
    ·exfalso
     obtain⟨q,hq⟩:=md _ hne;obtain⟨h1,R⟩:=gK.1 hq;have h3:=(aK.1 (nO h1)).1;have h4:ops[i]?=some ops[i]:=by simp[J]
     have h5:=htail i h J q.1 (by omega) ops[i] h4;unfold g_ at h5;obtain⟨e,he,he0⟩:=bP.1 h5;obtain⟨a2,he2⟩:=gK.1 he;rw[h4]at l;simp only[bz,eE]at l;obtain⟨k,H,a1⟩:=AB.1 (uC.1 a2);have h6:=(pB.1 l) k H;rw[a1]at h6;simp only[he2,mb,qp]at h6;have h7:listed.getD q.1 true=false:=by simpa using R
     have h8:q.1<listed.size:=by omega
     rw[he0]at h6;simp[bL,h8]at h6 h7;rw[h6]at h7;simp at h7
   have ho:ops[i]?=some ops[i]:=by simp[J]
   have X:vs[i]?=some vs[i]:=by simp[hiv]
   obtain⟨hokop,haft⟩:=hat i ops[i] vs[i] (by simp[J]) X;have Z:∀j,j∈vs[i].after->listed.getD j true=true:=by
    intro j hj;rw[haft]at hj;unfold g_ at hj;obtain⟨e,he,rfl⟩:=bP.1 hj;obtain⟨a2,he2⟩:=gK.1 he;rw[ho]at l;simp only[bz,eE]at l;obtain⟨k,H,a1⟩:=AB.1 (uC.1 a2);have:=(pB.1 l) k H;rw[a1]at this;simp only[he2,mb,qp]at this;have hlt:e.on<listed.size:=by
     rcases dZ e.on listed.size with h|h
     ·exact h
     ·simp[bL,BL h]at this
    simp[bL,hlt]at this⊢
    exact this
   obtain⟨pre,post,hr1,hr2,b2⟩:=wP X hnl;rw[hr1]at d;have M:∀q,q∈pre->yP q.2 vs[i]:=by
    intro q hq;obtain⟨q1,q2,q3⟩:=b2 q hq;have hp:=Dv W q.1 i q.2 vs[i] q1 q2 X;simp only[eQ,sA,ci,aF]at hp;rcases hp with hp|⟨⟨hp1,hp2⟩,hp3⟩
    ·exfalso
     have hx:q.1∈(jy vs []).getD i []:=by simpa using hp
     have:=JV (L:=fun k=>listed.getD k true=true) (fun i o h1 R j hj=>hcl i o h1 R j hj) D i vs[i] X Z q.1 hx;rw[q3]at this;simp at this
    ·exact⟨hp1,hp2,hp3⟩
   obtain⟨s1,t',Y,hseq',G⟩:=AK M d;have hcs:=xp Y;unfold wpOp;rw[ho];simp only;have key:=vX (g:=g) (w:=w) (ops:=ops) hcall C hr hN (fun q=>by rw[hc];exact hfr i hnl q) hokop Y (wpAny P .any ops Q (fuel+(ops.size-vs.length)) (listed.setIfInBounds i true)) Q (fun g1 w1 u c1 b1 st1 r1=>by
    refine ih (listed.setIfInBounds i true) g1 w1 (a.put ops[i].dst u) s1 t' ?_ (by simpa using hsz) (fun k hk1 hk2=>by rw[<-z k hk1 hk2];simp[bL,jq (show i≠k by omega)]) (by rw[hcs,hc]) c1 r1 (by rw[fN];exact hN) (by rw[put_defers];exact I) (F.trans y.size b1) (y.trans F (st1.weaken (fun x ⟨q,hx⟩=>⟨q,s.c+i,by omega,by omega,hx⟩))) (fun k H q=> ?_) (fun k o H hkl j hj=> ?_) (by rw[hr2];exact hseq') ?_
    ·rw[hr2]
     have h8:=li List.length hr1;simp only[dz,cB]at h8⊢
     omega
    ·have O:k≠i:=by
      intro h;subst h
      have:k<listed.size:=by omega
      simp[bL,this]at H
     have hk':listed.getD k true=false:=by
      rw[<-H];simp[bL,jq (Ne.symm O)]
     exact Bb st1 (by omega) (fun q=>hfr k hk' q) q
    ·have x2:∀m,listed.getD m true=true->(listed.setIfInBounds i true).getD m true=true:=by
      intro m hm
      by_cases hmi:m=i
      ·subst hmi
       have:m<listed.size:=by omega
       simp[bL,this]
      ·have e:(listed.setIfInBounds i true).getD m true=listed.getD m true:=by
        simp[bL,jq (Ne.symm hmi)]
       rw[e];exact hm
     by_cases O:k=i
     ·subst O
      rw[X]at H;simp at H;subst H
      exact x2 j (Z j hj)
     ·have:listed.getD k true=true:=by
       have e:(listed.setIfInBounds i true).getD k true=listed.getD k true:=by
        simp[bL,jq (Ne.symm O)]
       rw[<-e];exact hkl
      exact x2 j (hcl k o H this j hj)
    ·refine⟨fun x=> ?_,?_,?_,?_⟩
     ·rw[<-G.1 x];exact heq.1 x
     ·rw[<-G.2.1];exact heq.2.1
     ·rw[<-G.2.2.1];exact heq.2.2.1
     ·rw[<-G.2.2.2];exact heq.2.2.2)
   split
   ·rename_i hw
    rw[ap hw]at key;exact .inl key
   ·rename_i hw
    rw[ak hw]at key;exact key
theorem T3(n K:Nat):fV n K=ko n K:=by
 refine K3 (by simp[fV]) fun i hi=> ?_
 simp[fV,bL,hi]
theorem PN(w:World)(b c:Nat)(x y:Array Value)(h:b≠c):(w.setRow b x).setRow c y=(w.setRow c y).setRow b x:=by
 unfold World.setRow
 congr 1
 apply Array.ext_getElem?;intro i;simp only[Sq]
 by_cases hb:b=i
 ·subst hb
  rw[ak (Ne.symm h),ap rfl,ap rfl,ak (Ne.symm h)]
 ·by_cases hc:c=i
  ·subst hc
   rw[ap rfl,ak hb,ak hb,ap rfl]
  ·simp only[ak hb,ak hc]
def pd(Q:Exit->Act->World->Prop):Exit->Act->World->Prop
 | .normal=>Q .normal
 |_=>fun _ _=>False
theorem p0(a:Act)(u:Value):a.put none u=a:=rfl
theorem ZP{ops:Array Oper}{Q:Exit->Act->World->Prop}{K:Nat}(X:qO ops K=true){x z d k l s:Oper}(e8:ops[K]?=some x)(e9:ops[K+1]?=some z)(C:ops[K+2]?=some d)(M:ops[K+3]?=some k)(N:ops[K+4]?=some l)(O:ops[K+5]?=some s)
 (g8:x.guard.isNone=true) (g9:z.guard.isNone=true) (J:d.guard.isNone=true) (a1:k.guard.isNone=true) (a2:l.guard.isNone=true) (W:s.guard.isNone=true) (R:d.dst=none) (Y:s.dst=none)
 {a:Act} {w q:World} {u8 u9 r y:Value} {b blk:Nat} {arr arr' t j:Array Value} {e e2:TypeId}
 (h8:∃n,(execOp a.eval x).run P w= .ok n q/\(n= .value u8\/(n= .skip/\u8=undef)))
 (h9:∀ww:World,(execOp (a.put x.dst u8).eval z).run P ww= .ok (.value u9) ww)
 (hb:q.heap[b]?=some (.cells arr e (0,0)))
 (Z:∀ww:World,ww.heap[b]?=some (.cells arr e (0,0))->(execOp ((a.put x.dst u8).put z.dst u9).eval d).run P ww= .ok .skip (ww.setRow b arr'))
 (b2:∀ww:World,(execOp ((a.put x.dst u8).put z.dst u9).eval k).run P ww= .ok (.value r) ww)
 (h5:∀ww:World,(execOp (((a.put x.dst u8).put z.dst u9).put k.dst r).eval l).run P ww= .ok (.value y) ww)
 (I:b≠blk) (F:(q.setRow b arr').heap[blk]?=some (.cells t e2 (0,0)))
 (V:∀ww:World,ww.heap[blk]?=some (.cells t e2 (0,0))->(execOp ((((a.put x.dst u8).put z.dst u9).put k.dst r).put l.dst y).eval s).run P ww= .ok .skip (ww.setRow blk j))
 (hQ:Q .normal ((((a.put x.dst u8).put z.dst u9).put k.dst r).put l.dst y) ((q.setRow b arr').setRow blk j)):
 wpAny P .any ops (pd Q) (ops.size-K) (ko ops.size K) a w:=by
 simp only[qO,aF,ba]at X;obtain⟨⟨⟨⟨⟨⟨⟨⟨⟨⟨⟨⟨⟨⟨⟨hn,p⟩,hall⟩,r0⟩,f1⟩,r1⟩,f2⟩,r2⟩,f3⟩,r3⟩,r4⟩,r5⟩,r6⟩,r7⟩,r8⟩,H⟩:=X;rw[C,M,N]at H;simp only[aF]at H;obtain⟨h3,b1⟩:=H;obtain⟨p1,_,_⟩:=Oper.apart_spec h3;obtain⟨p2,_,_⟩:=Oper.apart_spec b1;have D:∀cs bb,d.op≠.select cs bb:=fun cs bb=>Region.noSelect_spec p _ d cs bb C
 have G:∀ww:World,ww.heap[b]?=some (.cells arr e (0,0))->(execOp ((((a.put x.dst u8).put z.dst u9).put k.dst r).put l.dst y).eval d).run P ww= .ok .skip (ww.setRow b arr'):=fun ww hw=>by
  rw[execOp_put (ops:=ops) d D _ _ _ p2,execOp_put (ops:=ops) d D _ _ _ p1];exact Z ww hw
 have h4:q.heap[blk]?=some (.cells t e2 (0,0)):=by rw[<-F];exact(setRow_other q b blk arr' (Ne.symm I)).symm
 rw[show ops.size-K=6 by omega,<-T3];have hQp:∀(a':Act) (o:Oper) (v:Value),∀c a w,pd Q (.panic c) (a.put o.dst v) w->pd Q (.panic c) a w:=fun _ _ _ c a w h=>h
 have one:∀(m:Nat) (o:Oper) (n:Next) (u:Value) (ac:Act) (wa wb:World) (Kn:Act->World->Prop),ops[m]?=some o->o.guard.isNone=true->(execOp ac.eval o).run P wa= .ok n wb->(n= .value u\/(n= .skip/\u=undef))->Kn (ac.put o.dst u) wb->wpOp P ops (pd Q) m Kn ac wa:=by
  intro m o n u ac wa wb Kn ho hg S x2 hK;unfold wpOp;rw[ho];simp only;rw[ap (K8 hg _)];left;unfold Oper.wp;rw[S];rcases x2 with rfl|⟨rfl,rfl⟩
  ·rw[Oper.upon_value];exact hK
  ·rw[Oper.upon_skip];exact hK
 have yl:∀(o:Oper) (ac:Act) (v:Value),o.guard.isNone=true->(∀ww:World,(execOp ac.eval o).run P ww= .ok (.value v) ww)->Go.Yields P ops o v ac:=fun o ac v hg hr=> .inl ⟨K8 hg _,hr⟩
 obtain⟨n8,h2,x3⟩:=h8;refine wpAny_all r0 (by simp) fun i hi=> ?_
 rw[bC]at hi;subst hi
 refine one _ x n8 u8 a w q _ e8 g8 h2 x3 ?_;refine wpAny_take e9 p f1 r1 (fun c a w h=>h) (yl z _ u9 g9 h9) ?_;refine wpAny_take M p f2 r2 (fun c a w h=>h) (yl k _ r a1 b2) ?_;refine wpAny_take N p f3 r3 (fun c a w h=>h) (yl l _ y a2 h5) ?_;refine wpAny_all r4 (by simp) fun i' hi=> ?_
 simp only[br,kU,lT]at hi;rcases hi with rfl|rfl
 ·refine one _ d .skip undef _ q (q.setRow b arr') _ C J (G q hb) (.inr ⟨rfl,rfl⟩) ?_
  rw[R,p0];refine wpAny_all r5 (by simp) fun x1 hi=> ?_
  rw[bC]at hi;subst hi
  refine one _ s .skip undef _ _ _ _ O W (V _ F) (.inr ⟨rfl,rfl⟩) ?_;rw[Y,p0];exact⟨r7,hQ⟩
 ·refine one _ s .skip undef _ q (q.setRow blk j) _ O W (V _ h4) (.inr ⟨rfl,rfl⟩) ?_
  rw[Y,p0];refine wpAny_all r6 (by simp) fun x1 hi=> ?_
  rw[bC]at hi;subst hi
  refine one _ d .skip undef _ _ _ _ C J (G _ (by rw[setRow_other q blk b j I];exact hb)) (.inr ⟨rfl,rfl⟩) ?_;rw[R,p0,PN _ _ _ _ _ (Ne.symm I)];exact⟨r8,hQ⟩
theorem Rs{g:Gh}{w:World}{r:List (Nat×AV)}{B:ah}{A:Ids}{a:Act}{o:Oper}{l:Bool}{sz:Nat}{x y:VX}{b off:Nat}{v:AV}(c:Core fid g w B A)(m:qcY fid g w r a.tmps)(h:aC P fid o.op (.store l sz x y)=true)(hx:x.get r=some (.ptr b off))(hy:y.get r=some v)
 {cs:List AV} (hcs:aI B b=some cs) (hc:v.cells.length=sz/\off+sz<=cs.length/\v.cells.all AV.isCell=true):
 ∃(blk:Nat) (arr arr':Array Value) (e:TypeId),g.bx b=some blk/\w.heap[blk]?=some (.cells arr e (0,0))/\∀ww:World,ww.heap[blk]?=some (.cells arr e (0,0))->(execOp a.eval o).run P ww= .ok .skip (ww.setRow blk arr'):=by
 obtain⟨dst,op,ty,pos,after,guard⟩:=o;cases op with
 |store t x' z=>
  simp only[aC,aF,ba]at h;obtain⟨⟨h1,n⟩,s⟩:=h;obtain⟨hsz,hlen,i⟩:=hc;obtain⟨blk,hb,he⟩:=fh (bq (w:=w) m n hx);have d:=bq (w:=w) m s hy;generalize p:a.eval z=q at d;obtain⟨c1,c2,c3⟩:=rn d i;obtain⟨cs',arr,e,C,u,b3,b4,F,D⟩:=c.box b blk hb;have:cs'=cs:=by have:=iS.1 hcs;rw[C]at this;simpa using this
  subst this;refine⟨blk,arr,(arr.toList.take (off+0)++q.cells.toList++arr.toList.drop (off+0+q.cells.toList.length)).toArray,e,hb,u,fun ww k=> ?_⟩;have j:=run_storeCells_at (P:=P) blk off e q.cells.toList 0 arr ww k (by simp;omega) c3;simp only[execOp,Instr.storeAt,he,Instr.sureAddr,p,Sem.run_bind,Sem.run_pure,Result.andThen_ok,storeVar,pj h1];rw[ak (by simp;omega),j];rfl
 |_=>simp[aC]at h
end
section
variable {P:Program} {fid:Nat->FuncId}
def jM(p:Id)(c c':Nat)(x:Id):Prop:=∃q j,c<=j/\j<c'/\x=q++j::p
theorem ig{p:Id}{c c':Nat}{g g':Gh}{w w':World}{A A':Ids}(hs:Step (jM p c c') g w A g' w' A')(hc:c<=c')(h:fu g p c):fu g' p c':=by
 intro q j hj
 by_cases he:g'.row (q++j::p)=g.row (q++j::p)
 ·rw[he];exact h q j (by omega)
 ·obtain⟨d,e,h1,b,a⟩:=hs.new _ he
  have:=pz a (by simp);simp at this;omega
theorem mo{r:List (Nat×AV)}:∀{live:List Nat} {t:Nat} {v:AV},lk (keep r live) t=some v->lk r t=some v
 | [],t,v,h=>by simp[keep,lk]at h
 |x::xs,t,v,h=>by
  unfold keep at h;split at h
  ·rename_i u b
   simp only[lk]at h;split at h
   ·rename_i a
    simp at h;subst h;subst a;exact b
   ·exact mo h
  ·exact mo h
theorem yj{g:Gh}{w:World}{r:List (Nat×AV)}{a:Array Value}(h:qcY fid g w r a)(live:List Nat):qcY fid g w (keep r live) a:=fun t v b=>h t v (mo b)
theorem Hp{g:Gh}{w w':World}{B:ah}{A:Ids}(h:Core fid g w B A)(hw:w'.heap=w.heap)(hc:∀ad,w'.cell? ad=w.cell? ad):Core fid g w' B A:=by
 have e:Ext g w g w':=⟨⟨fun _=>aU _,fun ad _=>hc ad,fun _ _ h=>h⟩,fun _ _ h=>h⟩;refine⟨fun i b hb=> ?_,h.inj,fun a ha=> ?_,h.apart,fun b hb=>h.K0 b (by rw[<-hw];exact hb)⟩
 ·obtain⟨cs,arr,el,h1,o,p,m,q,d⟩:=h.box i b hb
  exact⟨cs,arr,el,h1,by rw[hw];exact o,p,fun j v u r t=>(m j v u r t).mono fid e,q,d⟩
 ·obtain⟨b,n,c,sz,arr,el,k,s,l⟩:=h.opn a ha
  exact⟨b,n,c,sz,arr,el,k,by rw[hw];exact s,l⟩
theorem FM{call:aZ}(k:gm P fid call)(hm:P.follows .mixedOrders=true){p:Id}{N id na:Nat}{live:List Nat}{draw:Bool}{ops:Array Oper}{vs:List VOper}(l:dI P fid N ops draw ops.toList vs=true)
 {g:Gh} {w:World} {a:Act} {s s':St} (n:Core fid g w s.B s.A) (I:qcY fid g w s.r a.tmps) (M:a.tmps.size=N) (y:fu g p s.c) (C:ib call p draw na live vs s=some s')
 {Q:Exit->Act->World->Prop} (J:∀g' a' w',Core fid g' w' s'.B s'.A->Boxes g w g'->Step (jM p s.c s'.c) g w s.A g' w' s'.A->qcY fid g' w' s'.r a'.tmps->a'.tmps.size=N->a'.defers=a.defers->s.c<=s'.c->Q .normal a' w'):
 (Code.region id ops draw).wp P Q a w:=by
 unfold ib at C;split at C
 ·simp at C
 rename_i u;obtain⟨t,z,rfl⟩:=au.1 C;have e:Core fid g w (s.B++List.replicate na none) s.A:=n.more fun i cs h=>by
  have:=(aK.1 h).1;rw[bY this];exact h
 cases draw with
 |false=>
  refine wp_region_list (Lf k ops.toList vs 0 g w a {s with B:=s.B++List.replicate na none} t l e I M (fun q j hj=>y q j (by simpa using hj)) z Q fun g' a' w' c1 D st1 H F d1=> ?_);exact J g' a' w' c1 D (st1.weaken fun x hx=>hx) (yj H live) F d1 (by simp)
 |true=>
  simp only[eP,fi,Ah]at u;refine wp_region_any hm ?_;obtain⟨S,_⟩:=vE l;have m:ops.size=vs.length:=by simpa using S
  have d:∀ad,({w with drawn:=w.drawn+1}:World).cell? ad=w.cell? ad:=fun _=>rfl
  have O:Ext g w g {w with drawn:=w.drawn+1}:=⟨⟨fun _=>aU _,fun ad _=>d ad,fun _ _ h=>h⟩,fun _ _ h=>h⟩;have V:ExtV g w g {w with drawn:=w.drawn+1}:=O.toExtV;have b:rest vs (Array.replicate ops.size false)=(List.range' 0 vs.length).zip vs:=by
   unfold rest;rw[List.filter_eq_self];intro q R;have:=nO R;have G:=(aK.1 this).1;simp[bL,m,G]
  rw[m];rw[m]at b;refine NP (N:=N) (c:=s.c) (L0:=s.B.length) (p:=p) (g0:=g) (w0:={w with drawn:=w.drawn+1}) (A0:=s.A) (a0:=a) (sf:=t) k l u (fun g' a' w' c1 D st1 H F d1=> ?_) vs.length (Array.replicate vs.length false) g {w with drawn:=w.drawn+1} a {s with B:=s.B++List.replicate na none} t ?_ (by simp) rfl (Hp e rfl d) (I.mono fid O) M rfl (.refl _ _) (.refl _ _ _ _) (fun i _ q=>y q _ (by omega)) (fun i o hi hc=> ?_) ?_ (.refl t)
  ·refine J g' a' w' c1 ⟨D.old,D.new⟩ ⟨st1.os,st1.tape,st1.output,st1.size,⟨st1.ext.K,st1.ext.cell,st1.ext.row⟩,st1.keep,fun x hx=> ?_,st1.org,st1.arr⟩ (yj H live) F d1 (by simp)
   exact st1.new x hx
  ·rw[b];simp
  ·have G:=(aK.1 hi).1
   simp[bL,G]at hc
  ·rw[b,<-DZ];exact z
theorem Uo{ops:Array Oper}{K:Nat}(h:qO ops K=true):ops.size=K+6/\∀m,m<6->∃o,ops[K+m]?=some o/\o.guard.isNone=true/\∀j,j<K->j∈g_ o:=by
 simp only[qO,aF,ba]at h;obtain⟨⟨⟨⟨⟨⟨⟨⟨⟨⟨⟨⟨⟨⟨⟨hn,-⟩,a⟩,-⟩,-⟩,-⟩,-⟩,-⟩,-⟩,-⟩,-⟩,-⟩,-⟩,-⟩,-⟩,-⟩:=h;refine⟨hn,fun m hm=> ?_⟩;have h1:=bu.1 a m (by simpa using hm);cases ho:ops[K+m]? with
 |none=>rw[ho]at h1;simp at h1
 |some o=>
  rw[ho]at h1;simp only[aF]at h1;exact⟨o,rfl,h1.1,fun j hj=>by simpa using bu.1 h1.2 j (by simpa using hj)⟩
theorem Vr{call:aZ}(hcall:gm P fid call)(hm:P.follows .mixedOrders=true){p:Id}{N id na:Nat}{live:List Nat}{ops:Array Oper}{pre tl:List VOper}(hok:bN P fid N (.region id ops true) (.regionT na live pre tl)=true)
 {g:Gh} {w:World} {a:Act} {s s':St} (hcore:Core fid g w s.B s.A) (hr:qcY fid g w s.r a.tmps) (hN:a.tmps.size=N) (hfr:fu g p s.c) (hv:m8 call p na live pre tl s=some s')
 {Q:Exit->Act->World->Prop} (hQ:∀g' a' w',Core fid g' w' s'.B s'.A->Boxes g w g'->Step (jM p s.c s'.c) g w s.A g' w' s'.A->qcY fid g' w' s'.r a'.tmps->a'.tmps.size=N->a'.defers=a.defers->s.c<=s'.c->Q .normal a' w'):
 (Code.region id ops true).wp P Q a w:=by
 cases tl with
 |nil=>simp[bN]at hok
 |cons t tl=>
  simp only[bN,aF]at hok;obtain⟨⟨⟨⟨o1,o2⟩,o3⟩,Y⟩,o4⟩:=hok;obtain⟨hn6,G⟩:=Uo o3;split at o4
  rotate_left
  ·simp at o4
  rename_i o8 o9 o10 e8 e9 e10;unfold m8 at hv;split at hv
  ·simp at hv
  rename_i hdr;simp only[Ah]at hdr;obtain⟨s1,hv1,hv⟩:=aw.1 hv;obtain⟨s2,hv2,rfl⟩:=au.1 hv;rw[xC]at hv2;obtain⟨J,hv3,I⟩:=aw.1 hv2;have hmore:Core fid g w (s.B++List.replicate na none) s.A:=hcore.more fun i cs h=>by
   have:=(aK.1 h).1;rw[bY this];exact h
  have hc1:s1.c=s.c:=by have:=IW hv1;simpa using this
  refine Code.wp_mono (Q:=pd Q) (fun e a w h=>by cases e<;>first|exact h|exact(show False from h).elim) ?_;refine wp_region_any hm ?_;have S:∀ad,({w with drawn:=w.drawn+1}:World).cell? ad=w.cell? ad:=fun _=>rfl
  have hE:Ext g w g {w with drawn:=w.drawn+1}:=⟨⟨fun _=>aU _,fun ad _=>S ad,fun _ _ h=>h⟩,fun _ _ h=>h⟩;have x1:rest pre (Array.replicate ops.size false)=(List.range' 0 pre.length).zip pre:=by
   unfold rest;rw[List.filter_eq_self];intro q hq;have:=nO hq;have h3:=(aK.1 this).1;simp[bL,show q.1<ops.size by omega]
  have hstart:(rest pre (Array.replicate ops.size false)).length+(ops.size-pre.length)=ops.size:=by
   rw[x1];simp;omega
  suffices hfin:wpAny P .any ops (pd Q) ((rest pre (Array.replicate ops.size false)).length+(ops.size-pre.length)) (Array.replicate ops.size false) a {w with drawn:=w.drawn+1}by
   rw[hstart]at hfin;exact hfin
  refine Ud (N:=N) (c:=s.c) (L0:=s.B.length) (p:=p) (g0:=g) (w0:={w with drawn:=w.drawn+1}) (A0:=s.A) (a0:=a) (sf:=s1) hcall o1 (by omega) (fun i hK hi j hj o ho=>by
   obtain⟨o',h1,_,h2⟩:=G (i-pre.length) (by omega);rw[show pre.length+(i-pre.length)=i by omega,ho]at h1;simp only[aB]at h1;subst h1
   exact h2 j hj) hdr (fun g1 a1 w1 c1 b1 st1 r1 n1 d1=> ?_) _ (Array.replicate ops.size false) g {w with drawn:=w.drawn+1} a {s with B:=s.B++List.replicate na none} s1 rfl (by simp) (fun i _ hi=>by simp[bL,hi]) rfl (Hp hmore rfl S) (hr.mono fid hE) hN rfl (.refl _ _) (.refl _ _ _ _) (fun i _ q=>hfr q _ (by omega)) (fun i o hi hc=> ?_) ?_ (.refl s1)
  ·have hfr1:∀q j,s.c+pre.length<=j->g1.row (q++j::p)=none:=fun q j hj=>by
    by_cases he:g1.row (q++j::p)=g.row (q++j::p)
    ·rw[he];exact hfr q j (by omega)
    ·obtain⟨q',j',h1,h2,h3⟩:=st1.new _ he
     have:=pz h3 (by simp);simp at this;omega
   obtain⟨d8,t9,u8,b,y,arr,arr',e,w1',g2,k8,k9,k10,q8,q9,q10,h8,h9,hb,h10,hnb,c2,b2,st2,r2⟩:=XN c1 r1 n1 (fun q=>hfr1 q _ (by rw[hc1];exact aU _)) o4 hv3;unfold Lp at Y;split at Y
   rotate_left
   ·simp at Y
   rename_i R x11 f11 Z D y12 f12 sz13 z13 y13 f13 _ex;simp only[aF,eJ]at Y;obtain⟨x3,V⟩:=Y;have x3:=x3.symm;have V:=V.symm;subst x3;subst V
   obtain⟨M,e11,g11,_⟩:=G 3 (by omega);obtain⟨O,e12,g12,_⟩:=G 4 (by omega);obtain⟨o13,e13,g13,_⟩:=G 5 (by omega);have hdr3:ops.toList.drop (pre.length+3)=[M,O,o13]:=by
    have d1:∀m o,ops[m]?=some o->ops.toList.drop m=o::ops.toList.drop (m+1):=fun m o h=>by
     obtain⟨h1,h2⟩:=dD.1 h;rw[cW (by simpa using h1)];simp[<-h2]
    rw[d1 _ _ e11,d1 _ _ e12,d1 _ _ e13,kw (by simp;omega)]
   rw[hdr3]at o2;simp only[dI,gS,aF,eJ,nz,Bool.true_or,and_true]at o2;obtain⟨⟨⟨⟨W,l11⟩,okp11⟩,-⟩,⟨⟨⟨k12,l12⟩,okp12⟩,-⟩,⟨⟨k13,-⟩,a2⟩,-⟩:=o2;simp only[cD,cJ,aP]at I;obtain⟨s4,v4,I⟩:=aw.1 I;obtain⟨s5,v5,I⟩:=aw.1 I;obtain⟨s6,v6,I⟩:=aw.1 I;simp only[aB]at I;subst I
   obtain⟨w4,e4,h4⟩:=au.1 v4;clear v4;subst h4
   obtain⟨w5,e5,h5⟩:=au.1 v5;clear v5;subst h5
   simp only[aA,St.put,VX.get,lk,if_true]at e4 e5 v6;have hst0:∃(H k:Nat) (v:AV) (cs:List AV),w4= .ptr H k/\w5= .ptr H (k+D)/\y13.get ((Z,w5)::(R,w4)::J.r)=some v/\aI J.B H=some cs/\(v.cells.length=sz13/\k+D+sz13<=cs.length/\v.cells.all AV.isCell=true):=by
    split at v6
    ·rename_i bb k v h1 h2
     simp only[aB]at h1;subst h1
     split at v6
     ·simp at v6
     ·obtain⟨s7,h3,-⟩:=au.1 v6
      unfold je at h3;obtain⟨cs,h4,h5⟩:=aw.1 h3;split at h5
      ·rename_i hc
       cases w4 with
       |ptr H off=>
        simp only[aB,AV.ptr.injEq]at e5;obtain⟨rfl,rfl⟩:=e5;exact⟨_,_,v,cs,rfl,rfl,h2,h4,hc.1,hc.2.1,hc.2.2.1⟩
       |ep l=>(exfalso;by_cases hq:D<=l.length<;>simp[hq]at e5)
       |_=>simp at e5
      ·simp at h5
    ·simp at v6
   obtain⟨H,k,v,cs,rfl,rfl,hy13,hcs,hcond⟩:=hst0;have hx11:lk J.r x11=some (.ptr H k):=by
    generalize lk J.r x11=q at e4;cases q with
    |none=>simp at e4
    |some q=>cases q<;>first|exact e4|(simp at e4;done)
   rw[<-k8,<-k9]at h10 r2;rw[<-k8]at h9;obtain⟨z,F,hu11⟩:=fh (r2 x11 _ hx11);have h11:∀ww:World,(execOp ((a1.put o8.dst u8).put o9.dst (.pointer (some ⟨b,y,none⟩))).eval M).run P ww= .ok (.value (.pointer (some ⟨z,k,none⟩))) ww:=fun ww=>by
    have hrr:qcY fid g2 ww [(x11,.ptr H k)] ((a1.put o8.dst u8).put o9.dst (.pointer (some ⟨b,y,none⟩))).tmps:=fun t' v' C=>by
     simp only[lk]at C;split at C
     ·rename_i he;subst he
      simp only[aB]at C;subst C
      rw[hu11];exact .ptr _ _ _ F
     ·simp at C
    obtain⟨u,e1,e2⟩:=Il (g:=g2) hrr okp11 (v:= .ptr H k) (by simp[aA,VX.get,lk]);obtain⟨b0,e3,rfl⟩:=fh e2;rw[F]at e3;simp only[aB]at e3;subst e3
    exact e1
   have hl11:R<((a1.put o8.dst u8).put o9.dst (.pointer (some ⟨b,y,none⟩))).tmps.size:=by rw[fN,fN,n1];simpa[W]using l11
   have hl12:Z<(((a1.put o8.dst u8).put o9.dst (.pointer (some ⟨b,y,none⟩))).put M.dst (.pointer (some ⟨z,k,none⟩))).tmps.size:=by rw[fN,fN,fN,n1];simpa[k12]using l12
   have h12:∀ww:World,(execOp (((a1.put o8.dst u8).put o9.dst (.pointer (some ⟨b,y,none⟩))).put M.dst (.pointer (some ⟨z,k,none⟩))).eval O).run P ww= .ok (.value (.pointer (some ⟨z,k+D,none⟩))) ww:=fun ww=>by
    have hrr:qcY fid g2 ww [(R,.ptr H k)] (((a1.put o8.dst u8).put o9.dst (.pointer (some ⟨b,y,none⟩))).put M.dst (.pointer (some ⟨z,k,none⟩))).tmps:=fun t' v' C=>by
     simp only[lk]at C;split at C
     ·rename_i he;subst he
      simp only[aB]at C;subst C
      rw[W,rR _ _ _ hl11];exact .ptr _ _ _ F
     ·simp at C
    obtain⟨u,e1,e2⟩:=Ki (g:=g2) hrr okp12 (v:= .ptr H (k+D)) (by simp[aA,VX.get,lk]);obtain⟨b0,e3,rfl⟩:=fh e2;rw[F]at e3;simp only[aB]at e3;subst e3
    exact e1
   have r5:qcY fid g2 (w1'.setRow b arr') ((J.put M.dst (.ptr H k)).put O.dst (.ptr H (k+D))).r ((((a1.put o8.dst u8).put o9.dst (.pointer (some ⟨b,y,none⟩))).put M.dst (.pointer (some ⟨z,k,none⟩))).put O.dst (.pointer (some ⟨z,k+D,none⟩))).tmps:=
    fm (fm r2 (.ptr _ _ _ F) (fun d hd=>by rw[W]at hd;simp only[aB]at hd;subst hd;exact hl11)) (.ptr _ _ _ F) (fun d hd=>by rw[k12]at hd;simp only[aB]at hd;subst hd;exact hl12)
   rw[W,k12]at r5;simp only[St.put]at r5;rw[<-W,<-k12]at r5;obtain⟨blk,arr2,arr2',e2,hbx,X,h13⟩:=Rs c2 r5 a2 (by simp[VX.get,lk]) hy13 hcs hcond;have hne:b≠blk:=fun h=>hnb H blk hbx h.symm
   have c5:Core fid g2 (w1'.setRow b arr') (⟨(Z,.ptr H (k+D))::(R,.ptr H k)::J.r,J.B,J.A,J.c⟩:St).B (⟨(Z,.ptr H (k+D))::(R,.ptr H k)::J.r,J.B,J.A,J.c⟩:St).A:=c2;obtain⟨⟨nx,ux,w3,g3,x2,res3,c3,b3,st3,r3⟩⟩:=BN (call:=call) (p:=p) (draw:=false) (L0:=s.B.length) (i:=0) (s:=⟨(Z,.ptr H (k+D))::(R,.ptr H k)::J.r,J.B,J.A,J.c⟩) (s':=s6) (gd:=none) (af:=[]) c5 r5 (fun d hd=>by rw[k13]at hd;simp at hd) a2 (by rw[k13];simp only[aP,VX.get,lk,if_true];exact v6) (fun _=>False);rw[h13 _ X]at x2;simp only[Result.ok.injEq]at x2;obtain⟨rfl,rfl⟩:=x2;have hux:ux=undef:=by
    rcases res3 with h|h
    ·simp at h
    ·exact h.2
   subst hux;refine ZP o3 e8 e9 e10 e11 e12 e13 q8 q9 q10 g11 g12 g13 k10 k13 h8 h9 hb h10 h11 h12 hne X h13 ?_;have B12:=b1.trans st1.size b2;have S12:=(st1.weaken (N':=jM p s.c (s.c+(pre.length+4))) (fun x ⟨q,j,h1,h2,h3⟩=>⟨q,j,h1,by omega,h3⟩)).trans b1 (st2.weaken (fun x ⟨q,hx⟩=>⟨q,s1.c+pre.length,by omega,by omega,hx⟩));have n:=S12.trans B12 (st3.weaken (N':=jM p s.c (s.c+(pre.length+4))) (fun x h=>h.elim));have B13:=B12.trans S12.size b3;refine hQ g3 _ _ c3 ⟨B13.old,B13.new⟩ ⟨n.os,n.tape,n.output,n.size,⟨n.ext.K,n.ext.cell,n.ext.row⟩,n.keep,fun x hx=> ?_,n.org,n.arr⟩ (by have hk:=yj r3 live;rw[k13,p0]at hk;exact hk) (by simp only[fN];exact n1) (by simp only[put_defers];exact d1) (by simp);have:=n.new x hx;simpa using this
  ·have h3:=(aK.1 hi).1
   simp[bL,show i<ops.size by omega]at hc
  ·rw[x1,<-DZ];exact hv1
structure Reach(fid:Nat->FuncId)(p:Id)(N:Nat)(g:Gh)(w:World)(s:St)(a:Act)(g':Gh)(w':World)(s':St)(a':Act):Prop where
 core:Core fid g' w' s'.B s'.A
 boxes:Boxes g w g'
 step:Step (jM p s.c s'.c) g w s.A g' w' s'.A
 regs:qcY fid g' w' s'.r a'.tmps
 size:a'.tmps.size=N
 defers:a'.defers=a.defers
 le:s.c<=s'.c
theorem Reach.trans{p:Id}{N:Nat}{g g' c:Gh}{w w' w'':World}{s s' e:St}{a a' d:Act}(h:Reach fid p N g w s a g' w' s' a')(b:Reach fid p N g' w' s' a' c w'' e d):Reach fid p N g w s a c w'' e d:=by
 have i:=h.le;have k:=b.le;exact⟨b.core,h.boxes.trans h.step.size b.boxes,(h.step.weaken fun x ⟨q,j,h1,h2,h3⟩=>⟨q,j,h1,by omega,h3⟩).trans h.boxes (b.step.weaken fun x ⟨q,j,h1,h2,h3⟩=>⟨q,j,by omega,h2,h3⟩),b.regs,b.size,b.defers.trans h.defers,by omega⟩
theorem Reach.refl{p:Id}{N:Nat}{g:Gh}{w:World}{s:St}{a:Act}(hc:Core fid g w s.B s.A)(c:qcY fid g w s.r a.tmps)(b:a.tmps.size=N):Reach fid p N g w s a g w s a:=
 ⟨hc,.refl _ _,.refl _ _ _ _,c,b,rfl,aU _⟩
def Ex.toExit:Ex->Exit
 | .normal=> .normal
 | .exit id=> .exit id
 | .ret=> .ret
theorem wY{m:Nat}:∀{r:List (Nat×AV)} {t:Nat} {v:AV},aD m r=true->lk r t=some v->v.safe m=true
 | [],t,v,_,h=>by simp[lk]at h
 |(x,u)::r,t,v,hs,h=>by
  simp only[aD,aF]at hs;simp only[lk]at h;split at h
  ·simp at h;subst h;exact hs.1
  ·exact wY hs.2 h
theorem mz{g:Gh}{w:World}{B:ah}{A:Ids}(h:Core fid g w B A){i b:Nat}(hb:g.bx i=some b):i<B.length:=by
 obtain⟨cs,arr,e,h1,_⟩:=h.box i b hb;exact(aK.1 h1).1
theorem HJ{p:Id}{N:Nat}{g0 g:Gh}{w0 w:World}{s0 s s':St}{a0 a:Act}(n:Core fid g0 w0 s0.B s0.A)(R:Reach fid p N g0 w0 s0 a0 g w s a){b idx:Nat}(l:w0.heap.size<=b)(e:g.bx idx=none)
 (k:Core fid (g.foc b idx) w s'.B s'.A) (o:∀x,s'.A x=true->s.A x=true) (m:s'.c=s.c) (u:qcY fid (g.foc b idx) w s'.r a.tmps):Reach fid p N g0 w0 s0 a0 (g.foc b idx) w s' a:=by
 have d:=R.step;refine⟨k,⟨fun i j h=> ?_,fun i j h=> ?_⟩,⟨d.os,d.tape,d.output,d.size,⟨fun x=> ?_,d.ext.cell,d.ext.row⟩,fun j h1 q t=> ?_,fun x hx=> ?_,fun x j hx hb=>d.org x j (o x hx) hb,d.arr⟩,u,R.size,R.defers,by rw[m];exact R.le⟩
 ·have h1:=R.boxes.old i j h
  simp only[Gh.foc];rw[ak (fun he=>by rw[he,e]at h1;simp at h1)];exact h1
 ·simp only[Gh.foc]at h
  split at h
  ·simp only[aB]at h;exact .inr (by omega)
  ·exact R.boxes.new i j h
 ·simp only[Gh.foc]
  split
  ·rename_i hx;rw[hx,n.K0 b l];exact aU _
  ·exact d.ext.K x
 ·obtain⟨y,k2⟩:=d.keep j h1 q t
  refine⟨y,?_⟩;simp only[Gh.foc];rw[ak (by omega)];exact k2
 ·have:=d.new x hx
  rw[m];exact this
theorem AP{A:Ids}{a:Id}{rs:List DV}{B:ah}(h:vv A a rs B=true){i:Nat}{cs:List AV}(hi:B[i]?=some (some cs)):∀v:AV,v∈cs->v.rest A a rs=true:=by
 have:=bu.1 h _ (bU hi);exact fun v b=>bu.1 this v b
theorem Cf:∀{r:List (Nat×AV)} {t:Nat} {v:AV},lk r t=some v->(t,v)∈r
 | [],t,v,h=>by simp[lk]at h
 |(x,u)::r,t,v,h=>by
  simp only[lk]at h;split at h
  ·rename_i a
   simp at h;subst h;subst a;simp
  ·exact dH _ (Cf h)
noncomputable def Gh.raise(w:World)(L:Nat)(ex:Option Nat)(g:Gh):Gh:=
 {K:=fun b=>open Classical in if∃j,L<=j/\ex≠some j/\g.bx j=some b then(match w.heap[b]? with|some (.cells arr _ _)=>arr.size|_=>0)else g.K b
  row:=g.row
  bx:=fun j=>if j<L then g.bx j else if j=L then ex.bind g.bx else none}
section
variable {g:Gh} {w:World} {B:ah} {A:Ids} {L:Nat} {ex:Option Nat}
theorem De(hc:Core fid g w B A)(b:Nat):g.K b<=(g.raise w L ex).K b:=by
 simp only[Gh.raise];split
 ·rename_i h
  obtain⟨j,_,_,hj⟩:=h;obtain⟨cs,arr,e,h1,d,k,c,i,a⟩:=hc.box j b hj;omega
 ·exact aU _
theorem N2(hc:Core fid g w B A):ExtV g w (g.raise w L ex) w:=⟨De hc,fun _ _=>rfl,fun _ _ h=>h⟩
theorem rc{b:Nat}(h:∀j,L<=j->ex≠some j->g.bx j≠some b):(g.raise w L ex).K b=g.K b:=by
 simp only[Gh.raise];rw[ak (fun⟨j,h1,h2,h3⟩=>h j h1 h2 h3)]
theorem yY(hc:Core fid g w B A){v:AV}{u:Value}(h:AVR fid g w v u)(hs:v.safe L=true):AVR fid (g.raise w L ex) w v u:=by
 have h1:=h.cutB (fid:=fid) hs;refine AVR.mono (g:=g.cutB L) (g':=g.raise w L ex) fid ⟨⟨fun b=>De hc b,fun _ _=>rfl,fun _ _ h=>h⟩,fun i b hb=> ?_⟩ h1;obtain⟨h1,a⟩:=iM hb;simp only[Gh.raise];rw[ap h1];exact a
theorem Nz{i:Nat}{cs:List AV}(h:aI (cC L B) i=some cs):L<=i/\aI B i=some cs:=by
 have h1:=iS.1 h;unfold cC at h1
 by_cases hi:i<L
 ·rw[bY (by simpa using hi)]at h1
  simp[hi]at h1
 ·rw[cj (by simp;omega)]at h1
  simp only[Cv,gk]at h1;rw[show L+(i-L)=i by omega]at h1;exact⟨by omega,iS.2 h1⟩
theorem B5(hc:Core fid g w B A):∀(n:Nat) (v:AV) (d:DV) (u:Value),AVR fid g w v u->(∀j,ex=some j->v.safe j=true)->v.frzC (cC L B) n=some d->VR (g.raise w L ex) w d u:=by
 have base:∀(l d:DV) (u:Value),AVR fid g w (.d l) u->some l=some d->VR (g.raise w L ex) w d u:=by
  intro l d u o h;simp only[aB]at h;subst h
  cases o with|d _ _ h=>exact h.mono (N2 hc)
 intro n
 induction n with
 |zero=>
  intro v d u o hs h;cases v with
  |d l=>exact base l d u o (by simpa only[AV.frzC]using h)
  |_=>simp[AV.frzC]at h
 |succ n J=>
  intro v d u o hs h;cases v with
  |d l=>exact base l d u o (by simpa only[AV.frzC]using h)
  |tsl agg i sz m=>
   simp only[AV.frzC]at h;obtain⟨cs,h1,N⟩:=aw.1 h;obtain⟨ds,W,D⟩:=aw.1 N;split at D
   ·rename_i hlen
    obtain⟨xs,V,rfl⟩:=au.1 D;obtain⟨t,h1⟩:=Nz h1;cases o with
    |tsl _ _ _ _ c b hb hn hm=>
     obtain⟨cs',arr,e,X,F,b3,b4,H,Z⟩:=hc.box i b hb;have:cs'=cs:=by have:=iS.1 h1;rw[X]at this;simpa using this
     subst this;obtain⟨Y,G⟩:=vQ W;have a:∀v:DV,v∈ds->v.isCell=true:=fun v Q=>by
      obtain⟨j,hj⟩:=c9.1 Q;obtain⟨av,C,q⟩:=G j v hj;exact Mt q (H av (bU C)).1
     obtain⟨c1,c2⟩:=w9 a V;have p:ex≠some i:=fun he=>by
      have:=hs i he;rw[eq]at this;simp at this
     have y:(g.raise w L ex).K b=arr.size:=by
      simp only[Gh.raise];rw[ap ⟨i,t,p,hb⟩,F]
     have key:VR (g.raise w L ex) w (.sl .sub xs) (.slice (some ⟨b,0,none⟩) xs.length c):=by
      refine .row _ xs ⟨b,0,none⟩ c sz (fun k=>arr.getD k undef) (by simp) (by omega) hm (fun k M=> ?_) (.inr ?_) (fun s x hx=>⟨(c2 s x hx).1,(c2 s x hx).2.1⟩) (fun s x j v hx hj=> ?_) (fun a' S I=>by simp at I)
      ·rw[lm]
       have:k<arr.size:=by rw[c1]at M;omega
       simp[World.cell?,F,bL,this]
      ·simp only;rw[y,c1];omega
      ·have C:=(c2 s x hx).2.2 j v hj
       obtain⟨av,q,O⟩:=G _ v C;have r:s*sz+j<arr.size:=by have:=(aK.1 q).1;omega
       simp only[bL,kg r,eE];refine J av v _ (b4 _ av _ q (by simp[r])) (fun R z=> ?_) O;have:=hs R z;rw[eq]at this;simp only[ba]at this;exact xZ (xA this) av (H av (bU q)).2
     rw[c1]at key;exact key
   ·simp at D
  |_=>simp[AV.frzC]at h
theorem OU(hc:Core fid g w B A)(v:AV)(d:DV)(u:Value)(e:AVR fid g w v u)(h:v.frz (cC L B)=some d):VR (g.raise w L none) w d u:=by
 cases v with
 |ag t cs=>
  cases t with
  |false=>
   simp only[AV.frz]at h;obtain⟨ds,h1,b⟩:=aw.1 h;split at b
   ·rename_i a
    simp only[aB]at b;subst b
    obtain⟨o,m⟩:=vQ h1;cases e with
    |ag _ us hs n=>
     exact .agg ds us (by omega) (fun v i=>bu.1 a v i) fun j v u hj c=>by
      obtain⟨av,l,k⟩:=m j v hj;exact B5 hc _ av v u (n j av u l c) (fun j h=>by simp at h) k
   ·simp at b
  |true=>simp only[AV.frz]at h;cases hB:(cC L B).length<;>simp[hB,AV.frzC]at h
 |_=>exact B5 hc (cC L B).length _ d u e (fun j h=>by simp at h) (by simpa only[AV.frz]using h)
theorem Lq{B':ah}(hc:Core fid g w B A)(hex:∀i,ex=some i->L<=i)(h1:∀i,i<L->B'[i]?=B[i]?)
 (O:∀i b cs,ex=some i->g.bx i=some b->B[i]?=some (some cs)->∃ds:List DV,B'[L]?=some (some (ds.map .d))/\ds.length=cs.length/\(∀d,d∈ds->d.isCell=true)/\
  ∀(k:Nat) (d:DV) (v:AV) (u:Value),ds[k]?=some d->cs[k]?=some v->AVR fid g w v u->v.safe i=true->VR (g.raise w L ex) w d u):Core fid (g.raise w L ex) w B' A:=by
 have m:∀j b,(g.raise w L ex).bx j=some b->(j<L/\g.bx j=some b)\/(j=L/\∃i,ex=some i/\g.bx i=some b):=fun j b h=>by
  simp only[Gh.raise]at h;split at h
  ·rename_i hj;exact .inl ⟨hj,h⟩
  ·split at h
   ·rename_i hj
    obtain⟨i,hi,hb⟩:=aw.1 h;exact .inr ⟨hj,i,hi,hb⟩
   ·simp at h
 refine⟨fun j b h=> ?_,fun i j b h R=> ?_,fun a ha=> ?_,hc.apart,fun b hb=> ?_⟩
 ·rcases m j b h with⟨hj,l⟩|⟨rfl,i,hi,l⟩
  ·obtain⟨cs,arr,e,I,D,b3,b4,r,C⟩:=hc.box j b l
   refine⟨cs,arr,e,by rw[h1 j hj];exact I,D,b3,fun k v u p F=>yY hc (b4 k v u p F) (xZ (xA hj) v (r v (bU p)).2),r,?_⟩;rw[rc (fun k s _ o=>by have:=hc.inj j k b l o;omega)];exact C
  ·obtain⟨cs,arr,e,I,D,b3,b4,r,C⟩:=hc.box i b l
   obtain⟨ds,d1,d2,d3,d4⟩:=O i b cs hi l I;refine⟨_,arr,e,d1,D,by rw[dK];omega,fun k v u p F=> ?_,fun v Q=> ?_,?_⟩
   ·simp only[cH]at p
    obtain⟨d,K,rfl⟩:=au.1 p;have s:k<cs.length:=by have:=(aK.1 K).1;omega
    have H:cs[k]?=some cs[k]:=by simp[s]
    exact .d _ _ (d4 k d _ u K H (b4 k _ u H F) (r _ (bU H)).2)
   ·obtain⟨d,hd,rfl⟩:=bP.1 Q
    exact⟨d3 d hd,a_ _ _⟩
   ·rw[rc (fun k s t o=>t (by rw[hi,hc.inj i k b l o]))];exact C
 ·rcases m i b h with⟨hi,l⟩|⟨rfl,y,z,l⟩<;>rcases m j b R with⟨hj,q⟩|⟨rfl,J,G,q⟩
  ·exact hc.inj i j b l q
  ·have:=hc.inj i J b l q
   have:=hex J G;omega
  ·have:=hc.inj j y b q l
   have:=hex y z;omega
  ·rfl
 ·obtain⟨b,n,c,sz,arr,e,M,V,S,N,W,x⟩:=hc.opn a ha
  refine⟨b,n,c,sz,arr,e,M,V,S,by rw[rc (fun k _ _ o=>x k o)];exact N,W,fun i hi=> ?_⟩;rcases m i b hi with⟨_,l⟩|⟨_,y,_,l⟩
  ·exact x _ l
  ·exact x _ l
 ·rw[rc (fun k _ _ o=>by have:=hc.lt o;omega)]
  exact hc.K0 b hb
end
theorem Ie{p:Id}{N:Nat}{g0 g:Gh}{w0 w:World}{s0 s s':St}{a0 a:Act}{L:Nat}{ex:Option Nat}(l:Core fid g0 w0 s0.B s0.A)(C:s0.B.length<=L)(hex:∀i,ex=some i->L<=i)(R:Reach fid p N g0 w0 s0 a0 g w s a)
 (e:Core fid (g.raise w L ex) w s'.B s'.A) (z:s'.A=s.A) (n:s'.c=s.c) (y:qcY fid (g.raise w L ex) w s'.r a.tmps):Reach fid p N g0 w0 s0 a0 (g.raise w L ex) w s' a:=by
 have d:=R.step;refine⟨e,⟨fun i b h=> ?_,fun i b h=> ?_⟩,⟨d.os,d.tape,d.output,d.size,⟨fun x=>cN (d.ext.K x) (De R.core x),d.ext.cell,d.ext.row⟩,fun b h1 o m=> ?_,fun x hx=> ?_,fun x b hx hb=>d.org x b (by rw[<-z];exact hx) hb,d.arr⟩,y,R.size,R.defers,by rw[n];exact R.le⟩
 ·have h1:=mz l h
  simp only[Gh.raise];rw[ap (by omega)];exact R.boxes.old i b h
 ·simp only[Gh.raise]at h
  split at h
  ·exact R.boxes.new i b h
  ·rename_i hi
   split at h
   ·obtain⟨j,hj,hb⟩:=aw.1 h
    rcases R.boxes.new j b hb with m|m
    ·have:=mz l m
     have:=hex j hj;omega
    ·exact .inr m
   ·simp at h
 ·obtain⟨u,k2⟩:=d.keep b h1 o m
  refine⟨u,?_⟩;rw[rc (fun k _ _ t=>by
   rcases R.boxes.new k b t with q|q
   ·exact o k q
   ·omega)]
  exact k2
 ·have:=d.new x hx
  rw[n];exact this
theorem MX{p:Id}{N:Nat}{g0 g:Gh}{w0 w:World}{s0 s s':St}{a0 a:Act}(S:Core fid g0 w0 s0.B s0.A)(hA0:∀x,s0.A x=false){x:Gho}(hL:x.low s0.B.length=true)(R:Reach fid p N g0 w0 s0 a0 g w s a)(h:gE x s=some s'):
 ∃g',Reach fid p N g0 w0 s0 a0 g' w s' a:=by
 have foc:∀{H:Id} {sz:Nat} {y:DV} {ys:List DV} {u:Value} (idx:Nat),s.A H=true->VR g w (.sl (.own H sz) (y::ys)) u->g.bx idx=none->DV.rests s.A H ((y::ys).flatMap DV.cells) ((y::ys).flatMap DV.cells)=true->
  ∃b c,u= .slice (some ⟨b,0,none⟩) (ys.length+1) c/\ys.length+1<=c/\c<=maxLen/\w0.heap.size<=b/\(∀(v:AV) (u:Value),AVR fid g w v u->v.rest s.A H ((y::ys).flatMap DV.cells)=true->AVR fid (g.foc b idx) w v u)/\
   ∀B2:ah,B2[idx]?=some (some (((y::ys).flatMap DV.cells).map .d))->
    (∀i I,g.bx i=some I->∃cs arr e,B2[i]?=some (some cs)/\w.heap[I]?=some (.cells arr e (0,0))/\cs.length<=arr.size/\(∀(j:Nat) (v:AV) (u:Value),cs[j]?=some v->arr[j]?=some u->AVR fid (g.foc b idx) w v u)/\(∀v,v∈cs->v.isCell=true/\v.safe i=true))->
    Core fid (g.foc b idx) w B2 (Ids.del H s.A):=by
  intro H sz y ys u idx ha F m hrs;obtain⟨b,c,arr,e,hu,J,hb,hsz,hK,hn,hm,hnb,hlen,n,V⟩:=CX R.core ha F;have q:w0.heap.size<=b:=by
   rcases R.step.org H b ha (by simp[Gh.blk,J])with h1|⟨a2,h1,_⟩
   ·exact h1
   ·rw[hA0 a2]at h1;simp at h1
  have Q:∃arr e,w.heap[b]?=some (.cells arr e (0,0))/\∀(k:Nat) (u:Value),k<g.K b->arr[k]?=some u->∃r:DV,r∈(y::ys).flatMap DV.cells/\r.isCell=true/\VR g w r u:=by
   refine⟨arr,e,hb,fun k u hk hu=> ?_⟩;have h4:k<((y::ys).flatMap DV.cells).length:=by rw[hlen,<-hK];exact hk
   have M:((y::ys).flatMap DV.cells)[k]?=some ((y::ys).flatMap DV.cells)[k]:=eh h4;exact⟨_,bU M,n _ (bU M),V k _ u M hu⟩
  have x1:∀a' x,s.A a'=true->a'≠H->g.row a'=some x->x.1≠b:=fun a' x h1 C h3 he=>C (R.core.apart a' H b x.2 _ h1 ha (by rw[h3,<-he]) J)
  have Y:∀x,x≠b->(g.foc b idx).K x=g.K x:=fun x hx=>by simp[Gh.foc,hx]
  have hbx:∀i I,g.bx i=some I->(g.foc b idx).bx i=some I:=fun i I hi=>by
   simp only[Gh.foc];rw[ak (fun he=>by rw[he,m]at hi;simp at hi)];exact hi
  refine⟨b,c,hu,hn,hm,q,fun v u h1 C=>T8 (g:=g) (g2:=g.foc b idx) rfl Y hbx Q x1 h1 C,fun B2 C hbox=> ?_⟩;exact My R.core ha J hb hsz hn hnb m hlen n (fun k d u' hk hu'=>LD (g:=g) (g2:=g.foc b idx) rfl Y Q x1 (V k d u' hk hu') (nS hrs d (bU hk))) C hbox
 cases x with
 |focR t live=>
  simp only[gE]at h;split at h
  ·rename_i H sz y ys hl
   split at h
   ·rename_i hc
    obtain⟨ha,ht,h1,C,h3⟩:=hc;simp only[aB]at h;subst h
    have F:=cX (R.regs t _ hl);have m:g.bx s.B.length=none:=by
     cases hb:g.bx s.B.length with
     |none=>rfl
     |some b=>have:=mz R.core hb;omega
    obtain⟨b,c,hu,hn,hm,q,tr,core⟩:=foc s.B.length ha F m h3;refine⟨g.foc b s.B.length,HJ S R q m (core _ (by simp) (fun i I hi=> ?_)) (fun x hx=>by simp only[Ids.del,aF]at hx;exact hx.2) rfl (fun t' v l=> ?_)⟩
    ·obtain⟨cs,arr,e,W,q2,q3,q4,Z,q6⟩:=R.core.box i I hi
     have h4:=(aK.1 W).1;exact⟨cs,arr,e,by rw[bY h4];exact W,q2,q3,fun j v u D O=>tr v u (q4 j v u D O) (AP C W v (bU D)),Z⟩
    ·simp only[lk]at l
     split at l
     ·rename_i he
      simp only[aB]at l;subst l;subst he
      rw[hu];exact .tsl _ _ _ _ c b (by simp[Gh.foc]) hn hm
     ·exact tr v _ (R.regs t' v (mo l)) (bu.1 h1 _ (Cf l))
   ·simp at h
  ·simp at h
 |focC t off live=>
  simp only[gE]at h;split at h
  ·rename_i j o hl
   obtain⟨cs,hcs,h⟩:=aw.1 h;split at h
   ·rename_i H sz y ys n
    split at h
    ·rename_i hc
     obtain⟨ha,hf,h1,C,h3⟩:=hc;simp only[aB]at h;subst h
     obtain⟨bj,b1,_⟩:=fh (R.regs t _ hl);obtain⟨cs',arr,e,W,q2,q3,q4,Z,q6⟩:=R.core.box (j+1) bj b1;have:cs'=cs:=by have:=iS.1 hcs;rw[W]at this;simpa using this
     subst this;have holt:o+off<cs'.length:=(aK.1 n).1;have b2:j+1<s.B.length:=(aK.1 W).1;obtain⟨u0,hu0⟩:∃u0,arr[o+off]?=some u0:=⟨arr[o+off],by simp[show o+off<arr.size by omega]⟩;have F:=cX (q4 _ _ u0 n hu0);have m:g.bx j=none:=by
      cases hb:g.bx j with
      |none=>rfl
      |some b=>
       obtain⟨G,X,O,z1,_⟩:=R.core.box j b hb;unfold ct at hf;rw[z1]at hf;simp at hf
     obtain⟨b,c,hu,hn,hm,q,tr,core⟩:=foc j ha F m h3;refine⟨g.foc b j,HJ S R q m (core _ (by rw[hI (by rw[kr];omega)]) (fun i I hi=> ?_)) (fun x hx=>by simp only[Ids.del,aF]at hx;exact hx.2) rfl (fun t' v l=> ?_)⟩
     ·have x3:j≠i:=fun he=>by rw[<-he,m]at hi;simp at hi
      by_cases x2:i=j+1
      ·subst x2
       have Q:I=bj:=by rw[b1]at hi;simpa using hi.symm
       subst Q;have z:(s.B.set (j+1) (some (cs'.set (o+off) (.tsl (bJ y) j sz (ys.length+1)))))[j+1]?=some (some (cs'.set (o+off) (.tsl (bJ y) j sz (ys.length+1)))):=by rw[hI b2]
       refine⟨_,arr,e,by rw[dh x3];exact z,q2,by rw[kr];exact q3,fun k v u D O=> ?_,fun v F=> ?_⟩
       ·by_cases hk:k=o+off
        ·subst hk
         rw[hI holt]at D;simp only[aB]at D;subst D
         have:u=u0:=by rw[hu0]at O;simpa using O.symm
         rw[this,hu];exact .tsl _ _ _ _ c b (by simp[Gh.foc]) hn hm
        ·have e1':=D
         rw[dh (Ne.symm hk)]at D;exact tr v u (q4 k v u D O) (AP C z v (bU e1'))
       ·rcases qh F with F|F
        ·exact Z v F
        ·subst F
         exact⟨rfl,by rw[eq];simp⟩
      ·obtain⟨G,X,O,z1,z2,z3,z4,z5,z6⟩:=R.core.box i I hi
       have z:(s.B.set (j+1) (some (cs'.set (o+off) (.tsl (bJ y) j sz (ys.length+1)))))[i]?=some (some G):=by rw[dh (Ne.symm x2)];exact z1
       exact⟨G,X,O,by rw[dh x3];exact z,z2,z3,fun k v u D O=>tr v u (z4 k v u D O) (AP C z v (bU D)),z5⟩
     ·exact tr v _ (R.regs t' v (mo l)) (bu.1 h1 _ (Cf l))
    ·simp at h
   ·simp at h
  ·simp at h
 |frzR t L live=>
  simp only[gE]at h;simp only[Gho.low,ba]at hL;split at h
  ·rename_i v hl
   split at h
   ·rename_i hc
    obtain⟨ht,h1,C⟩:=hc;obtain⟨d,hd,rfl⟩:=au.1 h;refine⟨g.raise w L none,Ie S hL (fun i hi=>by simp at hi) R (Lq R.core (fun i hi=>by simp at hi) (fun i hi=>by rw[ew,ap hi]) (fun i b cs hi=>by simp at hi)) rfl rfl (fun t' v' l=> ?_)⟩;simp only[lk]at l;split at l
    ·rename_i he
     simp only[aB]at l;subst l;subst he
     exact .d _ _ (OU R.core v d _ (R.regs _ v hl) hd)
    ·exact yY R.core (R.regs t' v' (mo l)) (wY h1 l)
   ·simp at h
  ·simp at h
 |frzB t L live=>
  simp only[gE]at h;simp only[Gho.low,ba]at hL;split at h
  ·rename_i i hl
   split at h
   ·rename_i hc
    obtain⟨hLi,ht,h1,C⟩:=hc;obtain⟨cs,hcs,h⟩:=aw.1 h;obtain⟨ds,hds,h⟩:=aw.1 h;split at h
    ·rename_i h5
     simp only[aB]at h;subst h
     obtain⟨bi,hbi,hev⟩:=fh (R.regs t _ hl);obtain⟨l1,l2⟩:=vQ hds;have htl:(s.B.take L).length=L:=by rw[sk];omega
     refine⟨g.raise w L (some i),Ie S hL (fun j hj=>by simp at hj;omega) R (Lq R.core (fun j hj=>by simp at hj;omega) (fun j hj=>by rw[bY (by omega),ew,ap hj]) (fun j b G hj hb hcs2=> ?_)) rfl rfl (fun t' v' l=> ?_)⟩
     ·simp only[aB]at hj;subst hj
      have:G=cs:=by have:=iS.1 hcs;rw[hcs2]at this;simpa using this
      subst this;refine⟨ds,by rw[cj (by omega),htl];simp,l1,fun d hd=>bu.1 h5 d hd,fun k d v u W q2 q3 q4=> ?_⟩;obtain⟨v2,Z,q6⟩:=l2 k d W;rw[q2]at Z;simp only[aB]at Z;subst Z
      exact B5 R.core _ v d u q3 (fun j hj=>by simp at hj;subst hj;exact q4) q6
     ·simp only[lk]at l
      split at l
      ·rename_i he
       simp only[aB]at l;subst l;subst he
       rw[hev];exact .ptr _ _ _ (by simp[Gh.raise,hbi])
      ·exact yY R.core (R.regs t' v' (mo l)) (wY h1 l)
    ·simp at h
   ·simp at h
  ·simp at h
theorem OH{p:Id}{N:Nat}{g0 gl g:Gh}{w0 wl w:World}{s0 sl s s1:St}{a0 j a:Act}{live:List Nat}(d:Reach fid p N g0 w0 s0 a0 gl wl sl j)(h:Reach fid p N g0 w0 s0 a0 g w s a)(hh:qe sl.B.length live s=some s1):
 Reach fid p N g0 w0 s0 a0 (g.cutB sl.B.length) w s1 a:=by
 unfold qe at hh;simp only at hh;split at hh
 ·rename_i hs
  simp at hh;subst hh;refine⟨h.core.cutB _,⟨fun i b hb=> ?_,fun i b hb=>h.boxes.new i b (iM hb).2⟩,⟨h.step.os,h.step.tape,h.step.output,h.step.size,⟨h.step.ext.K,h.step.ext.cell,h.step.ext.row⟩,h.step.keep,h.step.new,h.step.org,h.step.arr⟩,fun t v c=> ?_,h.size,h.defers,h.le⟩
  ·have h1:=mz d.core (d.boxes.old i b hb)
   have e:=h.boxes.old i b hb;simp[Gh.cutB,h1,e]
  ·exact(yj h.regs live t v c).cutB (wY hs.1 c)
 ·simp at hh
def l6(s0:St)(vc:VCode):Prop:=vc.plain=true\/((∀x,s0.A x=false)/\vc.over s0.B.length=true)
theorem LG{call:aZ}(u:gm P fid call)(hm:P.follows .mixedOrders=true){p:Id}{n N:Nat}{g0:Gh}{w0:World}{s0:St}{a0:Act}(x3:Core fid g0 w0 s0.B s0.A)(I:fu g0 p s0.c):∀(vc:VCode) (c:Code) (g:Gh) (w:World) (a:Act) (s s':St) (e:Ex),
 l6 s0 vc->bN P fid N c vc=true->Reach fid p N g0 w0 s0 a0 g w s a->bF call p n vc s=some (e,s')->
 ∀(Q:Exit->Act->World->Prop),(∀g' w' a',Reach fid p N g0 w0 s0 a0 g' w' s' a'->Q e.toExit a' w')->c.wp P Q a w:=by
 intro vc
 induction vc with
 |ghost x y J=>
  intro c g w a s s' e d b R i Q j;simp only[bN]at b;simp only[bF]at i;obtain⟨s1,h1,k⟩:=aw.1 i;rcases d with d|⟨C,d⟩
  ·simp[VCode.plain]at d
  ·simp only[VCode.over,aF]at d
   obtain⟨g',R'⟩:=MX x3 C d.1 R h1;exact J c g' w a s1 s' e (.inr ⟨C,d.2⟩) b R' k Q j
 |regionT na live pre tl=>
  intro c g w a s s' e d b R i Q j;cases c with
  |region id G l=>
   cases l with
   |false=>cases tl<;>simp[bN]at b
   |true=>
    simp only[bF]at i;obtain⟨s1,h1,k⟩:=au.1 i;simp at k;obtain⟨rfl,rfl⟩:=k;exact Vr u hm b R.core R.regs R.size (ig R.step R.le I) h1 fun g' a' w' c1 X st1 O K d1 V=>j g' w' a' (R.trans ⟨c1,X,st1,O,K,d1,V⟩)
  |_=>cases tl<;>simp[bN]at b
 |skip=>
  intro c g w a s s' e d b R i Q j;cases c with
  |skip=>
   simp[bF]at i;obtain⟨rfl,rfl⟩:=i
   exact wp_skip (j g w a R)
  |_=>simp[bN]at b
 |ret=>
  intro c g w a s s' e d b R i Q j;cases c with
  |ret=>
   simp[bF]at i;obtain⟨rfl,rfl⟩:=i
   exact wp_ret (j g w a R)
  |_=>simp[bN]at b
 |exit id=>
  intro c g w a s s' e d b R i Q j;cases c with
  |exit S=>
   simp[bN]at b;subst b
   simp[bF]at i;obtain⟨rfl,rfl⟩:=i
   exact wp_exit (j g w a R)
  |_=>simp[bN]at b
 |seq x y ihx H=>
  intro c g w a s s' e d b R i Q j;have b2:l6 s0 x:=by
   rcases d with d|⟨C,d⟩
   ·simp only[VCode.plain,aF]at d;exact .inl d.1
   ·simp only[VCode.over,aF]at d;exact .inr ⟨C,d.1⟩
  have r:l6 s0 y:=by
   rcases d with d|⟨C,d⟩
   ·simp only[VCode.plain,aF]at d;exact .inl d.2
   ·simp only[VCode.over,aF]at d;exact .inr ⟨C,d.2⟩
  cases c with
  |seq x' F=>
   simp[bN]at b;simp only[bF]at i;obtain⟨⟨W,s1⟩,h1,k⟩:=aw.1 i;refine wp_seq (ihx x' g w a s s1 W b2 b.1 R h1 _ fun g1 o q D=> ?_);cases W with
   |normal=>
    simp only at k;show F.wp P Q q o;exact H F g1 o q s1 s' e r b.2 D k Q j
   |exit id=>
    simp at k;obtain⟨rfl,rfl⟩:=k;exact j g1 o q D
   |ret=>
    simp at k;obtain⟨rfl,rfl⟩:=k;exact j g1 o q D
  |_=>simp[bN]at b
 |regionF draw na live fs=>
  intro c g w a s s' e d b R i Q j;cases c with
  |region id G l=>
   simp[bN]at b;obtain⟨rfl,b⟩:=b;simp only[bF]at i;obtain⟨s1,h1,k⟩:=au.1 i;simp at k;obtain⟨rfl,rfl⟩:=k;exact FM u hm b R.core R.regs R.size (ig R.step R.le I) h1 fun g' a' w' c1 X st1 O K d1 V=>j g' w' a' (R.trans ⟨c1,X,st1,O,K,d1,V⟩)
  |_=>simp[bN]at b
 |region draw na live ops=>
  intro c g w a s s' e d b R i Q j;cases c with
  |region id G l=>
   simp[bN]at b;obtain⟨rfl,b⟩:=b;simp only[bF]at i;obtain⟨s1,h1,k⟩:=au.1 i;simp at k;obtain⟨rfl,rfl⟩:=k;exact FM u hm b R.core R.regs R.size (ig R.step R.le I) h1 fun g' a' w' c1 X st1 O K d1 V=>j g' w' a' (R.trans ⟨c1,X,st1,O,K,d1,V⟩)
  |_=>simp[bN]at b
 |cond x y z H x2=>
  intro c g w a s s' e d b R i Q j;have r:l6 s0 y:=by
   rcases d with d|⟨C,d⟩
   ·simp only[VCode.plain,aF]at d;exact .inl d.1
   ·simp only[VCode.over,aF]at d;exact .inr ⟨C,d.1⟩
  have a2:l6 s0 z:=by
   rcases d with d|⟨C,d⟩
   ·simp only[VCode.plain,aF]at d;exact .inl d.2
   ·simp only[VCode.over,aF]at d;exact .inr ⟨C,d.2⟩
  cases c with
  |cond x' F z'=>
   simp[bN]at b;obtain⟨⟨hx,hy⟩,hz⟩:=b;simp only[bF]at i;split at i
   ·rename_i Z
    have:=ja (bq (w:=w) R.regs hx Z);refine wp_cond (t:=true) this ?_;simp only[if_true];exact H F g w a s s' e r hy R i Q j
   ·rename_i Z
    have:=ja (bq (w:=w) R.regs hx Z);refine wp_cond (t:=false) this ?_;simp only[bI,if_false];exact x2 z' g w a s s' e a2 hz R i Q j
   ·simp at i
  |_=>simp[bN]at b
 |block id y J=>
  intro c g w a s s' e d b R i Q j;have r:l6 s0 y:=d;cases c with
  |block S F=>
   simp[bN]at b;obtain⟨rfl,b⟩:=b;simp only[bF]at i;obtain⟨⟨W,s1⟩,h1,k⟩:=au.1 i;refine wp_block (J F g w a s s1 W r b R h1 _ fun g1 o q D=> ?_);split at k
   ·rename_i he
    simp at he;subst he;simp at k;obtain⟨rfl,rfl⟩:=k;simp only[Ex.toExit,Exit.inBlock,if_true];exact j g1 o q D
   ·rename_i he
    simp at he k;obtain⟨rfl,rfl⟩:=k;cases W with
    |normal=>exact j g1 o q D
    |ret=>exact j g1 o q D
    |exit id=>
     have:id≠S:=fun h=>he (by rw[h])
     simp only[Ex.toExit,Exit.inBlock,this,if_false];exact j g1 o q D
  |_=>simp[bN]at b
 |loop live y J=>
  intro c g w a s s' e d b R i Q j;have r:l6 s0 y:=d;cases c with
  |loop F=>
   simp[bN]at b;simp only[bF]at i;have key:∀(m:Nat) (g1:Gh) (o:World) (q:Act) (s1:St),Reach fid p N g0 w0 s0 a0 g1 o s1 q->iX (bF call p n y) s.B.length live m s1=some (e,s')->Code.rounds P F Q m q o:=by
    intro m
    induction m with
    |zero=>intro g1 o q s1 _ h;simp[iX]at h
    |succ m x1=>
     intro g1 o q s1 D h;simp only[iX]at h;obtain⟨s2,k,h3⟩:=aw.1 h;obtain⟨⟨e3,s3⟩,h4,M⟩:=aw.1 h3;have R2:=OH R D k;rw[rounds_succ];refine J F _ o q s2 s3 e3 r b R2 h4 _ fun g3 w3 a3 Y=> ?_
     cases e3 with
     |normal=>exact x1 g3 w3 a3 s3 Y M
     |exit id=>
      simp at M;obtain⟨rfl,rfl⟩:=M;exact j g3 w3 a3 Y
     |ret=>
      simp at M;obtain⟨rfl,rfl⟩:=M;exact j g3 w3 a3 Y
   exact wp_loop_rounds n (key n g w a s R i)
  |_=>simp[bN]at b
theorem kI{call:aZ}(b:gm P fid call)(hm:P.follows .mixedOrders=true){p:Id}{n N:Nat}(vc:VCode)(i:vc.plain=true)(c:Code)(g:Gh)(w:World)(a:Act)(s s':St)(e:Ex)
 (d:bN P fid N c vc=true) (hc:Core fid g w s.B s.A) (l:qcY fid g w s.r a.tmps) (j:a.tmps.size=N) (h:fu g p s.c) (k:bF call p n vc s=some (e,s'))
 (Q:Exit->Act->World->Prop) (m:∀g' w' a',Reach fid p N g w s a g' w' s' a'->Q e.toExit a' w'):c.wp P Q a w:=
 LG b hm hc h vc c g w a s s' e (.inl i) d (.refl hc l j) k Q m
end
section
variable {P:Program} {fid:Nat->FuncId}
def nq(tmps:Array Value):ResultVar->Sem Value
 | .tmp t=>pure (tmps.getD t undef)
 | .cell a t=>do loadVar t (<-asAddr (tmps.getD a undef))
theorem rH{g:Gh}{w:World}{s:St}{d:Array Value}(hc:Core fid g w s.B s.A)(e:qcY fid g w s.r d):∀(l:List ResultVar) (rs:List VRes) (vs:List AV),gQ P l rs=true->iK s rs=some vs->
 ∃us:List Value,(l.mapM (nq d)).run P w= .ok us w/\us.length=vs.length/\∀(j:Nat) (v:AV) (u:Value),vs[j]?=some v->us[j]?=some u->AVR fid g w v u
 | [],[],vs,_,h=>by
  simp[iK]at h;subst h
  exact⟨[],by simp,rfl,fun j v u h=>by simp at h⟩
 |x::l,y::rs,vs,a,h=>by
  simp only[iK]at h;obtain⟨v,h1,p⟩:=aw.1 h;obtain⟨k,z,rfl⟩:=au.1 p;have step:∃u,(nq d x).run P w= .ok u w/\AVR fid g w v u/\gQ P l rs=true:=by
   cases x with
   |tmp t=>
    cases y with
    |tmp o=>
     simp[gQ]at a;obtain⟨rfl,a⟩:=a;simp only[iv]at h1;exact⟨d.getD t undef,by simp[nq],e t v h1,a⟩
    |cell o ag sz=>simp[gQ]at a
   |cell t ty=>
    cases y with
    |tmp o=>simp[gQ]at a
    |cell o ag sz=>
     simp[gQ]at a;obtain⟨⟨⟨rfl,ha⟩,hs⟩,a⟩:=a;simp only[iv]at h1;split at h1
     ·rename_i i off C
      obtain⟨blk,hb,he⟩:=fh (e t _ C);obtain⟨u,b,m,n⟩:=Gv hc hb h1;refine⟨u,?_,b,a⟩;have:=AY (P:=P) (w:=w) (ad:=⟨blk,off,none⟩) (u:=u) ha hs m n;unfold nq;simp only[Sem.run_bind];rw[he];simp[asAddr,this]
     ·simp at h1
  obtain⟨u,G,q,c⟩:=step;obtain⟨us,H,I,F⟩:=rH hc e l rs k c z;refine⟨u::us,?_,by simp[I],fun j v' D hj b=> ?_⟩
  ·simp[List.mapM_cons,G,H]
  ·cases j with
   |zero=>simp at hj b;subst hj;subst b;exact q
   |succ j=>simp at hj b;exact F j v' D hj b
 | [],_::_,_,h,_=>by simp[gQ]at h
 |x::_,[],_,h,_=>by cases x<;>simp[gQ]at h
def sV:List Value->Value
 | [u]=>u
 |us=> .tuple us.toArray
theorem Wd(fn:Func)(a:Array Value):results fn a=(do
 let vs<-fn.results.mapM (nq a)
 pure (if h:vs.size=1 then vs[0]else .tuple vs)):=by
 unfold results
 congr 2
theorem wG{fn:Func}{a:Array Value}{w:World}{us:List Value}(h:(fn.results.toList.mapM (nq a)).run P w= .ok us w):
 (results fn a).run P w= .ok (sV us) w:=by
 rw[Wd,Array.mapM_eq_mapM_toList];simp only[Sem.run_bind,h,map_eq_pure_bind,Result.andThen_ok,Sem.run_pure]
 match us with
 | []=>simp[sV]
 | [u]=>simp[sV]
 |u::v::r=>simp[sV]
theorem qH{p:Id}{N:Nat}{g0 g:Gh}{w0 w:World}{s0 s:St}{a0 a:Act}{fn:Func}{rs:List VRes}{r:Res}(a1:Core fid g0 w0 s0.B s0.A)(hfr:fu g0 p s0.c)(h:Reach fid p N g0 w0 s0 a0 g w s a)
 (Y:gQ P fn.results.toList rs=true) (J:finish s0.B.length p s rs=some r):
 ∃u,(results fn a.tmps).run P w= .ok u w/\∃g',Post fid (from_ p 0) g0 w0 s0.A r u g' w:=by
 have x2:=ig h.step h.le hfr;have l:Step (from_ p 0) g0 w0 s0.A g w s.A:=h.step.weaken fun x ⟨q,j,h1,h2,h3⟩=>⟨q,j,cE _,h3⟩
 have m:Boxes g0 w0 (g.cutB s0.B.length):=⟨fun i b hb=>by
  have h1:=mz a1 hb;have h2:=h.boxes.old i b hb;simp[Gh.cutB,h1,h2],fun i b hb=>h.boxes.new i b (iM hb).2⟩
 have C:Step (from_ p 0) g0 w0 s0.A (g.cutB s0.B.length) w s.A:=⟨l.os,l.tape,l.output,l.size,⟨l.ext.K,l.ext.cell,l.ext.row⟩,l.keep,l.new,l.org,l.arr⟩;have S:ExtV g w (g.cutB s0.B.length) w:=⟨fun _=>aU _,fun _ _=>rfl,fun _ _ h=>h⟩;unfold finish at J;split at J
 ·
  rename_i v hv;simp at J;subst J
  obtain⟨us,r1,X,r3⟩:=rH h.core h.regs _ _ _ Y hv
  match us,X with
  | [u],_=>
   refine⟨u,wG r1,g.cutB s0.B.length,AVR.data fid S (r3 0 _ u rfl rfl),h.core.cutB _,m,C⟩
 ·
  rename_i i off hv;simp at J;subst J
  obtain⟨us,r1,X,r3⟩:=rH h.core h.regs _ _ _ Y hv
  match us,X with
  | [u],_=>exact⟨u,wG r1,g,r3 0 _ u rfl rfl,h.core,h.boxes,l⟩
 ·
  rename_i idb agg i sz n hv;split at J
  ·rename_i hL
   obtain⟨hLi,hn63⟩:=hL;obtain⟨cs,h1,h2⟩:=aw.1 J;obtain⟨avs,h3,h4⟩:=aw.1 h1;split at h2
   ·rename_i hlen
    obtain⟨xs,h5,rfl⟩:=au.1 h2;obtain⟨us,r1,X,r3⟩:=rH h.core h.regs _ _ _ Y hv
    match us,X with
    | [u],_=>
     have hu:=r3 0 _ u rfl rfl;refine⟨u,wG r1,?_⟩;cases hu with
     |bsl _ _ _ _ _ b hb=>
      obtain⟨bcs,arr,e,b1,b2,b3,b4,b5,b6⟩:=h.core.box i b hb;have x3:avs=bcs:=by
       have:=iS.1 h3;rw[b1]at this;simp at this;exact this.symm
      subst x3;have M:=ft h4;have hbnew:w0.heap.size<=b:=by
       rcases h.boxes.new i b hb with G|G
       ·have:=mz a1 G;omega
       ·exact G
      have O:g.row (s.c::p)=none:=by have:=x2 [] s.c (aU _);simpa using this
      have F:∀H,(g.cutB s0.B.length).bx H≠some b:=fun H G=>by
       obtain⟨h7,h8⟩:=iM G;have:=h.core.inj i H b hb h8;omega
      have hE:ExtV g w {K:=fun x=>if x=b then n*sz else g.K x,row:=fun a=>if a=s.c::p then some (b,n,n,sz)else g.row a,bx:=(g.cutB s0.B.length).bx} w:=by
       refine⟨fun x=> ?_,fun _ _=>rfl,fun a x hx=> ?_⟩
       ·simp only;split
        ·rename_i hx;rw[hx,b6];exact cE _
        ·exact aU _
       ·simp only
        rw[ak (fun he=>by rw[he,O]at hx;simp at hx)];exact hx
      have hE2:Ext (g.cutB s0.B.length) w {K:=fun x=>if x=b then n*sz else g.K x,row:=fun a=>if a=s.c::p then some (b,n,n,sz)else g.row a,bx:=(g.cutB s0.B.length).bx} w:=⟨⟨hE.K,hE.cell,hE.row⟩,fun _ _ h=>h⟩;have Q:∀v:DV,v∈cs->v.isCell=true:=fun v hvm=>by
       have:=(b5 (.d v) (by rw[M];exact List.mem_map_of_mem hvm)).1;exact this
      obtain⟨c1,c2⟩:=w9 Q h5;have hal:n*sz<=arr.size:=by rw[M]at b3;simpa[hlen]using b3
      refine⟨{K:=fun x=>if x=b then n*sz else g.K x,row:=fun a=>if a=s.c::p then some (b,n,n,sz)else g.row a,bx:=(g.cutB s0.B.length).bx},?_,⟨fun H t G=> ?_,fun i1 i2 t G h7=> ?_,fun x hx=> ?_,fun x x' t y y' hx D V W=> ?_,fun t I=> ?_⟩,⟨m.old,m.new⟩,⟨l.os,l.tape,l.output,l.size,l.ext.trans hE,fun t I hx1 hx2=> ?_,fun x hx=> ?_,fun x t hx I=> ?_,l.arr⟩⟩
      ·have key:VR {K:=fun x=>if x=b then n*sz else g.K x,row:=fun a=>if a=s.c::p then some (b,n,n,sz)else g.row a,bx:=(g.cutB s0.B.length).bx} w (.sl (.own (s.c::p) sz) xs) (.slice (some ⟨b,0,none⟩) xs.length xs.length):=by
        refine .row _ xs ⟨b,0,none⟩ xs.length sz (fun k=>arr.getD k undef) (by simp) (aU _) (by rw[c1];unfold maxLen;omega) (fun k hk=> ?_) (.inr (by simp[c1])) (fun H x hx=>⟨(c2 H x hx).1,(c2 H x hx).2.1⟩) (fun H x j v hx hj=> ?_) (fun a' x1 ht=> ?_)
        ·rw[lm]
         have:k<arr.size:=by rw[c1]at hk;omega
         simp[World.cell?,b2,bL,this]
        ·have G:=(c2 H x hx).2.2 j v hj
         have h7:(H*sz+j)<arr.size:=by
          have:=(aK.1 G).1;omega
         have h8:=b4 (H*sz+j) (.d v) (arr[H*sz+j]) (by rw[M];simp[G]) (by simp[h7]);have h9:=cX h8;simp[bL,h7];exact h9.mono hE
        ·simp at ht
         obtain⟨rfl,rfl⟩:=ht;refine⟨rfl,rfl,rfl,?_,fun h=>by simp[h]⟩;simp[c1]
       rw[c1]at key;exact .d _ _ key
      ·obtain⟨h7,h8⟩:=iM G
       obtain⟨cs',arr',e',d1,d2,d3,d4,d5,d6⟩:=(h.core.cutB s0.B.length).box H t G;have o:t≠b:=fun he=>by rw[he]at G;exact F H G
       refine⟨cs',arr',e',d1,d2,d3,fun j v u q1 q2=>(d4 j v u q1 q2).mono fid hE2,d5,?_⟩;simp only[ak o];exact d6
      ·exact(h.core.cutB s0.B.length).inj i1 i2 t G h7
      ·simp only[Ids.add,ci,ba]at hx
       rcases hx with rfl|hx
       ·exact⟨b,n,n,sz,arr,e,by simp,b2,hal,by simp,aU _,F⟩
       ·obtain⟨t,n',c',x1,arr',e',Z,o2,o3,o4,o5,o6⟩:=h.core.opn x hx
        have o:t≠b:=fun he=>o6 i (by rw[he];exact hb)
        have hnx:x≠s.c::p:=fun he=>by rw[he,O]at Z;simp at Z
        exact⟨t,n',c',x1,arr',e',by simp only[ak hnx];exact Z,o2,o3,by simp only[ak o];exact o4,o5,fun H G=>o6 H (iM G).2⟩
      ·simp only[Ids.add,ci,ba]at hx D
       have old:∀z y,s.A z=true->(if z=s.c::p then some (b,n,n,sz)else g.row z)=some (t,y)->z≠s.c::p/\t≠b/\g.row z=some (t,y):=by
        intro z y hz R;obtain⟨b2',n',c',x1,arr',e',Z,o2,o3,o4,o5,o6⟩:=h.core.opn z hz;have a2:z≠s.c::p:=fun he=>by rw[he,O]at Z;simp at Z
        rw[ak a2]at R;refine⟨a2,fun he=> ?_,R⟩;rw[Z]at R;simp at R;exact o6 i (by rw[R.1,he];exact hb)
       rcases hx with rfl|hx
       ·rcases D with rfl|D
        ·rfl
        ·obtain⟨_,z2,_⟩:=old x' y' D W
         simp at V;exact absurd V.1.symm z2
       ·rcases D with rfl|D
        ·obtain⟨_,z2,_⟩:=old x y hx V
         simp at W;exact absurd W.1.symm z2
        ·exact h.core.apart x x' t y y' hx D (old x y hx V).2.2 (old x' y' D W).2.2
      ·have o:t≠b:=fun he=>by
        have:=h.core.lt hb;omega
       simp only[ak o];exact h.core.K0 t I
      ·have o:t≠b:=by omega
       simp only[ak o];exact l.keep t I hx1 hx2
      ·by_cases he:x=s.c::p
       ·exact⟨[],s.c,cE _,by simpa using he⟩
       ·simp only[ak he]at hx
        exact l.new x hx
      ·simp only[Ids.add,ci,ba]at hx
       by_cases he:x=s.c::p
       ·simp[Gh.blk,he]at I
        exact .inl (by omega)
       ·rcases hx with hx|hx
        ·exact absurd hx he
        ·simp only[Gh.blk,ak he]at I
         exact l.org x t hx (by simpa[Gh.blk]using I)
   ·simp at h2
  ·simp at J
 ·simp at J
 ·
  rename_i vs hnd hnp hnb hn1 hv;obtain⟨ds,M,rfl⟩:=au.1 J;obtain⟨us,r1,X,r3⟩:=rH h.core h.regs _ _ _ Y hv;have hd:=ft M;have o:∀u,us≠[u]:=fun u hu=>by
   rw[hu]at X
   match vs,X with
   | [v],_=>exact hn1 v rfl
  refine⟨.tuple us.toArray,?_,g.cutB s0.B.length,AVR.data fid S (.d _ _ (.tup ds us.toArray (by simp[X,hd]) fun j v u q1 q2=> ?_)),h.core.cutB _,m,C⟩
  ·rw[wG r1]
   match us,o with
   | [],_=>rfl
   | [u],o=>exact absurd rfl (o u)
   |_::_::_,_=>rfl
  ·exact cX (r3 j (.d v) u (by rw[hd];simp[q1]) (by simpa using q2))
 ·simp at J
end
section
variable {P:Program} {fid:Nat->FuncId}
def hU(P:Program)(fid:Nat->FuncId)(k:Nat)(f:Id->List AV->Option (DV×Ids)):Prop:=
 lI P (fid k)/\∀p args v A,(aM args).isSome->f p args=some (v,A)->∀g w (us:Array Value),us.size=args.length->(∀(j:Nat) (v:AV) (u:Value),args[j]?=some v->us[j]?=some u->AVR fid g w v u)->
  Core fid g w [] Ids.none->fu g p 0->Calls P (fid k) us w fun e w'=>∃u g',e= .returned u/\Post fid (from_ p 0) g w Ids.none ⟨.d v,A,[]⟩ u g' w'
def wq(P:Program)(fid:Nat->FuncId)(k:Nat)(sf:SFn):Prop:=
 ∀call n,gm P fid call->hU P fid k (fun p args=>(aM args).bind (kZ call n p sf))
structure EnvOK(P:Program)(fid:Nat->FuncId)(E:Env):Prop where
 code:∀k vf,E.nat k=none->E.code k=some vf->∃fn,P.funcs[fid k]?=some fn/\aN P fid fn vf=true
 nat:∀k f,E.nat k=some f->hU P fid k f
 spec:∀k sf,E.spec k=some sf->wq P fid k sf
 mixed:P.follows .mixedOrders=true
 base:∀k vf,E.code k=some vf->I_ (E.base k) vf.code=true
theorem Ak:∀(args:List AV) (i t:Nat) (v:AV),lk (aV i args) t=some v->i<=t/\args[t-i]?=some v
 | [],i,t,v,h=>by simp[aV,lk]at h
 |x::xs,i,t,v,h=>by
  simp only[aV,lk]at h;split at h
  ·rename_i a
   simp at h;subst h;subst a
   simp
  ·rename_i a
   obtain⟨h1,b⟩:=Ak xs (i+1) t v h;refine⟨by omega,?_⟩;rw[show t-i=(t-(i+1))+1 by omega];simpa using b
theorem JL{p:Id}{f:Nat}{args:List AV}{B:ah}{A A1:Ids}{v:DV}{fn:Id->List AV->Option (DV×Ids)}(r:hU P fid f fn)(h1:(aM args).isSome)(C:fn p args=some (v,A1)):
 lI P (fid f)/\∀g w (us:Array Value),us.size=args.length->(∀(j:Nat) (v:AV) (u:Value),args[j]?=some v->us[j]?=some u->AVR fid g w v u)->
 Core fid g w B A->fu g p 0->Calls P (fid f) us w fun e w'=>∃u g',e= .returned u/\Post fid (from_ p 0) g w A ⟨.d v,Ids.or A1 A,B⟩ u g' w':=by
 obtain⟨ds,l⟩:=mt.1 h1;obtain⟨y,t⟩:=r;refine⟨y,fun g w us n c a k=> ?_⟩;have hd:=ft l;have s:ExtV g w (g.cutB 0) w:=⟨fun _=>aU _,fun _ _=>rfl,fun _ _ h=>h⟩;have b:=t p args v A1 h1 C (g.cutB 0) w us n (fun j x u i m=>by
  have z:=c j x u i m;have:∃d,x= .d d:=by
   rw[hd]at i;simp at i;obtain⟨d,_,rfl⟩:=i;exact⟨d,rfl⟩
  obtain⟨d,rfl⟩:=this;exact AVR.data fid s z) (by
  have m:=(a.cutB 0).sub (A':=Ids.none) (fun x hx=>by simp[Ids.none]at hx);simpa using m) (fun q j hj=>by have:=k q j hj;simpa[Gh.cutB]using this)
 refine b.mono fun e w' ⟨u,g',he,hp⟩=> ?_
 obtain⟨g2,c2,o,s2,D,v2⟩:=I4 a rfl hp;exact⟨u,g2,he,v2,c2,o,s2⟩
theorem ET{E:Env}(H:EnvOK P fid E):∀n,gm P fid (dJ E n):=by
 intro n
 induction n with
 |zero=>intro p f args B A r h;simp[dJ]at h
 |succ n O=>
  intro p f args B A r h;simp only[dJ]at h;split at h
  ·rename_i fn hn
   obtain⟨ds,h1,d⟩:=aw.1 h;obtain⟨⟨v,A1⟩,o,rfl⟩:=au.1 d;exact JL (H.nat f fn hn) (by simp[h1]) o
  ·rename_i hn
   split at h
   ·split at h
    ·simp at h
    rename_i sf hs;obtain⟨ds,h1,d⟩:=aw.1 h;obtain⟨⟨v,A1⟩,o,rfl⟩:=au.1 d;exact JL (H.spec f sf hs (dJ E n) n O) (by simp[h1]) (by simp only[h1,aQ];exact o)
   rename_i vf I;split at h
   ·simp at h
   rename_i hlen;obtain⟨fn,z,K⟩:=H.code f vf hn I;have b:=H.base f vf I;simp only[aN,aF,ba,fi]at K;obtain⟨⟨⟨hb,s⟩,Y⟩,G⟩:=K;split at hb
   ·rename_i c i
    refine⟨⟨fn,z,G,by simp[i]⟩,fun g w us W M a j=> ?_⟩;have k:qcY fid g w (aV 0 args) (us++Array.replicate (fn.ntmps-us.size) undef):=fun t v X=>by
     obtain⟨_,o⟩:=Ak args 0 t v X;simp at o;have C:t<us.size:=by rw[W];exact(aK.1 o).1
     have:(us++Array.replicate (fn.ntmps-us.size) undef).getD t undef=us[t]:=by
      simp[bL,ju C,C]
     rw[this];exact M t v _ o (by simp[C])
    have l:(us++Array.replicate (fn.ntmps-us.size) undef).size=fn.ntmps:=by
     simp at hlen⊢
     omega
    split at h
    ·rename_i V
     rw[V]at b;obtain⟨⟨e,s'⟩,h1,d⟩:=aw.1 h;refine calls_of_wp z i (kI (N:=fn.ntmps) O H.mixed vf.code b c g w _ ⟨aV 0 args,B,A,0⟩ s' e hb a k l j h1 _ fun g' w' a' R=> ?_);cases e with
     |exit id=>simp at d
     |normal=>
      simp only at d;obtain⟨u,D,g2,F⟩:=qH a j R s d;exact bodyPost_end D R.defers ⟨u,g2,rfl,F⟩
     |ret=>
      simp only at d;obtain⟨u,D,g2,F⟩:=qH a j R s d;exact bodyPost_ret D R.defers ⟨u,g2,rfl,F⟩
    ·rename_i m Q
     rw[Q]at b;split at h
     ·simp at h
     rename_i S;have J:B.length=m:=by simpa using S
     obtain⟨⟨e,s'⟩,h1,d⟩:=aw.1 h;have y:Core fid g w B Ids.none:=a.sub (fun x hx=>by simp[Ids.none]at hx);refine calls_of_wp z i (LG (N:=fn.ntmps) (s0:=⟨aV 0 args,B,Ids.none,0⟩) (a0:=⟨us++Array.replicate (fn.ntmps-us.size) undef,[]⟩) O H.mixed y j vf.code c g w _ ⟨aV 0 args,B,Ids.none,0⟩ s' e (.inr ⟨fun _=>rfl,by rw[J];exact b⟩) hb (.refl y k l) h1 _ fun g' w' a' R=> ?_);cases e with
     |exit id=>simp at d
     |normal=>
      simp only at d;obtain⟨q,o,rfl⟩:=au.1 d;obtain⟨u,D,g2,F⟩:=qH y j R s o;exact bodyPost_end D R.defers ⟨u,g2,rfl,Ha a F⟩
     |ret=>
      simp only at d;obtain⟨q,o,rfl⟩:=au.1 d;obtain⟨u,D,g2,F⟩:=qH y j R s o;exact bodyPost_ret D R.defers ⟨u,g2,rfl,Ha a F⟩
   ·simp at hb
theorem VL{E:Env}(a:EnvOK P fid E):gm P fid (oX E):=by
 intro p f args B A r h;obtain⟨n,hn⟩:=JK.1 h;exact ET a n p f args B A r hn
end
section
variable {P:Program} {fid:Nat->FuncId}
theorem Zo{g g2:Gh}{w z:World}(e:∀a x,g.row a=some x->g2.row a=some x){v:DV}{u:Value}(h:VR g w v u)(m:v.flat=true):VR g2 z v u:=by
 cases h with
 |int k n=>exact .int k n
 |bool b=>exact .bool b
 |str s=>exact .str s
 |agg cs us hs hc o=>simp[DV.flat]at m
 |tup cs us hs o=>simp[DV.flat]at m
 |nil=>exact .nil
 |row t xs ad c s U p q hm l H hc o d=>
  cases xs with
  |cons x r=>simp[DV.flat]at m
  |nil=>
   refine .row t [] ad c s U p q hm (fun k y=>by simp at y) (.inl (by simp)) (fun i x h=>by simp at h) (fun i x j v h=>by simp at h) (fun a sz ha=> ?_);obtain⟨h1,C,G,D,F⟩:=d a sz ha;exact⟨h1,C,G,e _ _ D,F⟩
theorem mQ{N:Nat}{c:Code}{a b:VCode}(h:bN P fid N c (.seq a b)=true):∃x y,c= .seq x y/\bN P fid N x a=true/\bN P fid N y b=true:=by
 cases c with
 |seq x y=>simp[bN]at h;exact⟨x,y,rfl,h.1,h.2⟩
 |_=>simp[bN]at h
theorem UZ{N:Nat}{c:Code}{x:VX}{a b:VCode}(h:bN P fid N c (.cond x a b)=true):∃o y z,c= .cond o y z/\bB fid o x=true/\bN P fid N y a=true/\bN P fid N z b=true:=by
 cases c with
 |cond o y z=>simp[bN]at h;exact⟨o,y,z,rfl,h.1.1,h.1.2,h.2⟩
 |_=>simp[bN]at h
theorem Ar{N na:Nat}{c:Code}{live:List Nat}{vs:List VOper}(h:bN P fid N c (.region false na live vs)=true):∃id ops,c= .region id ops false/\dI P fid N ops false ops.toList vs=true:=by
 cases c with
 |region id ops d=>simp[bN]at h;obtain⟨rfl,h⟩:=h;exact⟨id,ops,rfl,h⟩
 |_=>simp[bN]at h
theorem rO{N:Nat}{ops:Array Oper}{d:Bool}{l:List Oper}{v:VOper}{vs:List VOper}(h:dI P fid N ops d l (v::vs)=true):∃o os,l=o::os/\gS P fid N ops o v=true/\dI P fid N ops d os vs=true:=by
 cases l with
 |nil=>simp[dI]at h
 |cons o os=>simp only[dI,aF]at h;exact⟨o,os,rfl,h.1.1.1,h.2⟩
theorem GD{N:Nat}{ops:Array Oper}{d:Bool}{l:List Oper}(h:dI P fid N ops d l []=true):l=[]:=by
 cases l with
 |nil=>rfl
 |cons o os=>simp[dI]at h
theorem qV{ops:Array Oper}{Q:Exit->Act->World->Prop}{o:Oper}{os:List Oper}{a:Act}{w:World}(h:if Region.wanted o (yielded ops a.tmps)then o.wp P a w (wpList P ops Q os) Q else wpList P ops Q os (a.put o.dst undef) w):wpList P ops Q (o::os) a w:=by
 unfold wpList;split
 ·rename_i hw
  rw[ap hw]at h;exact .inl h
 ·rename_i hw
  rw[ak hw]at h;exact h
theorem BP{call:aZ}{p:Id}{n:Nat}{a b:VCode}{s s':St}(h:bF call p n (.seq a b) s=some (.normal,s')):∃s1,bF call p n a s=some (.normal,s1)/\bF call p n b s1=some (.normal,s'):=by
 simp only[bF]at h;obtain⟨⟨e,s1⟩,h1,c⟩:=aw.1 h;cases e with
 |normal=>exact⟨s1,h1,c⟩
 |exit id=>simp at c
 |ret=>simp at c
theorem Uh{s:St}{y:DV×DV}(h:om s=some y):∃c2 z0 b a,lk s.r 3=some (.ptr 0 0)/\lk s.r 4=some (.ptr 1 0)/\s.B=[some [.d y.1,.d y.2,c2],some [.d z0,.d b,.d a]]/\
 y.1.flat=true/\y.2.flat=true/\z0.flat=true/\b.flat=true/\a.flat=true/\y.1.isCell=true/\y.2.isCell=true:=by
 unfold om at h;split at h
 ·rename_i n m l z0 b a k j e3
  split at h
  ·rename_i hc
   simp only[aB]at h;subst h
   simp only[aF]at hc;obtain⟨⟨⟨⟨⟨⟨c1,c2⟩,c3⟩,c4⟩,i⟩,c⟩,e⟩:=hc;exact⟨l,z0,b,a,k,j,e3,c1,c2,c3,c4,i,c,e⟩
  ·simp at h
 ·simp at h
theorem QN{call:aZ}{p:Id}{sf:SFn}{A:Ids}{a:Id}{x:DV}{xr:List DV}{r:List DV×Ids}(h:j3 call p sf A a x xr=some r):
 ∃l v e cs es,DV.namess (x::xr)=some l/\A a=true/\(∀b,b∈l->A b=true)/\a∉l/\
  call p sf.srt [.tsl true 0 x.cells.length (xr.length+1),.fn sf.cmp []] [some (((x::xr).flatMap DV.cells).map .d)] (fun b=>l.contains b)=some ⟨v,e,[some cs]⟩/\
  aM cs=some es/\es.length=(xr.length+1)*x.cells.length/\chunks true x.cells.length (xr.length+1) es=some r.1/\r.2=Ids.add a e:=by
 unfold j3 at h;obtain⟨l,h1,c⟩:=aw.1 h;split at c
 ·rename_i hc
  split at c
  ·rename_i v e cs k
   obtain⟨es,n,i⟩:=aw.1 c;split at i
   ·rename_i j
    obtain⟨ys,m,rfl⟩:=au.1 i;exact⟨l,v,e,cs,es,h1,hc.1,fun b hb=>bu.1 hc.2.1 b hb,by simpa using hc.2.2,k,n,j,m,rfl⟩
   ·simp at i
  ·simp at c
 ·simp at c
theorem qt2{p:Id}{s:St}{rs:List VRes}{r:Res}{v:DV}(h:finish 0 p s rs=some r)(b:r.v= .d v):r.B=[]:=by
 unfold finish at h;split at h
 ·simp at h;subst h;rfl
 ·simp at h;subst h;simp at b
 ·split at h
  ·obtain⟨cs,h1,a⟩:=aw.1 h
   split at a
   ·obtain⟨xs,_,rfl⟩:=au.1 a;rfl
   ·simp at a
  ·simp at h
 ·simp at h
 ·obtain⟨ds,_,rfl⟩:=au.1 h;rfl
 ·simp at h
theorem QV{call:aZ}(d:gm P fid call){p:Id}{N:Nat}{g0 g:Gh}{w0 w:World}{s0 s s':St}{a0 a:Act}{ops:Array Oper}{o:Oper}{m:VOper}(h:fu g0 p s0.c)(R:Reach fid p N g0 w0 s0 a0 g w s a)
 (k:gS P fid N ops o m=true) (n:dn call p false s.B.length 0 m s=some s') {K:Act->World->Prop} {Q:Exit->Act->World->Prop}
 (y:∀g' w' u,Reach fid p N g0 w0 s0 a0 g' w' {s' with c:=s.c+1} (a.put o.dst u)->(∀(b:Nat) (c:Array Value) (e:TypeId) (z:Nat×Nat),w.heap[b]?=some (Obj.cells c e z)->∃c':Array Value,w'.heap[b]?=some (Obj.cells c' e z)/\c'.size=c.size)->
  (∀i b,g.bx i=some b->g'.bx i=some b)->(∀b x,g.row b=some x->g'.row b=some x)->K (a.put o.dst u) w'):
 if Region.wanted o (yielded ops a.tmps)then o.wp P a w K Q else K (a.put o.dst undef) w:=by
 have r:=ig R.step R.le h;refine vX d R.core R.regs R.size (fun q=>r q _ (by omega)) k n K Q (fun g' w' u c1 l st1 t=> ?_);refine y g' w' u ⟨c1,R.boxes.trans R.step.size l,?_,t,by rw[fN];exact R.size,by rw[put_defers];exact R.defers,by have:=R.le;simp only;omega⟩ st1.arr l.old st1.ext.row;exact(R.step.weaken fun x ⟨q,j,h1,h2,h3⟩=>⟨q,j,h1,by simp only;omega,h3⟩).trans R.boxes (st1.weaken fun x ⟨q,hx⟩=>⟨q,s.c,R.le,by simp only;omega,by simpa using hx⟩)
theorem UG{g gc:Gh}{w:World}{b:Nat}{A:Ids}(hK:∀x,x≠b->gc.K x=g.K x)(C:gc.row=g.row)(Y:∀x c,A x=true->g.row x=some c->c.1≠b){v:DV}{u:Value}(h:VR g w v u):
 ∀l,v.names=some l->(∀x,x∈l->A x=true)->VR gc w v u:=by
 induction h with
 |int k n=>intro _ _ _;exact .int k n
 |bool b=>intro _ _ _;exact .bool b
 |str s=>intro _ _ _;exact .str s
 |agg cs us hs hc e M=>
  intro l m d;simp only[DV.names]at m;have key:∀(cs:List DV) (l:List Id),DV.namess cs=some l->(∀x,x∈l->A x=true)->∀v,v∈cs->∃o,v.names=some o/\∀x,x∈o->A x=true:=by
   intro cs
   induction cs with
   |nil=>intro l _ _ v e;simp at e
   |cons c r F=>
    intro l m d v e;simp only[DV.namess]at m;obtain⟨I,h1,q⟩:=aw.1 m;obtain⟨J,G,rfl⟩:=au.1 q;rcases br.1 e with rfl|e
    ·exact⟨I,h1,fun x hx=>d x (by simp[hx])⟩
    ·exact F J G (fun x hx=>d x (by simp[hx])) v e
  refine .agg cs us hs hc fun j v u hj X=> ?_
  obtain⟨o,h1,q⟩:=key cs l m d v (bU hj);exact M j v u hj X o h1 q
 |tup cs us hs e M=>intro l m;simp[DV.names]at m
 |nil=>intro _ _ _;exact .nil
 |row t xs ad c s U N m hm D O hc e p M=>
  intro l hn d;cases xs with
  |nil=>
   refine .row t [] ad c s U N m hm (fun k V=>by simp at V) (.inl (by simp)) (fun i x h=>by simp at h) (fun i x j v h=>by simp at h) (fun a sz ha=> ?_);rw[C];exact p a sz ha
  |cons x r=>
   cases t with
   |nil=>exact absurd rfl N
   |sub=>simp[DV.names]at hn
   |own a sz=>
    simp only[DV.names]at hn;obtain⟨I,h1,rfl⟩:=au.1 hn;obtain⟨o1,o2,o3,S,o5⟩:=p a sz rfl;have Q:ad.block≠b:=Y a _ (d a (by simp)) S;have key:∀(cs:List DV) (l:List Id),DV.namess cs=some l->(∀x,x∈l->A x=true)->∀v,v∈cs->∃o,v.names=some o/\∀x,x∈o->A x=true:=by
     intro cs
     induction cs with
     |nil=>intro l _ _ v e;simp at e
     |cons c r F=>
      intro l m d v e;simp only[DV.namess]at m;obtain⟨I,h1,q⟩:=aw.1 m;obtain⟨J,G,rfl⟩:=au.1 q;rcases br.1 e with rfl|e
      ·exact⟨I,h1,fun x hx=>d x (by simp[hx])⟩
      ·exact F J G (fun x hx=>d x (by simp[hx])) v e
    have H:∀(v:DV) (l:List Id),v.names=some l->(∀x,x∈l->A x=true)->∀c,c∈v.cells->∃o,c.names=some o/\∀x,x∈o->A x=true:=by
     intro v l h1 q c hc;cases v with
     |agg cs=>simp only[DV.names]at h1;exact key cs l h1 q c hc
     |_=>simp only[DV.cells,bC]at hc;subst hc;exact⟨l,h1,q⟩
    refine .row _ _ ad c s U N m hm D (by rw[hK _ Q];exact O) hc (fun i y j v hy hj=> ?_) (fun a' R ha=>by rw[C];exact p a' R ha);obtain⟨o,q,G⟩:=key (x::r) I h1 (fun z hz=>d z (by simp[hz])) y (bU hy);obtain⟨J,Z,W⟩:=H y o q G v (bU hj);exact M i y j v hy hj J Z W
theorem BH{sz:Nat}:∀(xs:List DV),(∀x,x∈xs->x.cells.length=sz)->∀k v,(xs.flatMap DV.cells)[k]?=some v->∃i x j,xs[i]?=some x/\x.cells[j]?=some v/\k=i*sz+j/\j<sz
 | [],_,k,v,h=>by simp at h
 |x::r,hs,k,v,h=>by
  simp only[ei]at h;have hx:=hs x (by simp)
  by_cases a:k<sz
  ·rw[bY (by omega)]at h
   exact⟨0,x,k,rfl,h,by simp,a⟩
  ·rw[cj (by omega),hx]at h
   obtain⟨i,y,j,h1,b,d,c⟩:=BH r (fun y hy=>hs y (by simp[hy])) _ _ h;exact⟨i+1,y,j,by simpa using h1,b,by rw[c_];omega,c⟩
theorem F_{sz:Nat}:∀(xs:List DV),(∀x,x∈xs->x.cells.length=sz)->(xs.flatMap DV.cells).length=xs.length*sz
 | [],_=>by simp
 |x::r,hs=>by
  simp only[ei,dz,cB,hs x (by simp),F_ r (fun y hy=>hs y (by simp[hy]))];rw[c_];omega
end
section
variable {P:Program} {fid:Nat->FuncId}
theorem N3{fn:Func}{p:Id}{g0:Gh}{w0:World}{s0:St}{a0:Act}{rs:List VRes}{v:DV}{A:Ids}(r:s0.B=[])(t:s0.A=Ids.none)(hd:a0.defers=[])(m:Core fid g0 w0 s0.B s0.A)(l:fu g0 p s0.c)(n:gQ P fn.results.toList rs=true)
 {e:Ex} {g:Gh} {w:World} {s:St} {a:Act} (R:Reach fid p fn.ntmps g0 w0 s0 a0 g w s a)
 (h:(match e with| .exit _=>none|_=>(finish 0 p s rs).bind fun q=>match q.v with| .d v=>some (v,q.A)|_=>none)=some (v,A)):
 bodyPost P fn (fun e w'=>∃u g',e= .returned u/\Post fid (from_ p 0) g0 w0 Ids.none ⟨.d v,A,[]⟩ u g' w') e.toExit a w:=by
 have key:(finish 0 p s rs).bind (fun q=>match q.v with| .d v=>some (v,q.A)|_=>none)=some (v,A)->∃u,(results fn a.tmps).run P w= .ok u w/\∃g',Post fid (from_ p 0) g0 w0 Ids.none ⟨.d v,A,[]⟩ u g' w:=by
  intro h;obtain⟨q,h1,k⟩:=aw.1 h;split at k
  ·rename_i v' b
   simp only[aB,di]at k;obtain⟨rfl,rfl⟩:=k;have o:=qt2 h1 b;obtain⟨u,j,g',i⟩:=qH (fn:=fn) m l R n (by rw[r];exact h1);refine⟨u,j,g',?_⟩;rw[t]at i;obtain⟨y,x,z⟩:=q;simp only at b o;subst b;subst o
   exact i
  ·simp at k
 cases e with
 |exit id=>simp at h
 |normal=>
  obtain⟨u,j,g2,i⟩:=key h;exact bodyPost_end j (by rw[R.defers];exact hd) ⟨u,g2,rfl,i⟩
 |ret=>
  obtain⟨u,j,g2,i⟩:=key h;exact bodyPost_ret j (by rw[R.defers];exact hd) ⟨u,g2,rfl,i⟩
def dl(g:Gh)(b:Nat):Gh:={K:=fun x=>if x=b then 0 else g.K x,row:=g.row,bx:=fun i=>if i=0 then some b else none}
theorem Dt{g:Gh}{w:World}{B:ah}{A:Ids}(hc:Core fid g w B A){a:Id}{sz:Nat}{x:DV}{xr:List DV}{u:Value}{l:List Id}(p:VR g w (.sl (.own a sz) (x::xr)) u)(hn:DV.namess (x::xr)=some l)(ha:A a=true)(q:∀z,z∈l->A z=true)(x3:a∉l):
 ∃b c,u= .slice (some ⟨b,0,none⟩) (xr.length+1) c/\xr.length+1<=c/\c<=maxLen/\sz=x.cells.length/\g.row a=some (b,xr.length+1,c,sz)/\g.K b=(xr.length+1)*sz/\
  (∃arr e,w.heap[b]?=some (.cells arr e (0,0))/\c*sz<=arr.size)/\(∀i,g.bx i≠some b)/\
  Core fid (dl g b) w [some (((x::xr).flatMap DV.cells).map .d)] (fun z=>l.contains z)/\(∀z y,l.contains z=true->g.row z=some y->y.1≠b):=by
 cases p with
 |row _ _ ad c s U ht hle hm o hK D H M=>
  obtain⟨F,Y,o3,G,o5⟩:=M a sz rfl;subst o3;obtain⟨b',n',c',h,arr,e,q1,q2,q3,q4,q5,q6⟩:=hc.opn a ha;rw[q1]at G;simp only[aB,di]at G;obtain⟨rfl,rfl,rfl,rfl⟩:=G;have O:ad=⟨ad.block,0,none⟩:=by cases ad;simp at F Y;simp[F,Y]
  have hsz:h=x.cells.length:=((D 0 x rfl).1).symm;have hlen:∀y,y∈x::xr->y.cells.length=h:=fun y hy=>by
   obtain⟨i,hi⟩:=c9.1 hy;exact(D i y hi).1
  have t:∀z y,l.contains z=true->g.row z=some y->y.1≠ad.block:=fun z y hz hy he=>by
   have m:z∈l:=by simpa using hz
   have:z=a:=hc.apart z a ad.block y.2 _ (q z m) ha (by rw[hy,<-he]) q1;exact x3 (by rw[<-this];exact m)
  refine⟨ad.block,c',by rw[<-O];rfl,hle,hm,hsz,q1,by rw[q4];simp,⟨arr,e,q2,q3⟩,q6,⟨fun i b hb=> ?_,fun i j b hi hj=> ?_,fun z hz=> ?_,fun z z' b y y' hz x1 h1 k=> ?_,fun b hb=> ?_⟩,t⟩
  ·simp only[dl]at hb
   split at hb
   ·rename_i hi
    subst hi;simp only[aB]at hb;subst hb
    refine⟨_,arr,e,rfl,q2,?_,fun j v u hj hu=> ?_,fun v S=> ?_,by simp[dl]⟩
    ·rw[dK,F_ _ hlen]
     have:(x::xr).length*h<=c'*h:=fb _ hle;omega
    ·rw[cH]at hj
     obtain⟨d,hd,rfl⟩:=au.1 hj;obtain⟨i,y,j',h1,k,X,h4⟩:=BH _ hlen _ _ hd;have hi:i<(x::xr).length:=(aK.1 h1).1;have R:j<(x::xr).length*h:=by
      have:(i+1)*h<=(x::xr).length*h:=fb _ hi;rw[c_]at this;omega
     have I:=o j R;have h6:w.cell? (ad.add j)=arr[j]?:=by
      rw[O,lm];simp[World.cell?,q2]
     rw[h6,hu]at I;simp only[aB]at I;have h7:=H i y j' d h1 k;rw[<-X,<-I]at h7;have a1:∃C,d.names=some C/\∀z,z∈C->l.contains z=true:=by
      have key:∀(cs:List DV) (l:List Id),DV.namess cs=some l->∀v,v∈cs->∃C,v.names=some C/\∀x,x∈C->x∈l:=by
       intro cs
       induction cs with
       |nil=>intro l _ v p;simp at p
       |cons c r x2=>
        intro l q v p;simp only[DV.namess]at q;obtain⟨W,h1,k⟩:=aw.1 q;obtain⟨l2,X,rfl⟩:=au.1 k;rcases br.1 p with rfl|p
        ·exact⟨W,h1,fun x hx=>by simp[hx]⟩
        ·obtain⟨l3,h4,I⟩:=x2 l2 X v p
         exact⟨l3,h4,fun x hx=>by simp[I x hx]⟩
      obtain⟨W,N,V⟩:=key _ l hn y (bU h1);cases y with
      |agg cs=>
       simp only[DV.names]at N;obtain⟨l2,Z,a2⟩:=key cs W N d (bU k);exact⟨l2,Z,fun z hz=>by simpa using V z (a2 z hz)⟩
      |_=>
       have:=bU k;simp only[DV.cells,bC]at this;subst this;exact⟨W,N,fun z hz=>by simpa using V z hz⟩
     obtain⟨C,N,V⟩:=a1;refine .d _ _ (UG (g:=g) (gc:=dl g ad.block) (b:=ad.block) (A:=fun z=>l.contains z) (fun x hx=>by simp[dl,hx]) rfl t h7 C N V)
    ·simp only[bP]at S
     obtain⟨d,hd,rfl⟩:=S;obtain⟨j,hj⟩:=c9.1 hd;obtain⟨i,y,j',h1,k,X,h4⟩:=BH _ hlen _ _ hj;exact⟨(D i y h1).2 d (bU k),by unfold AV.safe;rfl⟩
   ·simp at hb
  ·simp only[dl]at hi hj
   split at hi
   ·split at hj
    ·omega
    ·simp at hj
   ·simp at hi
  ·have m:z∈l:=by simpa using hz
   obtain⟨b,n,c2,s2,J,e2,F,Y,o3,G,o5,o6⟩:=hc.opn z (q z m);have Q:b≠ad.block:=t z _ hz F;refine⟨b,n,c2,s2,J,e2,F,Y,o3,by simp[dl,Q,G],o5,fun i hi=> ?_⟩;simp only[dl]at hi;split at hi
   ·simp at hi;exact Q hi.symm
   ·simp at hi
  ·exact hc.apart z z' b y y' (q z (by simpa using hz)) (q z' (by simpa using x1)) h1 k
  ·simp only[dl]
   split
   ·rfl
   ·exact hc.K0 b hb
end
section
variable {P:Program} {fid:Nat->FuncId}
theorem vY{ops:Array Oper}{a:Act}{o:Oper}{N:Nat}{d:VOper}(b:gS P fid N ops o d=true)(e:d.guard=none):Region.wanted o (yielded ops a.tmps)=true:=by
 simp only[gS,aF]at b;obtain⟨_,c⟩:=b;rw[e]at c;unfold yu at c;unfold Region.wanted;split at c
 ·rename_i i j;rw[i]
 ·rename_i h;simp at h
 ·simp at c
theorem qEV{g0 g g1:Gh}{w0 w M:World}{A A2:Ids}{p:Id}{k k2:Nat}{l:List Id}{a:Id}{b c n sz:Nat}{cs:List AV}{es ys:List DV}{x0 x1 z0 z1 z2:DV}{c2:AV}
 (hc0:Core fid g0 w0 [] Ids.none) (hbx:Boxes g0 w0 g) (s:Step (jM p 0 k) g0 w0 Ids.none g w A)
 (hc:Core fid g w [some [.d x0,.d x1,c2],some [.d z0,.d z1,.d z2]] A)
 (ha:A a=true) (hl:∀z,z∈l->A z=true) (hal:∀z y,l.contains z=true->g.row z=some y->y.1≠b)
 (O:g.row a=some (b,n,c,sz)) (hKb:g.K b=n*sz) (hn:0<n) (hcap:n<=c) (hmax:c<=maxLen) (hheap:∃arr e,w.heap[b]?=some (.cells arr e (0,0))/\c*sz<=arr.size) (hnbx:∀i,g.bx i≠some b)
 {N1:Id->Prop} (hN1:∀x,N1 x->jM p 0 k2 x) (hk:k<=k2) (hbx1:Boxes (dl g b) w g1) (m:Step N1 (dl g b) w (fun z=>l.contains z) g1 M A2) (b1:Core fid g1 M [some cs] A2)
 (hcs:aM cs=some es) (hes:es.length=n*sz) (hys:chunks true sz n es=some ys)
 (f0:x0.flat=true) (f1:x1.flat=true) (f2:z0.flat=true) (f3:z1.flat=true) (f4:z2.flat=true)
 {b3 b4:Nat} (H:g.bx 0=some b3) (R:g.bx 1=some b4):
 ∃o e3,M.heap[b3]?=some (.cells o e3 (0,0))/\3<=o.size/\∃r,r.bx 0=some b3/\r.bx 1=some b4/\
  Core fid r (M.setRow b3 (splice o.toList 2 [.slice (some ⟨b,0,none⟩) n c]).toArray) [some [.d x0,.d x1,.d (.sl (.own a sz) ys)],some [.d z0,.d z1,.d z2]] (Ids.add a A2)/\
  Boxes g0 w0 r/\Step (jM p 0 k2) g0 w0 Ids.none r (M.setRow b3 (splice o.toList 2 [.slice (some ⟨b,0,none⟩) n c]).toArray) (Ids.add a A2):=by
 have b2:g1.bx 0=some b:=hbx1.old 0 b (by simp[dl]);have h0bx:∀i,g0.bx i=none:=fun i=>by
  cases h:g0.bx i with
  |none=>rfl
  |some x=>have:=mz hc0 h;simp at this
 have Y:∀i x,g.bx i=some x->w0.heap.size<=x:=fun i x h=>by
  rcases hbx.new i x h with h1|h1
  ·rw[h0bx]at h1;simp at h1
  ·exact h1
 have X:∀z y,A z=true->g.row z=some y->w0.heap.size<=y.1:=fun z y hz hy=>by
  rcases s.org z y.1 hz (by simp[Gh.blk,hy])with h|⟨z0,h,_⟩
  ·exact h
  ·simp[Ids.none]at h
 have a1:w0.heap.size<=b:=X a _ ha O;have I:b3≠b:=fun h=>hnbx 0 (by rw[H,h])
 have x3:b4≠b:=fun h=>hnbx 1 (by rw[R,h])
 have Q:b3≠b4:=fun h=>by have:=hc.inj 0 1 b3 H (by rw[R,h]);simp at this
 have W:∀i x,g.bx i=some x->∀z,l.contains z=true->(dl g b).blk z≠some x:=fun i x hx z hz N=>by
  have hzl:z∈l:=by simpa using hz
  obtain⟨G,n',c',s',arr',e',q1,q2,q3,q4,q5,q6⟩:=hc.opn z (hl z hzl);simp only[Gh.blk,dl,q1,bz,aB]at N;exact q6 i (by rw[hx,N])
 have kept:∀i x,g.bx i=some x->x≠b->M.heap[x]?=w.heap[x]?/\g1.K x=g.K x:=fun i x hx V=>by
  obtain⟨cs',arr',e',q1,q2,_⟩:=hc.box i x hx;have:=m.keep x (dD.1 q2).1 (fun j hj=>by
   simp only[dl]at hj;split at hj
   ·simp at hj;exact V hj.symm
   ·simp at hj) (W i x hx)
  exact⟨this.1,by rw[this.2];simp[dl,V]⟩
 obtain⟨cs3,o,e3,q1,q2,q3,q4,q5,q6⟩:=hc.box 0 b3 H;simp only[d9,aB]at q1;subst q1;obtain⟨cs4,arr4,e4,r1,r2,r3,r4,r5,r6⟩:=hc.box 1 b4 R;simp only[lH,d9,aB]at r1;subst r1;simp at q3 r3;obtain⟨k3a,k3b⟩:=kept 0 b3 H I;obtain⟨k4a,k4b⟩:=kept 1 b4 R x3;have a2:M.heap[b3]?=some (.cells o e3 (0,0)):=by rw[k3a];exact q2
 have hK3:g1.K b3=0:=by rw[k3b];exact q6
 obtain⟨csb,F,eb,s1,s2,s3,s4,s5,s6⟩:=b1.box 0 b b2;simp only[d9,aB]at s1;subst s1;obtain⟨arr0,e0,t1,t2⟩:=hheap;obtain⟨arrb',t3,t4⟩:=m.arr b arr0 e0 (0,0) t1;rw[s2]at t3;simp only[aB,Obj.cells.injEq]at t3;obtain⟨rfl,rfl,_⟩:=t3;have hds:=ft hcs;refine⟨o,e3,a2,by simpa using q3,?_⟩;generalize S:M.setRow b3 (splice o.toList 2 [.slice (some ⟨b,0,none⟩) n c]).toArray=w2;have hh3:w2.heap[b3]?=some (.cells (splice o.toList 2 [.slice (some ⟨b,0,none⟩) n c]).toArray e3 (0,0)):=by rw[<-S];exact setRow_heap M b3 o _ e3 (0,0) a2
 have D:∀x,x≠b3->w2.heap[x]?=M.heap[x]?:=fun x hx=>by rw[<-S];exact setRow_other M b3 x _ hx
 have hsz2:w2.heap.size=M.heap.size:=by rw[<-S];simp[World.setRow]
 have hE1:ExtV g1 M g1 w2:=by rw[<-S];exact(I0 (g:=g1) a2 hK3).toExtV
 let r:Gh:={K:=fun x=>if x=b then n*sz else g1.K x,row:=g1.row,bx:=fun i=>if i=0 then some b3 else if i=1 then some b4 else none}
 have hE3:ExtV g1 M r w2:=⟨fun x=>by
  simp only[r];split
  ·rename_i h;rw[h,s6];exact cE _
  ·exact aU _,hE1.cell,fun _ _ h=>h⟩
 have t:∀z y,g.row z=some y->r.row z=some y:=fun z y h=>m.ext.row z y h
 have hlenes:n*sz<=F.size:=by rw[hds]at s3;simpa[hes]using s3
 have h5:∀v:DV,v∈es->v.isCell=true:=fun v hv=>(s5 (.d v) (by rw[hds];exact List.mem_map_of_mem hv)).1
 obtain⟨c1,c2'⟩:=w9 h5 hys;have hrowv:VR r w2 (.sl (.own a sz) ys) (.slice (some ⟨b,0,none⟩) n c):=by
  have key:VR r w2 (.sl (.own a sz) ys) (.slice (some ⟨b,0,none⟩) ys.length c):=by
   refine .row _ ys ⟨b,0,none⟩ c sz (fun k=>F.getD k undef) (by simp) (by rw[c1];exact hcap) hmax (fun k hk=> ?_) (.inr (by simp[r,c1])) (fun i x hx=>⟨(c2' i x hx).1,(c2' i x hx).2.1⟩) (fun i x j v hx hj=> ?_) (fun a' sz' ht=> ?_)
   ·rw[lm]
    have:k<F.size:=by rw[c1]at hk;omega
    have hb:w2.heap[b]?=some (.cells F eb (0,0)):=by rw[D b (Ne.symm I)];exact s2
    simp[World.cell?,hb,bL,this]
   ·have h6:=(c2' i x hx).2.2 j v hj
    have h7:(i*sz+j)<F.size:=by
     have:=(aK.1 h6).1;omega
    have h8:=s4 (i*sz+j) (.d v) (F[i*sz+j]) (by rw[hds];simp[h6]) (by simp[h7]);have h9:=cX h8;simp[bL,h7];exact h9.mono hE3
   ·simp at ht
    obtain⟨rfl,rfl⟩:=ht;refine⟨rfl,rfl,rfl,by rw[c1];exact t _ _ O,fun h=> ?_⟩;have:c=0\/c≠0:=by omega
    rcases this with h'|h'
    ·exact h'
    ·exfalso
     rw[h]at c1;simp at c1;omega
  rw[c1]at key;exact key
 have C:∀{v:DV} {u:Value},v.flat=true->AVR fid g w (.d v) u->AVR fid r w2 (.d v) u:=fun hf h=> .d _ _ (Zo t (cX h) hf)
 have hA2:∀z,A2 z=true->∃G n' c' s' arr' e',g1.row z=some (G,n',c',s')/\M.heap[G]?=some (.cells arr' e' (0,0))/\c'*s'<=arr'.size/\g1.K G=n'*s'/\n'<=c'/\G≠b/\G≠b3/\G≠b4/\w0.heap.size<=G:=fun z hz=>by
  obtain⟨G,n',c',s',arr',e',o1,o2,o3,o4,o5,o6⟩:=b1.opn z hz;have hlt3:=hc.lt H;have hlt4:=hc.lt R;have hs:=s.size;refine⟨G,n',c',s',arr',e',o1,o2,o3,o4,o5,fun h=>o6 0 (by rw[b2,h]),?_⟩;rcases m.org z G hz (by simp[Gh.blk,o1])with h|⟨z0,h1,Z⟩
  ·exact⟨by omega,by omega,by omega⟩
  ·refine⟨fun h=>W 0 b3 H z0 h1 (by rw[Z,h]),fun h=>W 1 b4 R z0 h1 (by rw[Z,h]),?_⟩
   simp only[Gh.blk,dl]at Z;obtain⟨y,h3,rfl⟩:=au.1 Z;exact X z0 y (hl z0 (by simpa using h1)) h3
 have hs3:=s.size;have hs1:=m.size;have hltb:b<M.heap.size:=(dD.1 s2).1;refine⟨r,by simp[r],by simp[r],⟨fun i G J=> ?_,fun i j G hi hj=> ?_,fun z hz=> ?_,fun z z' G y y' hz x2 h1 Z=> ?_,fun x hx=> ?_⟩,⟨fun i x h=>by rw[h0bx]at h;simp at h,fun i x h=> ?_⟩,⟨?_,?_,?_,by omega,⟨fun x=> ?_,fun ad had=> ?_,fun z y h=> ?_⟩,fun x hx hx1 hx2=> ?_,fun z hz=> ?_,fun z x hz hx=> ?_,fun x c' e' y h=> ?_⟩⟩
 ·simp only[r]at J
  split at J
  ·rename_i hi;subst hi
   simp only[aB]at J;subst J
   refine⟨_,_,e3,rfl,hh3,?_,fun j v u hj hu=> ?_,fun v hv=> ?_,by simp[r,I,hK3]⟩
   ·rw[ir,ji _ _ _ (by simp;omega)];simpa using q3
   ·simp only[nJ]at hu
    rw[jU _ _ _ (by simp;omega)]at hu
    match j with
    |0=>
     simp at hj hu;subst hj
     exact C f0 (q4 0 _ u rfl (by simpa using hu))
    |1=>
     simp at hj hu;subst hj
     exact C f1 (q4 1 _ u rfl (by simpa using hu))
    |2=>
     simp at hj hu;subst hj;subst hu
     exact .d _ _ hrowv
    |j+3=>simp at hj
   ·simp at hv
    rcases hv with rfl|rfl|rfl
    ·exact q5 _ (by simp)
    ·exact q5 _ (by simp)
    ·exact⟨rfl,by unfold AV.safe;rfl⟩
  ·split at J
   ·rename_i hi;subst hi
    simp only[aB]at J;subst J
    refine⟨_,arr4,e4,rfl,by rw[D _ (Ne.symm Q),k4a];exact r2,by simpa using r3,fun j v u hj hu=> ?_,fun v hv=>r5 v hv,by simp[r,x3,k4b,r6]⟩;have hh:=r4 j v u hj hu
    match j with
    |0=>simp at hj;subst hj;exact C f2 hh
    |1=>simp at hj;subst hj;exact C f3 hh
    |2=>simp at hj;subst hj;exact C f4 hh
    |j+3=>simp at hj
   ·simp at J
 ·simp only[r]at hi hj
  split at hi<;>split at hj
  ·omega
  ·split at hj
   ·simp only[aB]at hi hj;exact absurd (hi.trans hj.symm) Q
   ·simp at hj
  ·split at hi
   ·simp only[aB]at hi hj;exact absurd (hj.trans hi.symm) Q
   ·simp at hi
  ·split at hi
   ·split at hj
    ·omega
    ·simp at hj
   ·simp at hi
 ·simp only[Ids.add,ci,ba]at hz
  rcases hz with rfl|hz
  ·refine⟨b,n,c,sz,F,eb,t _ _ O,by rw[D b (Ne.symm I)];exact s2,by omega,by simp[r],hcap,fun i hi=> ?_⟩
   simp only[r]at hi;split at hi
   ·simp at hi;exact I hi
   ·split at hi
    ·simp at hi;exact x3 hi
    ·simp at hi
  ·obtain⟨G,n',c',s',arr',e',o1,o2,o3,o4,o5,o6,o7,o8,o9⟩:=hA2 z hz
   refine⟨G,n',c',s',arr',e',o1,by rw[D G o7];exact o2,o3,by simp[r,o6,o4],o5,fun i hi=> ?_⟩;simp only[r]at hi;split at hi
   ·simp at hi;exact o7 hi.symm
   ·split at hi
    ·simp at hi;exact o8 hi.symm
    ·simp at hi
 ·simp only[Ids.add,ci,ba]at hz x2
  have ha3:=t _ _ O;have no:∀z y,A2 z=true->r.row z=some (b,y)->False:=fun z y hz hy=>by
   obtain⟨G,n',c',s',arr',e',o1,o2,o3,o4,o5,o6,o7,o8,o9⟩:=hA2 z hz;simp only[r]at hy;rw[o1]at hy;simp only[aB,di]at hy;exact o6 hy.1
  rcases hz with rfl|hz<;>rcases x2 with rfl|x2
  ·rfl
  ·rw[ha3]at h1
   simp only[aB,di]at h1;exact(no z' y' x2 (by rw[Z,h1.1])).elim
  ·rw[ha3]at Z
   simp only[aB,di]at Z;exact(no z y hz (by rw[h1,Z.1])).elim
  ·exact b1.apart z z' G y y' hz x2 h1 Z
 ·have V:x≠b:=by omega
  simp only[r,ak V];exact b1.K0 x (by omega)
 ·simp only[r]at h
  split at h
  ·simp at h;subst h;exact .inr (Y 0 _ H)
  ·split at h
   ·simp at h;subst h;exact .inr (Y 1 _ R)
   ·simp at h
 ·rw[<-S];exact m.os.trans s.os
 ·rw[<-S];exact m.tape.trans s.tape
 ·rw[<-S];exact m.output.trans s.output
 ·simp only[r]
  split
  ·rename_i h;subst h;rw[hc0.K0 _ a1];exact cE _
  ·rename_i h
   have h1:=s.ext.K x;have Z:=m.ext.K x;simp only[dl,ak h]at Z;omega
 ·have hlt:ad.block<w0.heap.size:=by
   rcases dZ ad.block w0.heap.size with h|h
   ·exact h
   ·rw[hc0.K0 _ h]at had;omega
  have hb3n:=Y 0 b3 H;have e1:w2.cell? ad=M.cell? ad:=by simp only[World.cell?];rw[D _ (by omega)]
  have e2:=m.ext.cell ad (by
   have:=s.ext.K ad.block;simp only[dl];rw[ak (by omega)];omega)
  rw[e1,e2];exact s.ext.cell ad had
 ·exact t z y (s.ext.row z y h)
 ·have hb3n:=Y 0 b3 H
  obtain⟨k1,k2⟩:=s.keep x hx hx1 hx2;obtain⟨k3,k4⟩:=m.keep x (by omega) (fun i hi=>by
   simp only[dl]at hi;split at hi
   ·simp at hi;omega
   ·simp at hi) (fun z hz N=>by
   simp only[Gh.blk,dl]at N;obtain⟨y,h3,h4⟩:=au.1 N;have:=X z y (hl z (by simpa using hz)) h3;omega)
  have V:x≠b:=by omega
  refine⟨by rw[D x (by omega),k3,k1],?_⟩;simp only[r,ak V];rw[k4];simp only[dl,ak V];exact k2
 ·simp only[r]at hz
  by_cases he:g.row z=g0.row z
  ·refine hN1 z (m.new z ?_)
   simp only[dl];rw[he];exact hz
  ·obtain⟨q,j,h1,Z,h3⟩:=s.new z he
   exact⟨q,j,h1,by omega,h3⟩
 ·simp only[Ids.add,ci,ba]at hz
  simp only[Gh.blk]at hx;obtain⟨y,h3,h4⟩:=au.1 hx;rcases hz with rfl|hz
  ·rw[t _ _ O]at h3
   simp only[aB]at h3;subst h3;simp only at h4;subst h4
   exact .inl a1
  ·obtain⟨G,n',c',s',arr',e',o1,o2,o3,o4,o5,o6,o7,o8,o9⟩:=hA2 z hz
   simp only[r]at h3;rw[o1]at h3;simp only[aB]at h3;subst h3;simp only at h4;subst h4
   exact .inl o9
 ·obtain⟨c1',d1,d2⟩:=s.arr x c' e' y h
  obtain⟨c3',d3,d4⟩:=m.arr x c1' e' y d1
  by_cases hx:x=b3
  ·subst hx
   rw[a2]at d3;simp only[aB,Obj.cells.injEq]at d3;obtain⟨rfl,rfl,rfl⟩:=d3;refine⟨_,hh3,?_⟩;rw[ir,ji _ _ _ (by simp;omega)];simp;omega
  ·exact⟨c3',by rw[D x hx];exact d3,by omega⟩
end
section
variable {P:Program} {fid:Nat->FuncId}
theorem Eu{o:Operand}{n:Nat}(h:bB fid o (.t n)=true)(a:Act):a.eval o=a.tmps.getD n undef:=by
 unfold bB at h;split at h
 ·rename_i t b heq
  simp at h;subst h
  simp only[VX.t.injEq]at heq;subst heq;rfl
 all_goals simp_all
theorem qSE{o:Oper}{n:Nat}(h:aC P fid o.op (.move (.t n))=true)(a:Act)(w:World):(execOp a.eval o).run P w= .ok (.value (a.tmps.getD n undef)) w:=by
 obtain⟨dst,op,ty,pos,after,guard⟩:=o;cases op with
 |move y=>rw[<-Eu (show bB fid y (.t n)=true by simpa[aC]using h) a];rfl
 |assign y=>rw[<-Eu (show bB fid y (.t n)=true by simpa[aC]using h) a];rfl
 |_=>simp[aC]at h
theorem ME{call:aZ}(I:gm P fid call)(hm:P.follows .mixedOrders=true){N:Nat}{srt cmp:Nat}{cnd rg2 rg3:Code}
 (hok1:bN P fid N cnd (.cond (.t 42) (.region false 0 [3,4,5] [⟨some 43,.move (.t 5),none,[]⟩,⟨some 44,.call false (.c (.fn srt [])) [.t 43,.c (.fn cmp [])],none,[]⟩]) .skip)=true)
 (hok2:bN P fid N rg2 (.region false 0 [3,4] [⟨some 45,.move (.t 5),none,[]⟩,⟨some 46,.fieldAddr 2 (.t 3),none,[]⟩,⟨none,.store false 1 (.t 46) (.t 45),none,[]⟩])=true)
 (hok3:bN P fid N rg3 (.region false 0 [4] [⟨some 47,.load true 3 (.t 3),none,[]⟩,⟨none,.store false 3 (.t 4) (.t 47),none,[]⟩])=true)
 {p:Id} {g0 g:Gh} {w0 w:World} {s0 s:St} {a0 a:Act} (hB0:s0.B=[]) (hA0:s0.A=Ids.none) (hc0:s0.c=0) (hcore0:Core fid g0 w0 [] Ids.none) (hfr0:fu g0 p 0)
 (R:Reach fid p N g0 w0 s0 a0 g w s a) {i:Id} {sz:Nat} {x:DV} {xr:List DV} {y:DV×DV} {q:List DV×Ids}
 (h42:lk s.r 42=some (ar true)) (h5:lk s.r 5=some (.d (.sl (.own i sz) (x::xr)))) (hat:om s=some y) (hs:j3 call ((s.c+1)::p) ⟨2,.skip,.skip,[],5,42,srt,cmp⟩ s.A i x xr=some q)
 (Q:Exit->Act->World->Prop)
 (hQ:∀g' w' a' s',Reach fid p N g0 w0 s0 a0 g' w' s' a'->finish 0 p s' [.cell 4 true 3]=some ⟨.d (.agg [y.1,y.2,.sl (.own i sz) q.1]),q.2,[]⟩->Q .ret a' w'):
 cnd.wp P (Exit.then ((Code.seq rg2 (Code.seq rg3 Code.ret)).wp P Q) Q) a w:=by
 obtain⟨oc,cy,cz,rfl,hx1,hy1,hz1⟩:=UZ hok1;have ht:=ja (bq (w:=w) R.regs hx1 (show VX.get s.r (.t 42)=_ from h42));refine wp_cond (t:=true) ht ?_;simp only[if_true];obtain⟨id1,ops1,rfl,hops1⟩:=Ar hy1;obtain⟨o1,os1,hl1,ho1,hops1'⟩:=rO hops1;obtain⟨o2,os2,rfl,Y,hops1''⟩:=rO hops1';have:=GD hops1'';subst this
 obtain⟨c2,z0,z1,z2,b1,b2,b3,f0,f1,f2,f3,f4,kk0,kk1⟩:=Uh hat;obtain⟨l,vr,A2,cs,es,e1,e2,e3,e4,e5,e6,e7,e8,e9⟩:=QN hs;refine wp_region_list ?_;rw[hl1];have hmv:dn call p false s.B.length 0 ⟨some 43,.move (.t 5),none,[]⟩ s=some (s.put (some 43) (.d (.sl (.own i sz) (x::xr)))):=by
  simp[dn,cJ,aP,aA,VX.get,h5]
 have J:fu g0 p s0.c:=by rw[hc0];exact hfr0
 refine qV (QV I J R ho1 hmv fun g w u R _ _ _=> ?_);have hN2:=vY (a:=a.put o1.dst u) Y rfl;refine qV ?_;rw[ap hN2];generalize ha1:a.put o1.dst u=a1 at R⊢
 have hfr:=ig R.step R.le J;simp only[ff]at hfr;have r43:lk (s.put (some 43) (.d (.sl (.own i sz) (x::xr)))).r 43=some (.d (.sl (.own i sz) (x::xr))):=by simp[St.put,lk]
 have r5:lk (s.put (some 43) (.d (.sl (.own i sz) (x::xr)))).r 5=some (.d (.sl (.own i sz) (x::xr))):=by simp[St.put,lk,h5]
 have r3:lk (s.put (some 43) (.d (.sl (.own i sz) (x::xr)))).r 3=some (.ptr 0 0):=by simp[St.put,lk,b1]
 have r4:lk (s.put (some 43) (.d (.sl (.own i sz) (x::xr)))).r 4=some (.ptr 1 0):=by simp[St.put,lk,b2]
 have hBs:(s.put (some 43) (.d (.sl (.own i sz) (x::xr)))).B=s.B:=rfl;have hAs:(s.put (some 43) (.d (.sl (.own i sz) (x::xr)))).A=s.A:=rfl;have C:Core fid g w s.B s.A:=R.core;rw[b3]at C;obtain⟨b,c,hu5,O,V,hsz,x2,hKb,hheap,hnbx,hlent,hnames⟩:=Dt C (cX (R.regs 43 _ r43)) e1 e2 e3 e4;obtain⟨b',c',hu5',hcap',hmax',hsz',k,_⟩:=Dt C (cX (R.regs 5 _ r5)) e1 e2 e3 e4;rw[x2]at k;simp only[aB,di]at k;obtain⟨rfl,_,rfl,_⟩:=k;obtain⟨hfn,hcc⟩:=I _ _ _ _ _ _ e5;obtain⟨dst2,op2,ty2,pos2,aft2,gd2⟩:=o2;have m:aC P fid op2 (.call false (.c (.fn srt [])) [.t 43,.c (.fn cmp [])])=true:=by
  simp only[gS,aF]at Y;exact Y.1.2
 cases op2 with
 |call cl=>
  obtain⟨callee,H,argTypes⟩:=cl;cases callee with
  |value fo=>
   simp only[aC,aF]at m;obtain⟨hk1,hk2⟩:=m;have hfun:=bq (w:=w) (a:=a1) R.regs hk1 (show VX.get _ (.c (.fn srt []))=some (.fn srt [])from rfl);obtain⟨hla,Z⟩:=p9 (w:=w) (a:=a1) R.regs hk2 (show cO _ [.t 43,.c (.fn cmp [])]=some [.d (.sl (.own i sz) (x::xr)),.fn cmp []]by simp[cO,VX.get,r43]);generalize hq:a1.eval fo=qf at hfun;cases hfun with
   |fn _ _ us hus hcap2=>
    have hus0:us= #[]:=by simpa using hus
    subst hus0;have hrun:=yF (P:=P) (w:=w) (a:=a1) (o:=⟨dst2,.call ⟨.value fo,H,argTypes⟩,ty2,pos2,aft2,gd2⟩) rfl rfl hq hfn;have hlc:H.size=2:=by simpa using hla.symm
    have hcalls:=hcc (dl g b) w (H.map a1.eval++ #[]) (by simp[hlc]) (fun j v u h1 h2=>by
     simp at h2;obtain⟨oo,h3,rfl⟩:=h2
     match j with
     |0=>
      simp at h1;subst h1
      have h4:=Z 0 _ oo rfl (by simpa using h3);obtain⟨b',c',hu5',_,_,_,k,_⟩:=Dt C (cX h4) e1 e2 e3 e4;rw[x2]at k;simp only[aB,di]at k;obtain⟨rfl,_,rfl,_⟩:=k;rw[hu5'];exact .tsl _ _ _ _ _ _ (by simp[dl]) O V
     |1=>
      simp at h1;subst h1
      have h4:=Z 1 _ oo rfl (by simpa using h3);generalize a1.eval oo=uu at h4;cases h4 with
      |fn _ _ us2 hus2 hc2=>exact .fn _ _ us2 hus2 (fun j v u h5 h6=>by simp at h5)
     |j+2=>simp at h1) hlent (fun q j _=>by
     have:=hfr (q++[j]) (s.c+1) (aU _);simpa[dl]using this)
    unfold Oper.wp;rw[hrun,Oper.upon_enter];refine hcalls.mono fun e W ⟨u2,g1,he,hp⟩=> ?_
    subst he;have hd2:dst2=some 44:=by simp only[gS,aF,eJ]at Y;exact Y.1.1.1
    subst hd2;show(Code.seq rg2 (Code.seq rg3 Code.ret)).wp P Q (a1.put (some 44) u2) W;have t3:=fh (R.regs 3 _ r3);have t4:=fh (R.regs 4 _ r4);obtain⟨b3',hb3,t3⟩:=t3;obtain⟨b4',hb4,t4⟩:=t4;have t5:a1.tmps.getD 5 undef= .slice (some ⟨b,0,none⟩) (xr.length+1) c:=hu5';have hst:Step (jM p 0 (s.c+1)) g0 w0 Ids.none g w s.A:=by
     have:=R.step;rw[hA0,hc0]at this;exact this
    obtain⟨x1,ky,hh3,hs3,g3,hg0,hg1,G,hbox3,S⟩:=qEV (k2:=s.c+2) hcore0 R.boxes hst C e2 e3 hnames x2 hKb (by omega) O V hheap hnbx
     (N1:=from_ ((s.c+1)::p) 0) (fun x ⟨q,j,_,hx⟩=>⟨q++[j],s.c+1,cE _,by omega,by simp[hx]⟩) (by omega) hp.boxes hp.step hp.core e6 (by rw[e7,hsz]) (by rw[hsz];exact e8) f0 f1 f2 f3 f4 hb3 hb4
    have z:(a1.put (some 44) u2).tmps.size=N:=by rw[fN];exact R.size
    have hdef:(a1.put (some 44) u2).defers=a0.defers:=by rw[put_defers];exact R.defers
    have n3:(a1.put (some 44) u2).tmps.getD 3 undef= .pointer (some ⟨b3',0,none⟩):=by rw[lN,ak (by simp)];exact t3
    have n4:(a1.put (some 44) u2).tmps.getD 4 undef= .pointer (some ⟨b4',0,none⟩):=by rw[lN,ak (by simp)];exact t4
    have n5:(a1.put (some 44) u2).tmps.getD 5 undef= .slice (some ⟨b,0,none⟩) (xr.length+1) c:=by rw[lN,ak (by simp)];exact t5
    generalize a1.put (some 44) u2=a2 at z hdef n3 n4 n5⊢
    let gt:Gh:={K:=fun _=>0,row:=fun _=>none,bx:=fun i=>if i=0 then some b3' else if i=1 then some b4' else if i=2 then some b else none}
    have hr0:qcY fid gt W [(3,.ptr 0 0),(4,.ptr 1 0),(5,.tsl true 2 sz (xr.length+1))] a2.tmps:=by
     intro t v D;simp only[lk]at D;split at D
     ·rename_i h;subst h;simp at D;subst D;rw[n3];exact .ptr _ _ _ (by simp[gt])
     ·split at D
      ·rename_i h;subst h;simp at D;subst D;rw[n4];exact .ptr _ _ _ (by simp[gt])
      ·split at D
       ·rename_i h;subst h;simp at D;subst D;rw[n5];exact .tsl _ _ _ _ _ _ (by simp[gt]) O V
       ·simp at D
    obtain⟨id2,ops2,rfl,hops2⟩:=Ar hok2;obtain⟨p1,ps1,hl2,hp1,hps1⟩:=rO hops2;obtain⟨p2,ps2,rfl,hp2,hps2⟩:=rO hps1;obtain⟨p3,ps3,rfl,hp3,hps3⟩:=rO hps2;have:=GD hps3;subst this
    refine wp_seq (wp_region_list ?_);rw[hl2];refine qV ?_;rw[ap (vY hp1 rfl)];have k1:=hp1;have k2:=hp2;have k3:=hp3
    simp only[gS,aF,eJ]at k1 k2 k3;obtain⟨⟨⟨d1,l1⟩,k1⟩,_⟩:=k1;obtain⟨⟨⟨d2,l2⟩,k2⟩,_⟩:=k2;obtain⟨⟨⟨d3,l3⟩,k3⟩,_⟩:=k3;have x3:=qSE (P:=P) k1 a2 W;rw[n5]at x3;have v3:AVR fid gt W (.tsl true 2 sz (xr.length+1)) (.slice (some ⟨b,0,none⟩) (xr.length+1) c):= .tsl _ _ _ _ _ _ (by simp[gt]) O V;generalize hu3:Value.slice (some ⟨b,0,none⟩) (xr.length+1) c=u3 at v3 x3;have M:=fm (s:=⟨[(3,.ptr 0 0),(4,.ptr 1 0),(5,.tsl true 2 sz (xr.length+1))],[],Ids.none,0⟩) (dst:=p1.dst) hr0 v3 (fun d hd=>by rw[hd]at l1;rw[z];simpa using l1);unfold Oper.wp;rw[x3];show wpList P ops2 _ [p2,p3] (a2.put p1.dst u3) W;rw[d1]at M⊢
    simp only[St.put]at M;refine qV ?_;rw[ap (vY hp2 rfl)];obtain⟨u4,x4,v4⟩:=Hv (P:=P) (fid:=fid) (w:=W) (g:=gt) M k2 (show aA _ (.fieldAddr 2 (.t 3))=some (.ptr 0 2)by simp[aA,VX.get,lk]);have F:=fm (s:=⟨_,[],Ids.none,0⟩) (dst:=p2.dst) M v4 (fun d hd=>by rw[hd]at l2;rw[fN,z];simpa using l2);unfold Oper.wp;rw[x4];show wpList P ops2 _ [p3] ((a2.put (some 45) u3).put p2.dst u4) W;rw[d2]at F⊢
    simp only[St.put]at F;refine qV ?_;rw[ap (vY hp3 rfl)];have X:((a2.put (some 45) u3).put (some 46) u4).tmps.size=N:=by rw[fN,fN];exact z
    have hdf5:((a2.put (some 45) u3).put (some 46) u4).defers=a0.defers:=by rw[put_defers,put_defers];exact hdef
    have n45:((a2.put (some 45) u3).put (some 46) u4).tmps.getD 45 undef=u3:=by
     rw[lN,ak (by simp),lN,ap ⟨rfl,by rw[z];rw[d1]at l1;simpa using l1⟩]
    generalize (a2.put (some 45) u3).put (some 46) u4=a5 at F X hdf5 n45⊢
    obtain⟨dst3,op3,ty3,pos3,aft3,gd3⟩:=p3;simp only at d3 k3;subst d3;cases op3 with
    |store tt xo yo=>
     simp only[aC,aF,ba]at k3;obtain⟨⟨h1,h2⟩,h3⟩:=k3;obtain⟨blk,hbk,heq⟩:=fh (bq (w:=W) (a:=a5) F h2 (show VX.get _ (.t 46)=some (.ptr 0 2)by simp[VX.get,lk]));have hblk:blk=b3':=by simp[gt]at hbk;exact hbk.symm
     subst hblk;have hy5:a5.eval yo= .slice (some ⟨b,0,none⟩) (xr.length+1) c:=by rw[Eu h3 a5,n45,hu3]
     have hst5:=run_storeCells_at (P:=P) blk 2 ky [.slice (some ⟨b,0,none⟩) (xr.length+1) c] 0 x1 W hh3 (by simp;omega) (by simp[Value.oneCell']);have hrun5:(execOp a5.eval ⟨none,.store tt xo yo,ty3,pos3,aft3,gd3⟩).run P W= .ok .skip (W.setRow blk (splice x1.toList 2 [.slice (some ⟨b,0,none⟩) (xr.length+1) c]).toArray):=by
      simp only[execOp,Instr.storeAt,heq,Instr.sureAddr,hy5,Sem.run_bind,Sem.run_pure,Result.andThen_ok,storeVar,pj h1];rw[ak (by simp[Value.cells]),show(Value.slice (some ⟨b,0,none⟩) (xr.length+1) c).cells.toList=[.slice (some ⟨b,0,none⟩) (xr.length+1) c]from rfl,hst5];simp[splice]
     unfold Oper.wp;rw[hrun5];generalize hw2:W.setRow blk (splice x1.toList 2 [.slice (some ⟨b,0,none⟩) (xr.length+1) c]).toArray=w2 at G S⊢
     show(Code.seq rg3 Code.ret).wp P Q a5 w2;obtain⟨id3,ops3,rfl,hops3⟩:=Ar hok3;have hr6:qcY fid g3 w2 [(3,.ptr 0 0),(4,.ptr 1 0)] a5.tmps:=by
      have q3:=fh (F 3 (.ptr 0 0) (by simp[lk]));have q4:=fh (F 4 (.ptr 1 0) (by simp[lk]));obtain⟨c3,hc3,q3⟩:=q3;obtain⟨c4,hc4,q4⟩:=q4;simp[gt]at hc3 hc4;subst hc3;subst hc4
      intro t v D;simp only[lk]at D;split at D
      ·rename_i h;subst h;simp at D;subst D;rw[q3];exact .ptr _ _ _ hg0
      ·split at D
       ·rename_i h;subst h;simp at D;subst D;rw[q4];exact .ptr _ _ _ hg1
       ·simp at D
     let s6:St:=⟨[(3,.ptr 0 0),(4,.ptr 1 0)],[some [.d y.1,.d y.2,.d (.sl (.own i sz) q.1)],some [.d z0,.d z1,.d z2]],Ids.add i A2,s.c+2⟩
     have R6:Reach fid p N g0 w0 s0 a0 g3 w2 s6 a5:=⟨G,hbox3,by rw[hA0,hc0];exact S,hr6,X,hdf5,by rw[hc0];exact cE _⟩;have hfr6:=ig R6.step R6.le J;have hev:bF call p 1 (.seq (.region false 0 [4] [⟨some 47,.load true 3 (.t 3),none,[]⟩,⟨none,.store false 3 (.t 4) (.t 47),none,[]⟩]) .ret) s6=some (.ret,⟨[(4,.ptr 1 0)],[some [.d y.1,.d y.2,.d (.sl (.own i sz) q.1)],some [.d y.1,.d y.2,.d (.sl (.own i sz) q.1)]],Ids.add i A2,s.c+4⟩):=by
      have k0':AV.isCell (.d y.1)=true:=kk0;have k1':AV.isCell (.d y.2)=true:=kk1;have k2':AV.isCell (.d (.sl (.own i sz) q.1))=true:=rfl;simp[s6,bF,ib,cD,cJ,aP,VX.get,lk,aG,aI,jg,aM,je,fq,splice,AV.cells,k0',k1',k2',AV.safe,St.put,keep]
     refine kI I hm (.seq (.region false 0 [4] [⟨some 47,.load true 3 (.t 3),none,[]⟩,⟨none,.store false 3 (.t 4) (.t 47),none,[]⟩]) .ret) rfl _ g3 w2 a5 s6 _ .ret (N:=N) (p:=p) (n:=1) (by simp[bN,hops3]) G hr6 X hfr6 hev Q fun g7 w7 a7 R7=> ?_
     refine hQ g7 w7 a7 _ (R6.trans R7) ?_;simp[finish,iK,iv,lk,aG,aI,jg,aM,e9]
    |_=>simp[aC]at k3
  |_=>simp[aC]at m
 |_=>simp[aC]at m
end
section
variable {P:Program} {fid:Nat->FuncId}
theorem Zp(hm:P.follows .mixedOrders=true){k:Nat}{fn:Func}{O d1 d2 d3:VCode}{srt cmp:Nat}(W:P.funcs[fid k]?=some fn)(hok:aN P fid fn (Cb O d1 d2 d3 srt cmp)=true)(b1:(O.plain&&d1.plain&&d2.plain&&d3.plain)=true):wq P fid k (gX O d1 d2 d3 srt cmp):=by
 intro call n a;simp only[aF]at b1;obtain⟨⟨⟨pl0,pl1⟩,pl2⟩,pl3⟩:=b1;simp only[aN,aF,ba,fi]at hok;obtain⟨⟨⟨hb,hrs⟩,hnp⟩,K⟩:=hok;split at hb
 case h_2=>simp at hb
 rename_i c r;refine⟨⟨fn,W,K,by simp[r]⟩,fun p args v A hd G g0 w0 us b2 X j b=> ?_⟩;obtain⟨ds,Y⟩:=mt.1 hd;simp only[Y,aQ]at G;have o:=ft Y;unfold kZ at G;split at G
 ·simp at G
 rename_i hlen;obtain⟨⟨e,s⟩,h1,C⟩:=aw.1 G;simp only at C;have he:e= .normal:=by
  cases e with
  |normal=>rfl
  |exit id=>simp at C
  |ret=>simp at C
 subst he;obtain⟨x0,y0,rfl,o0,t0⟩:=mQ hb;obtain⟨x1,y1,rfl,o1,t1⟩:=mQ t0;obtain⟨x2,y2,rfl,o2,t2⟩:=mQ t1;obtain⟨x3,y3,rfl,o3,t3⟩:=mQ t2;obtain⟨x3a,F,rfl,o3a,o3b⟩:=mQ o3;obtain⟨N,y4,rfl,o4,t4⟩:=mQ t3;obtain⟨H,y5,rfl,o5,t5⟩:=mQ t4;have hret:y5= .ret:=by cases y5<;>simp[bN]at t5⊢
 subst hret;obtain⟨s1,e1,h1⟩:=BP h1;obtain⟨s2,e2,h1⟩:=BP h1;obtain⟨s3,e3,e4⟩:=BP h1;refine calls_of_wp W r ?_;have M:qcY fid g0 w0 (aV 0 (ds.map .d)) (us++Array.replicate (fn.ntmps-us.size) undef):=by
  intro t v G;obtain⟨_,S⟩:=Ak _ 0 t v G;rw[<-o]at S;simp only[kb]at S;have I:t<us.size:=by rw[b2];exact(aK.1 S).1
  have:(us++Array.replicate (fn.ntmps-us.size) undef).getD t undef=us[t]:=by
   simp[bL,ju I,I]
  rw[this];exact X t v _ S (by simp[I])
 have hsz:(us++Array.replicate (fn.ntmps-us.size) undef).size=fn.ntmps:=by
  have Z:us.size=2:=by rw[b2,o,dK];simpa[gX]using hlen
  simp[Cb]at hnp;simp;omega
 refine wp_seq (kI a hm O pl0 x0 g0 w0 _ ⟨aV 0 (ds.map .d),[],Ids.none,0⟩ s1 .normal o0 j M hsz b e1 _ fun g1 w1 a1 V=> ?_);show(Code.seq x1 _).wp P _ a1 w1;refine wp_seq (kI a hm d1 pl1 x1 g1 w1 _ s1 s2 .normal o1 V.core V.regs V.size (ig V.step V.le b) e2 _ fun g2 w2 a2 R2=> ?_);show(Code.seq x2 _).wp P _ a2 w2;have m:=V.trans R2;refine wp_seq (kI a hm d2 pl2 x2 g2 w2 _ s2 s3 .normal o2 m.core m.regs m.size (ig m.step m.le b) e3 _ fun g3 w3 a3 R3=> ?_);show(Code.seq _ _).wp P _ a3 w3;have l:=m.trans R3;refine wp_seq (wp_seq (kI a hm d3 pl3 x3a g3 w3 _ s3 s .normal o3a l.core l.regs l.size (ig l.step l.le b) e4 _ fun g4 w4 a4 R4=> ?_));have R:=l.trans R4;have J:=fun(e:Ex) (s':St) (g':Gh) (w':World) (a':Act) (z:Reach fid p fn.ntmps g0 w0 ⟨aV 0 (ds.map .d),[],Ids.none,0⟩ ⟨us++Array.replicate (fn.ntmps-us.size) undef,[]⟩ g' w' s' a')=>N3 (v:=v) (A:=A) (e:=e) rfl rfl rfl j b hrs z
 show F.wp P (Exit.then ((Code.seq N (Code.seq H Code.ret)).wp P (bodyPost P fn _)) (bodyPost P fn _)) a4 w4;have D:(bF call p n (gX O d1 d2 d3 srt cmp).rest s).bind (fun r2=>match r2.1 with| .exit _=>none|_=>(finish 0 p r2.2 (gX O d1 d2 d3 srt cmp).results).bind fun q=>match q.v with| .d v=>some (v,q.A)|_=>none)=some (v,A)->
  F.wp P (Exit.then ((Code.seq N (Code.seq H Code.ret)).wp P (bodyPost P fn (fun e w'=>∃u g',e= .returned u/\Post fid (from_ p 0) g0 w0 Ids.none ⟨.d v,A,[]⟩ u g' w'))) (bodyPost P fn (fun e w'=>∃u g',e= .returned u/\Post fid (from_ p 0) g0 w0 Ids.none ⟨.d v,A,[]⟩ u g' w'))) a4 w4:=by
  intro h;obtain⟨⟨e5,s5⟩,Z,Q⟩:=aw.1 h;simp only[gX,bF]at Z;obtain⟨⟨ec,sc⟩,h7,h8⟩:=aw.1 Z;refine kI a hm (.cond (.t 42) (.region false 0 [3,4,5] [⟨some 43,.move (.t 5),none,[]⟩,⟨some 44,.call false (.c (.fn srt [])) [.t 43,.c (.fn cmp [])],none,[]⟩]) .skip) rfl F g4 w4 _ s sc ec (n:=n) o3b R.core R.regs R.size (ig R.step R.le b) (by simpa only[bF]using h7) _ fun g5 w5 a5 R5=> ?_
  have z:=R.trans R5;cases ec with
  |exit id=>
   simp only[aB,di]at h8;obtain⟨rfl,rfl⟩:=h8;simp at Q
  |ret=>
   simp only[aB,di]at h8;obtain⟨rfl,rfl⟩:=h8;exact J .ret sc g5 w5 a5 z Q
  |normal=>
   show(Code.seq N (Code.seq H Code.ret)).wp P _ a5 w5;refine kI a hm (.seq (.region false 0 [3,4] [⟨some 45,.move (.t 5),none,[]⟩,⟨some 46,.fieldAddr 2 (.t 3),none,[]⟩,⟨none,.store false 1 (.t 46) (.t 45),none,[]⟩])
    (.seq (.region false 0 [4] [⟨some 47,.load true 3 (.t 3),none,[]⟩,⟨none,.store false 3 (.t 4) (.t 47),none,[]⟩]) .ret)) rfl _ g5 w5 _ sc s5 e5 (n:=n) (by simp only[bN,o4,o5,uS]) z.core z.regs z.size (ig z.step z.le b) (by simpa only[bF]using h8) _ fun g6 w6 a6 R6=> ?_
   exact J e5 s5 g6 w6 a6 (z.trans R6) Q
 split at C
 ·rename_i i sz x xr q1 q2
  obtain⟨y,S,h4⟩:=aw.1 C;obtain⟨q,Z,Q⟩:=au.1 h4;simp only[di]at Q;obtain⟨rfl,rfl⟩:=Q;refine ME a hm o3b o4 o5 rfl rfl rfl j b R q1 q2 S Z _ fun g' w' a' s' z hf=> ?_
  exact J .ret s' g' w' a' z (by show(finish 0 p s' [.cell 4 true 3]).bind _=_;rw[hf];rfl)
 ·exact D C
 ·exact D C
 ·simp at C
end
section
open Go.WideShapes
def start(w:World)(M:Nat):Gh:=⟨fun b=>if b<w.heap.size then M else 0,fun _=>none,fun _=>none⟩
theorem Me{fid:Nat->FuncId}(w:World)(M:Nat):Core fid (start w M) w [] Ids.none:=
 ⟨fun i b h=>by simp[start]at h,fun i j b h=>by simp[start]at h,fun a h=>by simp[Ids.none]at h,fun a a' b x x' h=>by simp[Ids.none]at h,fun b hb=>by simp[start];omega⟩
theorem Uk(w:World)(M:Nat)(p:Id):fu (start w M) p 0:=fun _ _ _=>rfl
theorem Yy{fid:Nat->FuncId}{N:Id->Prop}{w w':World}{M:Nat}{r:Res}{u:Value}{g':Gh}(h:Post fid N (start w M) w Ids.none r u g' w'):RowKit.Below w.heap.size w w':=
 ⟨h.step.os,h.step.tape,h.step.output,h.step.size,fun b hb=>(h.step.keep b hb (fun i h=>by simp[start]at h) (fun a h=>by simp[Ids.none]at h)).1⟩
variable {P:Program}
def dB(P:Program)(t:TypeId)(cs:List DV):DV:=
 match P.underlying t with
 |some (.struct _)=> .agg cs
 |_=>cs.headD (.bool false)
inductive Shape(P:Program):TypeId->List DV->Prop where
 |int {t:TypeId} {k:IntKind} {n:Int}:P.underlying t=some (.int k)->(Lit.int k n).wf=true->Shape P t [.int k n]
 |bool {t:TypeId} {b:Bool}:P.underlying t=some .bool->Shape P t [.bool b]
 |str {t:TypeId} {s:ByteArray}:P.underlying t=some .string->s.size<=maxLen->Shape P t [.str s]
 |nil {t e:TypeId}:P.underlying t=some (.slice e)->Shape P t [.sl .nil []]
 |row {t e:TypeId} {xs:List DV}:P.underlying t=some (.slice e)->xs.length<=maxLen->(∀x:DV,x∈xs->x=dB P e x.cells)->(∀x:DV,x∈xs->Shape P e x.cells)->Shape P t [.sl .sub xs]
 |struct {t:TypeId} {fs:Array Field} {cs:List DV}:P.underlying t=some (.struct fs)->cs.length=P.cellsOf t->(∀f:Field,f∈fs.toList->Shape P f.type ((cs.drop f.offset).take (P.cellsOf f.type)))->Shape P t cs
def layout(P:Program):List Field->Nat->Nat->Bool
 | [],o,n=>o==n
 |f::r,o,n=>f.offset==o&&layout P r (o+P.cellsOf f.type) n
def mw(P:Program)(S:List TypeId)(t:TypeId):Bool:=
 match P.underlying t with
 |some (.int _)|some .bool|some .string=>P.cellsOf t==1
 |some (.slice e)=>S.contains e&&P.cellsOf t==1
 |some (.struct fs)=>fs.toList.all (fun f=>S.contains f.type)&&layout P fs.toList 0 (P.cellsOf t)
 |_=>false
def VRs(w:World)(a:Nat)(ds:List DV)(cs:List Value):Prop:=
 ds.length=cs.length/\(∀v:DV,v∈ds->v.isCell=true)/\∀M,a<=M->∀(j:Nat) (v:DV) (u:Value),ds[j]?=some v->cs[j]?=some u->VR (start w M) w v u
theorem VRs.one{w:World}{b:Nat}{v:DV}{u:Value}(hc:v.isCell=true)(h:∀M,b<=M->VR (start w M) w v u):VRs w b [v] [u]:=
 ⟨rfl,fun x hx=>by simp at hx;subst hx;exact hc,fun M c j x y h1 a=>by
  cases j with
  |zero=>simp at h1 a;subst h1;subst a;exact h M c
  |succ j=>simp at h1⟩
theorem bound(f:Nat->Nat):∀n,∃M,∀i,i<n->f i<=M
 |0=>⟨0,fun i h=>by omega⟩
 |n+1=>by
  obtain⟨M,h⟩:=bound f n;refine⟨max M (f n),fun i hi=> ?_⟩;rcases dZ i n with h1|h1
  ·exact cN (h i h1) (iJ _ _)
  ·have:i=n:=by omega
   subst this;exact hO _ _
theorem fields{w:World}{cs:List Value}{n:Nat}:∀(l:List Field) (o:Nat),layout P l o n=true->
 (∀f:Field,f∈l->∃(a:List DV) (x:Nat),a.length=P.cellsOf f.type/\Shape P f.type a/\VRs w x a ((cs.drop f.offset).take (P.cellsOf f.type)))->
 ∃(ds:List DV) (x:Nat),o<=n/\ds.length=n-o/\(∀f:Field,f∈l->o<=f.offset/\Shape P f.type ((ds.drop (f.offset-o)).take (P.cellsOf f.type)))/\VRs w x ds ((cs.drop o).take (n-o))
 | [],o,i,_=>by
  simp[layout]at i;subst i
  exact⟨[],0,aU _,by simp,fun f J=>by simp at J,by simp,fun v d=>by simp at d,fun M _ j v u h=>by simp at h⟩
 |f::r,o,i,h=>by
  simp[layout]at i;obtain⟨k,i⟩:=i;obtain⟨a,D,h1,F,q⟩:=h f (by simp);obtain⟨ds,C,Q,N,I,m⟩:=fields r _ i fun e b=>h e (by simp[b])
  refine⟨a++ds,max D C,by omega,by simp;omega,fun e b=> ?_,?_,?_,?_⟩
  ·rcases br.1 b with rfl|b
   ·refine⟨by omega,?_⟩
    rw[k,mq,fE,<-h1,Js (aU _),fR];exact F
   ·obtain⟨O,G⟩:=I e b
    refine⟨by omega,?_⟩;have:(a++ds).drop (e.offset-o)=ds.drop (e.offset-(o+P.cellsOf f.type)):=by
     rw[show e.offset-o=a.length+(e.offset-(o+P.cellsOf f.type))by omega,pL];simp
    rw[this];exact G
  ·have H:=q.1
   have K:=m.1;simp at H K⊢
   omega
  ·intro v d
   rcases bl.1 d with d|d
   ·exact q.2.1 v d
   ·exact m.2.1 v d
  ·intro M z j v u hj c
   have t:D<=M:=cN (iJ _ _) z;have p:C<=M:=cN (hO _ _) z;rcases dZ j a.length with y|s
   ·rw[bY y]at hj
    refine q.2.2 M t j v u hj ?_;rw[ew]at c⊢
    rw[k];split at c
    ·rw[ap (by omega)];exact c
    ·simp at c
   ·rw[cj s]at hj
    refine m.2.2 M p (j-a.length) v u hj ?_;rw[ew]at c⊢
    split at c
    ·rw[ap (by omega),gk]
     rw[gk]at c;rw[show o+P.cellsOf f.type+(j-a.length)=o+j by omega];exact c
    ·simp at c
theorem SR{w:World}{base:Nat}{a:Addr}{n:Nat}{cs:List Value}(h:w.cells? base a n=some cs):cs.length=n/\∀j,j<n->w.cell? (a.add j)=cs[j]?:=by
 unfold World.cells? at h;split at h
 ·have b:=mapM_some_length h
  simp at b;refine⟨b,fun j hj=> ?_⟩;have:=mapM_some_get h j j (by simp[hj]);exact this
 ·simp at h
theorem Oa{t:TypeId}{ds:List DV}(hs:Shape P t ds)(hc:∀v:DV,v∈ds->v.isCell=true):(dB P t ds).cells=ds:=by
 cases hs with
 |struct a b c=>simp[dB,a,DV.cells]
 |int a hw=>simp[dB,a,DV.cells]
 |bool a=>simp[dB,a,DV.cells]
 |str a hw=>simp[dB,a,DV.cells]
 |nil a=>simp[dB,a,DV.cells]
 |row a _ _ _=>simp[dB,a,DV.cells]
theorem Bl{H:Type}{enc:TypeId×Value->H}{w:World}{sp:Nat->Bool}{held:Bool}{S:List TypeId}(hS:∀t,t∈S->mw P S t=true):
 ∀(fuel:Nat) (t:TypeId) (cs:List Value) (x:DataW H×List MemPlace),t∈S->DataW.trod enc P w 0 sp held fuel t cs=some x->
  ∃(ds:List DV) (C:Nat),ds.length=P.cellsOf t/\Shape P t ds/\VRs w C ds cs
 |0,t,cs,x,_,h=>by simp[DataW.trod]at h
 |fuel+1,t,cs,x,ht,h=>by
  have c:=hS t ht;unfold mw at c;split at c
  ·rename_i k m
   obtain⟨n,rfl,_,hw⟩:=DataW.trod_int m h;simp at c;exact⟨[.int k n],0,by simp[c],.int m hw,.one rfl fun _ _=> .int k n⟩
  ·rename_i m
   obtain⟨b,rfl,_⟩:=DataW.trod_bool m h;simp at c;exact⟨[.bool b],0,by simp[c],.bool m,.one rfl fun _ _=> .bool b⟩
  ·rename_i m
   obtain⟨s,rfl,_,hw⟩:=DataW.trod_string m h;simp at c;exact⟨[.str s],0,by simp[c],.str m hw,.one rfl fun _ _=> .str s⟩
  ·rename_i e m
   simp at c;obtain⟨he,h1⟩:=c;rcases DataW.trod_slice m h with⟨rfl,_⟩|⟨a,len,cap,elems,rest,n,hn,rfl,_,_,hl,hm,hlen,Z,_,_⟩
   ·exact⟨[.sl .nil []],0,by simp[h1],.nil m,.one rfl fun _ _=> .nil⟩
   ·obtain rfl:fuel=n:=by omega
    have q:∀i,i<len->∃(ds:List DV) (C:Nat) (z:List Value),ds.length=P.cellsOf e/\Shape P e ds/\VRs w C ds z/\∀j,j<P.cellsOf e->w.cell? ((a.add (i*P.cellsOf e)).add j)=z[j]?:=by
     intro i hi;have l:=Z i hi;have Y:elems[i]?=some elems[i]:=by simp[hlen,hi]
     rw[Y]at l;obtain⟨z,J,X⟩:=aw.1 l;obtain⟨h6,h7⟩:=SR J;obtain⟨ds,C,Q,q2,V⟩:=Bl hS fuel e z _ he X;exact⟨ds,C,z,Q,q2,V,h7⟩
    have:∃(D:Nat->List DV) (Mf:Nat->Nat) (K:Nat->List Value),∀i,i<len->(D i).length=P.cellsOf e/\Shape P e (D i)/\VRs w (Mf i) (D i) (K i)/\∀j,j<P.cellsOf e->w.cell? ((a.add (i*P.cellsOf e)).add j)=(K i)[j]?:=by
     refine⟨fun i=>if hi:i<len then(q i hi).choose else [],fun i=>if hi:i<len then(q i hi).choose_spec.choose else 0,fun i=>if hi:i<len then(q i hi).choose_spec.choose_spec.choose else [],fun i hi=> ?_⟩;simp only[hi,dite_true];exact(q i hi).choose_spec.choose_spec.choose_spec
    obtain⟨D,Mf,K,F⟩:=this;obtain⟨M1,x2⟩:=bound Mf len;have d:∀i,i<len->(dB P e (D i)).cells=D i:=fun i hi=>Oa (F i hi).2.1 (F i hi).2.2.1.2.1
    have N:0<len*P.cellsOf e->a.spot=none:=by
     intro r;have I:0<P.cellsOf e:=by
      rcases kf (P.cellsOf e)with o|o
      ·rw[o]at r;simp at r
      ·exact o
     have x3:0<len:=by
      rcases kf len with o|o
      ·rw[o]at r;simp at r
      ·exact o
     obtain⟨d1,d2,d3,d4⟩:=F 0 x3;have y:=d4 0 I;have x1:(K 0).length=P.cellsOf e:=by rw[<-d3.1];exact d1
     rw[eh (by omega)]at y;have e1:(a.add (0*P.cellsOf e)).add 0=a:=by simp[Addr.add]
     rw[e1]at y;unfold World.cell? at y;split at y
     ·split at y
      ·simp at y
      ·rename_i hh;simpa using hh
     ·simp at y
    have p:∀k,k<len*P.cellsOf e->a.spot=none/\∃u,w.cell? (a.add k)=some u/\(K (k/P.cellsOf e))[k%P.cellsOf e]?=some u:=by
     intro k r;have I:0<P.cellsOf e:=by
      rcases kf (P.cellsOf e)with o|o
      ·rw[o]at r;simp at r
      ·exact o
     have hi:k/P.cellsOf e<len:=Ei (by rw[kN];exact r);have hj:k%P.cellsOf e<P.cellsOf e:=Nat.mod_lt _ I;obtain⟨d1,d2,d3,d4⟩:=F _ hi;have y:=d4 _ hj;have x1:(K (k/P.cellsOf e)).length=P.cellsOf e:=by rw[<-d3.1];exact d1
     rw[eh (by omega)]at y;have hsp:a.spot=none:=N (by omega);rw[add_add _ _ _ hsp,kN,CN]at y;exact⟨hsp,_,y,by rw[eh (by omega)]⟩
    refine⟨[.sl .sub ((List.range len).map fun i=>dB P e (D i))],max M1 (a.off+len*P.cellsOf e),by simp[h1],?_,.one rfl fun M hM=> ?_⟩
    ·refine .row m (by simp;omega) (fun x hx=> ?_) (fun x hx=> ?_)
     ·simp only[bP,eW]at hx
      obtain⟨i,hi,rfl⟩:=hx;rw[d i hi]
     ·simp only[bP,eW]at hx
      obtain⟨i,hi,rfl⟩:=hx;rw[d i hi];exact(F i hi).2.1
    ·have key:VR (start w M) w (.sl .sub ((List.range len).map fun i=>dB P e (D i))) (.slice (some a) ((List.range len).map fun i=>dB P e (D i)).length cap):=by
      refine .row .sub _ a cap (P.cellsOf e) (fun k=>(w.cell? (a.add k)).getD undef) (by simp) (by simpa using hl) hm (fun k r=> ?_) ?_ (fun i x hx=> ?_) (fun i x j v hx hj=> ?_) (by simp)
      ·simp at r
       obtain⟨_,u,l,_⟩:=p k r;rw[l];rfl
      ·simp only[dK,Ci]
       rcases kf (len*P.cellsOf e)with o|o
       ·exact .inl o
       ·right
        obtain⟨hsp,u,l,_⟩:=p 0 o;have hb:a.block<w.heap.size:=by
         unfold World.cell? at l;rw[add_block]at l;split at l
         ·rename_i hh
          exact(dD.1 hh).1
         ·simp at l
        simp only[start,hb,if_true];exact cN (hO _ _) hM
      ·simp only[cH]at hx
       obtain⟨G,l,rfl⟩:=au.1 hx;have hi:i<len:=by have:=(aK.1 l).1;simpa using this
       have:G=i:=by have:=(aK.1 l).2;simp at this;omega
       subst this;rw[d _ hi];exact⟨(F _ hi).1,(F _ hi).2.2.1.2.1⟩
      ·simp only[cH]at hx
       obtain⟨G,l,rfl⟩:=au.1 hx;have hi:i<len:=by have:=(aK.1 l).1;simpa using this
       have:G=i:=by have:=(aK.1 l).2;simp at this;omega
       subst this;rw[d _ hi]at hj;obtain⟨d1,d2,d3,d4⟩:=F _ hi;have O:j<P.cellsOf e:=by rw[<-d1];exact(aK.1 hj).1
       have r:G*P.cellsOf e+j<len*P.cellsOf e:=by
        have:=fb (P.cellsOf e) (show G+1<=len by omega);rw[c_]at this;omega
       obtain⟨hsp,u,Y,J⟩:=p _ r;rw[Y];have e1:(G*P.cellsOf e+j)/P.cellsOf e=G:=by
        rw[kN,Nat.mul_add_div (by omega),Nat.div_eq_of_lt O];rfl
       have e2:(G*P.cellsOf e+j)%P.cellsOf e=j:=by
        rw[kN,Nat.mul_add_mod,y7 O]
       rw[e1,e2]at J;exact d3.2.2 M (cN (x2 _ hi) (cN (iJ _ _) hM)) j v u hj J
     simpa using key
  ·rename_i fs m
   simp only[aF,bu]at c;obtain⟨h1,l⟩:=c;obtain⟨xs,n,hn,_,hl,a1,hx⟩:=DataW.trod_struct m h;obtain rfl:fuel=n:=by omega
   obtain⟨ds,C,_,Q,q2,V⟩:=fields (w:=w) (cs:=cs) fs.toList 0 l fun f R=>by
    obtain⟨i,hi⟩:=Array.mem_iff_getElem?.1 (uC.1 R);have J:=hx i f hi;have X:i<xs.length:=by rw[a1];exact(dD.1 hi).1
    rw[eh X]at J;obtain⟨W,C,r1,r2,r3⟩:=Bl hS fuel f.type _ _ (by simpa using h1 f R) J;exact⟨W,C,r1,r2,r3⟩
   refine⟨ds,C,by simpa using Q,.struct m (by simpa using Q) (fun f R=>by simpa using (q2 f R).2),?_⟩;rw[fE,kb,<-hl,fR]at V;exact V
  ·simp at c
theorem QS{H:Type}{enc:TypeId×Value->H}{w:World}{C:Nat->Bool}{held:Bool}{S:List TypeId}(F:S.all (mw P S)=true){t:TypeId}{v:Value}{d:DataW H}{ps:List MemPlace}(o:S.contains t=true)
 {r:Go.Reach} {I:Nat} (c:Value.okWide P w r I t v) (h:DataW.Trod enc P w 0 C held t v d ps):
 ∃(ds:List DV) (p:Nat),ds.length=P.cellsOf t/\Shape P t ds/\∀M,p<=M->VR (start w M) w (dB P t ds) v:=by
 obtain⟨fuel,h⟩:=h;have l:∀t,t∈S->mw P S t=true:=fun t o=>bu.1 F t o
 have m:t∈S:=by simpa using o
 obtain⟨ds,p,h1,D,y⟩:=Bl l fuel t _ _ m h;refine⟨ds,p,h1,D,fun M z=> ?_⟩;have b:=l t m;have one:∀(x:DV),v.cells= #[v]->ds=[x]->VR (start w M) w x v:=by
  intro x s G;subst G;exact y.2.2 M z 0 x v rfl (by rw[s];rfl)
 unfold mw at b;split at b
 ·rename_i k i
  obtain⟨n,rfl⟩:=okWide_int i c;simp at b;obtain⟨x,rfl⟩:=oT.1 (h1.trans b);simpa[dB,i]using one x rfl rfl
 ·rename_i i
  obtain⟨n,rfl⟩:=okWide_bool i c;simp at b;obtain⟨x,rfl⟩:=oT.1 (h1.trans b);simpa[dB,i]using one x rfl rfl
 ·rename_i i
  obtain⟨n,rfl⟩:=okWide_string i c;simp at b;obtain⟨x,rfl⟩:=oT.1 (h1.trans b);simpa[dB,i]using one x rfl rfl
 ·rename_i e i
  obtain⟨a,len,cap,rfl⟩:=okWide_slice i c;simp at b;obtain⟨x,rfl⟩:=oT.1 (h1.trans b.2);simpa[dB,i]using one x rfl rfl
 ·rename_i fs i
  simp only[Value.okWide,i]at c;obtain⟨cs,rfl,s,_⟩:=c;simp only[dB,i];refine .agg ds cs (by rw[s,h1]) y.2.1 fun j x u hj q=>y.2.2 M z j x u hj ?_
  simpa[Value.cells]using q
 ·simp at b
end
section
open Go.ChangeShapes Go.WideShapes Go.ChangeAt Go.RowKit
def oq(P:Program):List TypeId->List (List DV)->Prop
 | [],[]=>True
 |t::ts,x::xs=>(x.length=P.cellsOf t/\Shape P t x)/\oq P ts xs
 |_,_=>False
def jT(P:Program):List TypeId->List (List DV)->List AV
 |t::ts,x::xs=> .d (dB P t x)::jT P ts xs
 |_,_=>[]
variable {P:Program} {fid:Nat->FuncId}
theorem KH:∀{ts:List TypeId} {xs:List (List DV)},oq P ts xs->(jT P ts xs).length=ts.length
 | [],[],_=>rfl
 |t::ts,x::xs,h=>by simp[jT,KH h.2]
 | [],_::_,h=>h.elim
 |_::_,[],h=>h.elim
theorem Iy{H:Type}{enc:TypeId×Value->H}{w:World}{C:Nat->Bool}{held:Bool}{S:List TypeId}(k:S.all (mw P S)=true){r:Go.Reach}{z:Nat}:
 ∀(ts:List TypeId) (vs:List Value) (ds:List (DataW H)) (ps:List MemPlace),ts.all (S.contains ·)=true->DataW.TrodAll enc P w 0 C held ts vs ds ps->(∀(j:Nat) t v,ts[j]?=some t->vs[j]?=some v->Value.okWide P w r z t v)->
  ∃(xs:List (List DV)) (F:Nat),oq P ts xs/\vs.length=ts.length/\ds.length=ts.length/\∀M,F<=M->∀(j:Nat) (v:AV) (u:Value),(jT P ts xs)[j]?=some v->vs[j]?=some u->AVR fid (start w M) w v u
 | [],[],[],ps,_,_,_=>⟨[],0,trivial,rfl,rfl,fun M _ j v u h=>by simp[jT]at h⟩
 |t::ts,v::vs,d::ds,ps,b,h,e=>by
  obtain⟨p,q,h1,m,rfl⟩:=h;simp only[fM,aF]at b;obtain⟨x,K,y,N,o⟩:=QS k b.1 (e 0 t v rfl rfl) h1;obtain⟨xs,I,n,l,G,D⟩:=Iy k ts vs ds q b.2 m fun j t v s J=>e (j+1) t v s J
  refine⟨x::xs,max K I,⟨⟨y,N⟩,n⟩,by simp[l],by simp[G],fun M i j a u ha c=> ?_⟩;cases j with
  |zero=>
   simp[jT]at ha c;subst ha;subst c
   exact .d _ _ (o M (cN (iJ _ _) i))
  |succ j=>
   simp[jT]at ha c;exact D M (cN (hO _ _) i) j a u ha c
 | [],_::_,_,_,_,h,_=>h.elim
 | [],[],_::_,_,_,h,_=>h.elim
 |_::_,[],_,_,_,h,_=>h.elim
 |_::_,_::_,[],_,_,h,_=>h.elim
theorem IZ{H:Type}{enc:TypeId×Value->H}(e:laidOutB P=true){W i:World}(hb:Below W.heap.size W i):
 ∀(ts:List TypeId) (vs:List Value) (ds:List (DataW H)) (ps:List MemPlace),ts.all (fun t=>P.readableRec t&&decide (t<P.types.size))=true->DataW.TrodAll enc P W 0 (fun _=>true) true ts vs ds ps->
  DataW.TrodAll enc P i 0 (fun b=>decide (b<W.heap.size)) true ts vs ds ps
 | [],[],[],ps,_,h=>h
 |t::ts,v::vs,d::ds,ps,a,h=>by
  have c:=DataW.TrodAll.lt h;obtain⟨p,q,h1,j,rfl⟩:=h;simp only[fM,aF,ba]at a;exact⟨p,q,Below.trod e a.1.1 a.1.2 h1 hb fun x hx=>c x (kj _ hx),IZ e hb ts vs ds q a.2 j,rfl⟩
 | [],_::_,_,_,_,h=>h.elim
 | [],[],_::_,_,_,h=>h.elim
 |_::_,[],_,_,_,h=>h.elim
 |_::_,_::_,[],_,_,h=>h.elim
theorem Px{H:Type}{enc:TypeId×Value->H}{C:Checked}{os:Os}{f k:Nat}{fn:Func}{s:ChangeSpec}{a:List PathCond}{E:Env}{S:List TypeId}{tb:TypeId}
 (Y:EnvOK C.prog fid E) (own:ownKnob C.prog.godebug=none) (started:os.Started) (d:laidOutB C.prog=true) (O:fid k=f) (c:C.prog.inits.idxOf? f=none) (z:C.prog.funcs[f]?=some fn)
 (b:s.vars=[]) (V:S.all (mw C.prog S)=true) (D:fn.params.toList.all (S.contains ·)=true) (o:fn.params.toList.all (fun t=>C.prog.readableRec t&&decide (t<C.prog.types.size))=true)
 (x:fn.resultTypes= #[tb]) (hb:C.prog.underlying tb=some .bool) (m:∀ds:List (DataW H),ds.length=fn.params.size->s.fn H ds={results:=[.lit (.bool true)],args:=ds})
 (witness:∃(w:World) (tape:Tape) (i:Input),w.os=os/\(w.forCall tape i).Shaped C.prog/\i.vars=[]/\Input.okWide C.prog (w.forCall tape i) .any w.heap.size f i/\
  s.pre6 enc C.prog fn a false (w.forCall tape i).memory i.args/\({}:Assume).holds C.prog (lone (Frame.enter C.prog f i.args .normal) [] (w.forCall tape i)))
 (plain:∀xs:List (List DV),oq C.prog fn.params.toList xs->∃A B,oX E [] k (jT C.prog fn.params.toList xs) [] Ids.none=some ⟨ar true,A,B⟩):
 ReturnsInHanded {} C os f .any (s.pre6 enc C.prog fn a false) (s.post enc C.prog fn false true false false):=by
 refine returnsInHanded_of_change_sized own started c z witness ?_;intro W base args ds gs before r G I hsz _;have F:=G;obtain⟨p,q,K,J,rfl,hfz,X⟩:=G;rw[b]at J;obtain⟨rfl,rfl⟩:=trodVars_none J;obtain⟨xs,M,N,Q,a3,a4⟩:=Iy (fid:=fid) V fn.params.toList args.toList ds p D K (fun j t v h1 y=>r j t v (by simpa using h1) (by simpa using y));obtain⟨A,B,key⟩:=plain xs N;obtain⟨_,hc⟩:=VL Y _ _ _ _ _ _ key;rw[O]at hc;refine(hc (start W M) W args (by rw[KH N];simpa using Q) (fun j v u h1 y=>a4 M (aU _) j v u h1 (by simpa using y)) (Me W M) (Uk W M [])).mono fun e Z ⟨u,g',he,hp⟩=> ?_
 have R:u= .bool true:=ja hp.val;have n:=Yy hp;subst he;subst R
 have l:s.fn H (ds++[])={results:=[.lit (.bool true)],args:=ds}:=by
  rw[dq];exact m ds (by simpa using a3)
 refine⟨_,rfl,ds,[],_,[],p,[],F,?_,?_,?_,n.frame _,fun h=>by cases h⟩
 ·rw[l,x]
  exact trodAll_mk1 (shut_bool hb _)
 ·rw[l]
  exact IZ d n _ _ _ _ o K
 ·rw[l,b]
  rfl
theorem PM{t:TypeId}{k:IntKind}{x:List DV}(a:P.underlying t=some (.int k))(h:Shape P t x):∃n,x=[.int k n]/\(Lit.int k n).wf=true:=by
 cases h with
 |int h hw=>rw[a]at h;simp at h;subst h;exact⟨_,rfl,hw⟩
 |bool h=>rw[a]at h;simp at h
 |str h=>rw[a]at h;simp at h
 |nil h=>rw[a]at h;simp at h
 |row h=>rw[a]at h;simp at h
 |struct h=>rw[a]at h;simp at h
theorem YC{t e:TypeId}{x:List DV}(a:P.underlying t=some (.slice e))(h:Shape P t x):∃g xs,x=[.sl g xs]/\xs.length<=maxLen/\(g= .nil->xs=[])/\(∀y:DV,y∈xs->y=dB P e y.cells)/\∀y:DV,y∈xs->Shape P e y.cells:=by
 cases h with
 |int h hw=>rw[a]at h;simp at h
 |bool h=>rw[a]at h;simp at h
 |str h hw=>rw[a]at h;simp at h
 |nil h=>exact⟨.nil,[],rfl,by simp,fun _=>rfl,by simp,by simp⟩
 |row h h1 b c=>rw[a]at h;simp at h;subst h;exact⟨.sub,_,rfl,h1,by simp,b,c⟩
 |struct h=>rw[a]at h;simp at h
end
attribute [simp] Un SK ZH Um Wl So Xx Ni Z4 PD aV UD OG YG Xv Oy Vt UR Tq Q9 ZQ ZR Sj quj Tk Mb bm aX bg N4 M5 a_ Gj fY Qy fJ KG S7 Yp NQ Q8 Tn qtL O8 Tp Tl
def eZ(s:ByteArray)(i:Nat):Int:=((s[i]?).map fun b=>(b.toNat:Int)).getD 0
theorem ye{s:ByteArray}{i:Nat}(h:i<s.size):mL s i=some (eZ s i):=by
 simp[mL,eZ,h]
@[simp] theorem qUV(A:Ids):Ids.or Ids.none A=A:=by funext x;simp[Ids.or,Ids.none]
theorem yh{n:Nat}(h:n<9223372036854775808):IntKind.i64.wrap (n:Int)=n:=wrap_i64 (by omega) (by omega)
theorem bH{n:Nat}(h:n+1<9223372036854775808):IntKind.i64.wrap ((n:Int)+1)=((n+1:Nat):Int):=by
 have:=yh h;rw[<-this];congr 1
def D6(es:List DV):List AV:=(flat es).map .d
theorem GF:∀(l:List DV),aM (l.map .d)=some l
 | []=>rfl
 |v::r=>by simp[aM,GF r]
theorem MB(es:List DV):aM (D6 es)=some (flat es):=GF _
def IB(agg:Bool)(sz:Nat)(x:DV):Prop:=x.cells.length=sz/\x.cells.all DV.isCell=true/\(agg=true->∃cs,x= .agg cs)/\(agg=false->x.cells=[x])
theorem LE{agg:Bool}{sz:Nat}:∀(es:List DV),(∀x:DV,x∈es->IB agg sz x)->chunks agg sz es.length (flat es)=some es
 | [],_=>rfl
 |x::r,h=>by
  obtain⟨h1,e,i,d⟩:=h x (by simp);have c:=LE r fun y hy=>h y (by simp[hy])
  have b:flat (x::r)=x.cells++flat r:=rfl;have a:cut agg sz (flat (x::r))=some x:=by
   rw[b];cases agg with
   |true=>
    obtain⟨cs,rfl⟩:=i rfl;simp only[DV.cells]at h1⊢
    simp[cut,<-h1]
   |false=>
    have:=d rfl;rw[this];simp[cut]
  have hd:(flat (x::r)).drop sz=flat r:=by rw[b,<-h1];simp
  simp only[cB,chunks,a,aQ,h1,e,and_self,if_true,hd,c,bz]
variable {P:Program}
structure SymL where
 name:ByteArray
 arity:Int
 ac:Bool
def SymL.cells(s:SymL):List DV:=[.str s.name,.int .i64 s.arity,.bool s.ac]
def SymL.enc(s:SymL):DV:= .agg s.cells
def SymL.ok(s:SymL):Prop:=s.name.size<=maxLen/\-9223372036854775808<=s.arity/\s.arity<=9223372036854775807
inductive TT where
 |node (f v:Int) (g:Tag) (kids:List TT)
mutual
def TT.cells:TT->List DV
 | .node f v g ks=>[.int .i64 f,.int .i64 v,.sl g (TT.encs ks)]
def TT.encs:List TT->List DV
 | []=>[]
 |t::r=> .agg t.cells::TT.encs r
end
def TT.enc(t:TT):DV:= .agg t.cells
theorem TT.qer:∀l:List TT,TT.encs l=l.map TT.enc
 | []=>by unfold TT.encs;rfl
 |t::r=>by unfold TT.encs;simp[TT.enc,TT.qer r]
mutual
def TT.ok:TT->Prop
 | .node f v g ks=>(-9223372036854775808<=f/\f<=9223372036854775807)/\(-9223372036854775808<=v/\v<=9223372036854775807)/\ks.length<=maxLen/\TT.oks ks
def TT.oks:List TT->Prop
 | []=>True
 |t::r=>t.ok/\TT.oks r
end
end Go.Proofs.YtpcoohnjllclnaaGreat.VS
