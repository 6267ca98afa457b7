/- The engine, part 3: a call of the program answers what an evaluator of values without memory answers, for the functions whose code is the one that the evaluator is given. -/
import Derived.Test.YtpcoohnjllclnaaGreatEngB
import Derived.Orders
import Derived.ChangeAt
import Derived.Below
import Derived.WideShapes
import Derived.ChangeArms
import Derived.DataReads
import Derived.WalkKit
import Derived.ProofKit
import Derived.OpenShut
import Derived.ChangeOld
import Derived.SizedLaws
set_option linter.unusedSimpArgs false
set_option linter.unusedVariables false
namespace Go.Proofs.YtpcoohnjllclnaaGreat.VS
variable{vs:aC}{i N L0 c:Nat}{cl:List ae}{ops:qG}{tm:cA}{s s' sf:St}{w w0:World}{g g0:Gh}{a0:Act}{A0:Ids}{Q:Exit->Act->World->Prop}{p:Id}{call:ct}
section
variable {P:Program} {fid:Nat->FuncId}
theorem H2:∀(os:aC) (acc:List ae),
 (∀k,k<acc.length->(j5 os acc).getD k []=acc.getD k [])/\
 (∀m o x,os[m]?=some o->x∈(j5 os acc).getD (acc.length+m) []->∃j,j∈o.after/\(x=j\/(j<acc.length+m/\x∈(j5 os acc).getD j [])))
 | [],acc=>⟨fun k F=>rfl,fun m o x h=>by simp at h⟩
 |o::os,acc=>by
  obtain⟨G,I⟩:=H2 os (acc++[dd (o.after.flatMap fun j=>j::acc.getD j [])]);simp only[j5];have q:∀k,k<acc.length->(j5 os (acc++[dd (o.after.flatMap fun j=>j::acc.getD j [])])).getD k []=acc.getD k []:=by intro k F;rw[G k (by simp;omega)];simp[List.getD,cf F]
  refine⟨q,fun m M x z y=> ?_⟩;cases m with
  |zero=>
   simp at z;subst z
   rw[qk,G acc.length (by simp)]at y;simp only[List.getD,cF (bf _),nw,eG,fy,vU,vS]at y;obtain⟨j,C,y⟩:=y;refine⟨j,C,?_⟩;rcases bK.1 y with h|h
   ·exact .inl h
   ·right
    have D:j<acc.length:=by
     rcases eN j acc.length with h'|h'
     ·exact h'
     ·rw[gU h']at h;simp at h
    exact⟨by omega,by rw[q j D];exact h⟩
  |succ m=>
   simp at z;obtain⟨j,C,J⟩:=I m M x z (by
    have e:(acc++[dd (o.after.flatMap fun j=>j::acc.getD j [])]).length+m=acc.length+(m+1):=by simp;omega
    rw[e];exact y)
   refine⟨j,C,?_⟩;rcases J with h|⟨h,h'⟩
   ·exact .inl h
   ·exact .inr ⟨by simp at h;omega,h'⟩
theorem K8{L:Nat->Prop}(M:∀(i:Nat) (o:VOper),vs[i]?=some o->L i->∀j,j∈o.after->L j)(G:∀(i:Nat) (o:VOper),vs[i]?=some o->∀j,j∈o.after->j<i):
 ∀(i:Nat) (o:VOper),vs[i]?=some o->(∀j,j∈o.after->L j)->∀x,x∈(j5 vs []).getD i []->L x:=by
 intro i
 induction i using Nat.strongRecOn with
 |_ i J=>
  intro o q z x F;obtain⟨j,y,h⟩:=(H2 vs []).2 i o x q (by simpa using F);rcases h with rfl|⟨I,C⟩
  ·exact z _ y
  ·have m:j<i:=by simpa using I
   have D:j<vs.length:=by have:=(aU.1 q).1;omega
   exact J j m vs[j] (by simp) (M j vs[j] (by simp) (z j y)) x C
theorem Mt{a:VOper}:∀{l:aC} {j:Nat},BD cl i a j l=true->∀(m:Nat) (b:VOper),l[m]?=some b->rK cl i (j+m) a b=true
 | [],j,_,m,b,h=>by simp at h
 |c::r,j,h,m,b,q=>by
  simp only[BD,aQ]at h;cases m with
  |zero=>simp at q;subst q;exact h.1
  |succ m=>have:=Mt h.2 m b (by simpa using q);rw[show j+(m+1)=j+1+m by omega];exact this
theorem Df:∀{l:aC} {i:Nat},yw cl i l=true->∀(m n:Nat) (a b:VOper),m<n->l[m]?=some a->l[n]?=some b->rK cl (i+m) (i+n) a b=true
 | [],i,_,m,n,a,b,_,h,_=>by simp at h
 |c::r,i,h,m,n,a,b,y,q,j=>by
  simp only[yw,aQ]at h;cases n with
  |zero=>omega
  |succ n=>
   cases m with
   |zero=>
    simp at q j;subst q
    have:=Mt h.1 n b j;rw[show i+0=i by omega,show i+(n+1)=i+1+n by omega];exact this
   |succ m=>simp at q j;have:=Df h.2 m n a b (by omega) q j;rw[show i+(m+1)=i+1+m by omega,show i+(n+1)=i+1+n by omega];exact this
theorem Dg:∀{l:aC} {i:Nat},ahead i l=true->∀(m:Nat) (o:VOper),l[m]?=some o->∀j,j∈o.after->j<i+m
 | [],i,_,m,o,h=>by simp at h
 |c::r,i,h,m,o,y=>by
  simp only[ahead,aQ]at h;cases m with
  |zero=>
   simp at y;subst y
   intro j q;simpa using bB.1 h.1 j q
  |succ m=>intro j q;have:=Dg h.2 m o (by simpa using y) j q;omega
theorem wP:∀{os:List Oper} {vs:aC},ee P fid N ops true os vs=true->os.length=vs.length/\∀(i:Nat) (o:Oper) (v:VOper),os[i]?=some o->vs[i]?=some v->
 il P fid N ops o v=true/\(∀j,j∈v.after↔j∈iN o)
 | [],[],_=>⟨rfl,fun i o v h=>by simp at h⟩
 |o::os,v::vs,h=>by
  simp only[ee,aQ,m9,pi]at h;obtain⟨⟨⟨C,z⟩,G⟩,D⟩:=h;obtain⟨F,I⟩:=wP D;refine⟨by simp[F],fun i J v' m q=> ?_⟩;cases i with
  |zero=>
   simp at m q;subst m;subst q
   refine⟨C,fun j=>⟨fun y=> ?_,fun y=> ?_⟩⟩
   ·simpa using bB.1 G j y
   ·simpa using bB.1 z j y
  |succ i=>simp at m q;exact I i J v' m q
 | [],_::_,h=>by simp[ee]at h
 |_::_,[],h=>by simp[ee]at h
def rest(vs:aC)(listed:m8):tT:=((List.range' 0 vs.length).zip vs).filter fun q=> !listed.getD q.1 true
theorem ql{q:Nat×VOper}(h:q∈(List.range' 0 vs.length).zip vs):vs[q.1]?=some q.2:=by obtain⟨i,hi⟩:=dH.1 h;rw[List.getElem?_zip_eq_some]at hi;obtain⟨y,m⟩:=hi;have z:=aU.1 y;obtain⟨C,j⟩:=z;simp at j;rw[<-j];exact m
theorem WP{o:VOper}(h:vs[i]?=some o):
 ∃z y,(List.range' 0 vs.length).zip vs=z++(i,o)::y/\(∀q,q∈z->q.1<i)/\(∀q,q∈y->i<q.1):=by
 have hi:i<vs.length:=(aU.1 h).1;refine⟨(List.range' 0 i).zip (vs.take i),(List.range' (i+1) (vs.length-(i+1))).zip (vs.drop (i+1)),?_,fun q j=> ?_,fun q j=> ?_⟩
 ·have F:List.range' 0 vs.length=List.range' 0 i++i::List.range' (i+1) (vs.length-(i+1)):=by
   have D:List.range' 0 vs.length=List.range' 0 i++List.range' i (vs.length-i):=by
    have m:= @List.range'_append_1 0 i (vs.length-i);rw[fR]at m;rw[m]
    congr 1;omega
   rw[D,show vs.length-i=(vs.length-(i+1))+1 by omega,DC]
  have C:vs=vs.take i++o::vs.drop (i+1):=by
   conv=>lhs;rw[<-List.take_append_drop i vs,dl hi]
   congr 2
   have:=(aU.1 h).2;exact this
  rw[F]
  conv=>lhs;rw[C]
  rw[List.zip_append (by simp;omega),List.zip_cons_cons];simp
  congr 2
  omega
 ·have:=(List.of_mem_zip j).1
  simp at this;omega
 ·have:=(List.of_mem_zip j).1
  simp at this;omega
theorem uR{listed:m8}{o:VOper}(h:vs[i]?=some o)(z:listed.getD i true=false):
 ∃pre post,rest vs listed=pre++(i,o)::post/\rest vs (listed.setIfInBounds i true)=pre++post/\(∀q,q∈pre->q.1<i/\vs[q.1]?=some q.2/\listed.getD q.1 true=false):=by
 obtain⟨I,J,y,D,F⟩:=WP h;have m:i<listed.size:=by
  rcases eN i listed.size with h'|h'
  ·exact h'
  ·simp[bZ,D4 h']at z
 have same:∀k,k≠i->(listed.setIfInBounds i true).getD k true=listed.getD k true:=fun k G=>by simp[bZ,kg (Ne.symm G)]
 have self:(listed.setIfInBounds i true).getD i true=true:=by simp[bZ,m]
 refine⟨I.filter fun q=> !listed.getD q.1 true,J.filter fun q=> !listed.getD q.1 true,?_,?_,fun q j=> ?_⟩
 ·unfold rest
  rw[y,List.filter_append,List.filter_cons];simp only[z,qE,if_true]
 ·unfold rest
  rw[y,List.filter_append,List.filter_cons];simp only[self,m9,bL,if_false]
  congr 1
  ·exact List.filter_congr fun q j=>by rw[same q.1 (by have:=D q j;omega)]
  ·exact List.filter_congr fun q j=>by rw[same q.1 (by have:=F q j;omega)]
 ·obtain⟨C,M⟩:=ij.1 j
  exact⟨D q C,ql (by rw[y];exact lw _ C),by simpa using M⟩
theorem Kk(h:s.eqv s')(m:qdc fid g w s.r tm):qdc fid g w s'.r tm:=fun t v j=>m t v (by rw[h.1 t];exact j)
theorem O6(hcall:ie P fid call)(hok:ee P fid N ops true ops.toList vs=true)(W:ja vs=true)

 (hQ:∀g' a' w',Core fid g' w' sf.B sf.A->Boxes g0 w0 g'->Step (fun x=>∃q j,c<=j/\j<c+vs.length/\x=q++j::p) g0 w0 A0 g' w' sf.A->qdc fid g' w' sf.r a'.tmps->a'.tmps.size=N->a'.defers=a0.defers->Q .normal a' w'):
 ∀(fuel:Nat) (listed:m8) (g:Gh) (w:World) (a:Act) (s t:St),(rest vs listed).length=fuel->listed.size=vs.length->s.c=c->Core fid g w s.B s.A->qdc fid g w s.r a.tmps->a.tmps.size=N->a.defers=a0.defers->
  Boxes g0 w0 g->Step (fun x=>∃q j,c<=j/\j<c+vs.length/\x=q++j::p) g0 w0 A0 g w s.A->
  (∀i,listed.getD i true=false->∀q,g.row (q++(c+i)::p)=none)->(∀(i:Nat) (o:VOper),vs[i]?=some o->listed.getD i true=true->∀j,j∈o.after->listed.getD j true=true)->
  gr call p L0 (rest vs listed) s=some t->t.eqv sf->wpAny P .any ops Q fuel listed a w:=by
 obtain⟨X,hat⟩:=wP hok;simp only[ja,aQ]at W;obtain⟨Z,a1⟩:=W;have G:∀(i:Nat) (o:VOper),vs[i]?=some o->∀j,j∈o.after->j<i:=fun i o h j J=>by simpa using Dg Z i o h j J
 intro fuel
 induction fuel with
 |zero=>
  intro listed g w a s t z hsz hc hcore hr hN R F D hfr hcl y C;have a3:rest vs listed=[]:=nQ z;rw[a3]at y;simp[gr]at y;subst y
  refine⟨?_,hQ g a w (by rw[<-C.2.1,<-C.2.2.1];exact hcore) F (by rw[<-C.2.2.1];exact D) (Kk C hr) hN R⟩;rw[Region.ready,List.filter_eq_nil_iff];intro i hi O;simp only[f_]at hi;simp only[aQ,fT]at O;have hi':i<vs.length:=by simpa[<-X]using hi
  obtain⟨pre,post,h1,_⟩:=uR (vs:=vs) (i:=i) (o:=vs[i]) (by simp) O.1;rw[a3]at h1;simp at h1
 |succ fuel ih=>
  intro listed g w a s t z hsz hc hcore hr hN R F D hfr hcl y C;refine⟨fun x2=> ?_,fun i hi=> ?_⟩
  ·
   exfalso;have hne:rest vs listed≠[]:=by intro h;rw[h]at z;simp at z
   obtain⟨q,hq⟩:=nc _ hne;have hex:∃i,i<vs.length/\listed.getD i true=false:=by obtain⟨h1,h2⟩:=ij.1 hq;have h3:=ql h1;exact⟨q.1,(aU.1 h3).1,by simpa using h2⟩
   have least:∀n,(∃i,i<n/\i<vs.length/\listed.getD i true=false)->∃i,i<vs.length/\listed.getD i true=false/\∀j,j<i->listed.getD j true=true:=by
    intro n
    induction n with
    |zero=>rintro⟨i,h,_⟩;omega
    |succ n ihn=>
     rintro⟨i,h1,h2,h3⟩
     by_cases hl:∃i,i<n/\i<vs.length/\listed.getD i true=false
     ·exact ihn hl
     ·refine⟨i,h2,h3,fun j J=> ?_⟩
      cases hjl:listed.getD j true with
      |true=>rfl
      |false=>exact absurd ⟨j,by omega,by omega,hjl⟩ hl
   obtain⟨i0,h1,h2⟩:=hex;obtain⟨i,h3,h4,h5⟩:=least (i0+1) ⟨i0,by omega,h1,h2⟩;have hio:i<ops.size:=by have:=X;simp at this;omega
   have a2:i∈Region.ready .any ops listed:=by
    rw[Region.ready,ij];refine⟨by simpa using hio,?_⟩;have ho:ops[i]?=some ops[i]:=by simp[hio]
    simp only[h4,ho,qE,fh,bH,fy];rw[rt];intro k Y;simp only[cI,fT]
    by_cases hb:Region.binds .any ops[i].after[k]=true
    ·right
     have J:(ops[i].after[k]).on∈vs[i].after:=by rw[(hat i ops[i] vs[i] (by simp[hio]) (by simp)).2];unfold iN;refine cw.2 ⟨ops[i].after[k],ij.2 ⟨by simp,hb⟩,rfl⟩
     have hlt:=G i vs[i] (by simp) _ J;have h6:=h5 _ hlt;have h7:(ops[i].after[k]).on<listed.size:=by omega
     simp[bZ,h7]at h6⊢
     exact h6
    ·left;simpa using hb
   rw[x2]at a2;simp at a2
  ·
   rw[Region.ready,ij]at hi;obtain⟨x3,hi2⟩:=hi;simp only[f_]at x3;simp only[aQ,fT]at hi2;obtain⟨hnl,M⟩:=hi2;have hiv:i<vs.length:=by simpa[<-X]using x3
   have ho:ops[i]?=some ops[i]:=by simp[x3]
   have hv:vs[i]?=some vs[i]:=by simp[hiv]
   obtain⟨hokop,haft⟩:=hat i ops[i] vs[i] (by simp[x3]) hv;have b2:∀j,j∈vs[i].after->listed.getD j true=true:=by
    intro j J;rw[haft]at J;unfold iN at J;obtain⟨e,he,rfl⟩:=cw.1 J;obtain⟨he1,he2⟩:=ij.1 he;rw[ho]at M;simp only[bH,fy]at M;obtain⟨k,Y,hke⟩:=Fc.1 (xA.1 he1);have:=(rt.1 M) k Y;rw[hke]at this;simp only[he2,m9,pi]at this;have hlt:e.on<listed.size:=by
     rcases eN e.on listed.size with h|h
     ·exact h
     ·simp[bZ,D4 h]at this
    simp[bZ,hlt]at this⊢
    exact this
   obtain⟨pre,post,hr1,hr2,hpre2⟩:=uR hv hnl;rw[hr1]at y;have V:∀q,q∈pre->wz q.2 vs[i]:=by
    intro q hq;obtain⟨q1,q2,q3⟩:=hpre2 q hq;have hp:=Df a1 q.1 i q.2 vs[i] q1 q2 hv;simp only[fR,rK,cI,aQ]at hp;rcases hp with hp|⟨⟨hp1,hp2⟩,hp3⟩
    ·exfalso
     have hx:q.1∈(j5 vs []).getD i []:=by simpa using hp
     have:=K8 (L:=fun k=>listed.getD k true=true) (fun i o h1 h2 j J=>hcl i o h1 h2 j J) G i vs[i] hv b2 q.1 hx;rw[q3]at this;simp at this
    ·exact⟨hp1,hp2,hp3⟩
   obtain⟨s1,t',c2,hseq',I⟩:=GI V y;have hcs:=yD c2;unfold wpOp;rw[ho];simp only;have key:=BK (g:=g) (w:=w) (ops:=ops) hcall hcore hr hN (fun q=>by rw[hc];exact hfr i hnl q) hokop c2 (wpAny P .any ops Q fuel (listed.setIfInBounds i true)) Q (fun g1 w1 u c1 b1 st1 r1=>by
    refine ih (listed.setIfInBounds i true) g1 w1 (a.put ops[i].dst u) s1 t' ?_ (by simpa using hsz) (by rw[hcs,hc]) c1 r1 (by rw[gK];exact hN) (by rw[put_defers];exact R) (F.trans D.size b1) (D.trans F (st1.weaken (fun x ⟨q,hx⟩=>⟨q,s.c+i,by omega,by omega,hx⟩))) (fun k Y q=> ?_) (fun k o Y hkl j J=> ?_) (by rw[hr2];exact hseq') ?_
    ·rw[hr2]
     have h8:=mM List.length hr1;simp only[ek,de]at h8⊢
     omega
    ·have x1:k≠i:=by
      intro h;subst h
      have:k<listed.size:=by omega
      simp[bZ,this]at Y
     have hk':listed.getD k true=false:=by rw[<-Y];simp[bZ,kg (Ne.symm x1)]
     exact Eh st1 (by omega) (fun q=>hfr k hk' q) q
    ·have hset:∀m,listed.getD m true=true->(listed.setIfInBounds i true).getD m true=true:=by
      intro m hm
      by_cases hmi:m=i
      ·subst hmi
       have:m<listed.size:=by omega
       simp[bZ,this]
      ·have e:(listed.setIfInBounds i true).getD m true=listed.getD m true:=by
        simp[bZ,kg (Ne.symm hmi)]
       rw[e];exact hm
     by_cases x1:k=i
     ·subst x1
      rw[hv]at Y;simp at Y;subst Y
      exact hset j (b2 j J)
     ·have:listed.getD k true=true:=by
       have e:(listed.setIfInBounds i true).getD k true=listed.getD k true:=by simp[bZ,kg (Ne.symm x1)]
       rw[<-e];exact hkl
      exact hset j (hcl k o Y this j J)
    ·refine⟨fun x=> ?_,?_,?_,?_⟩
     ·rw[<-I.1 x];exact C.1 x
     ·rw[<-I.2.1];exact C.2.1
     ·rw[<-I.2.2.1];exact C.2.2.1
     ·rw[<-I.2.2.2];exact C.2.2.2)
   split
   ·rename_i hw
    rw[aw hw]at key;exact .inl key
   ·rename_i hw
    rw[au hw]at key;exact key
end
variable{sz b n idx:Nat}{u:Value}{rs xs:al}{A:Ids}{x v:DV}{g2:Gh}{B:ar}{e:TypeId}{arr:cA}
section
variable {P:Program} {fid:Nat->FuncId}
theorem vA:∀(xs:al),(∀x,x∈xs->x.cells.length=sz)->∀(k:Nat) (v:DV),(xs.flatMap DV.cells)[k]?=some v->∃(i:Nat) (x:DV) (j:Nat),xs[i]?=some x/\x.cells[j]?=some v/\k=i*sz+j/\j<sz
 | [],_,k,v,h=>by simp at h
 |x::r,m,k,v,h=>by
  simp only[eI]at h;have z:=m x (by simp)
  by_cases F:k<sz
  ·rw[cf (by omega)]at h
   exact⟨0,x,k,rfl,h,by simp,F⟩
  ·rw[cF (by omega),z]at h
   obtain⟨i,y,j,C,q,I,G⟩:=vA r (fun y D=>m y (by simp[D])) _ _ h;exact⟨i+1,y,j,by simpa using C,q,by rw[dF];omega,G⟩
theorem xQ:∀(xs:al),(∀x,x∈xs->x.cells.length=sz)->(xs.flatMap DV.cells).length=xs.length*sz
 | [],_=>by simp
 |x::r,h=>by simp only[eI,ek,de,h x (by simp),xQ r (fun y j=>h y (by simp[j]))];rw[dF];omega
theorem qQV{c r:DV}(h:VR g w c u)(j:VR g w r u)(hc:c.isCell=true)(m:r.isCell=true):c.like r=true:=by cases c<;>cases r<;>first|rfl|(simp[DV.isCell]at hc;done)|(simp[DV.isCell]at m;done)|((cases h<;>cases j);done)|(cases h;cases j;simp[DV.like])
theorem qA{a:Id}:∀{cs:al},DV.rests A a rs cs=true->∀v:DV,v∈cs->v.rest A a rs=true
 | [],_,v,j=>by simp at j
 |c::r,h,v,j=>by
  simp only[DV.rests,aQ]at h;rcases bK.1 j with rfl|j
  ·exact h.1
  ·exact qA h.2 v j
theorem XA{a:Id}(h:x.rest A a rs=true)(v:DV)(j:v∈x.cells):v.rest A a rs=true:=by
 cases x with
 |agg cs=>simp only[DV.rest]at h;exact qA h v j
 |_=>simp only[DV.cells,bO]at j;subst j;exact h
theorem Ju{a:Id}(M:g2.row=g.row)(hK:∀x,x≠b->g2.K x=g.K x)
 (hb:∃arr e,w.heap[b]?=some (.cells arr e (0,0))/\∀(k:Nat) (u:Value),k<g.K b->arr[k]?=some u->∃r:DV,r∈rs/\r.isCell=true/\VR g w r u)
 (Z:∀a' x,A a'=true->a'≠a->g.row a'=some x->x.1≠b)(h:VR g w v u):v.rest A a rs=true->VR g2 w v u:=by
 induction h with
 |int k n=>intro _;exact .int k n
 |bool k=>intro _;exact .bool k
 |str s=>intro _;exact .str s
 |agg cs us hs hc _ O=>intro D;simp only[DV.rest]at D;exact .agg cs us hs hc fun j v u C Y=>O j v u C Y (qA D v (cg C))
 |tup cs us hs _ O=>intro D;simp only[DV.rest]at D;exact .tup cs us hs fun j v u C Y=>O j v u C Y (qA D v (cg C))
 |nil=>intro _;exact .nil
 |row t xs ad c s U ht hl hm y V hc hv F O=>
  intro D;simp only[DV.rest,aQ,cI]at D;obtain⟨q,h2⟩:=D;refine .row t xs ad c s U ht hl hm y ?_ hc (fun i x j v hi C=>O i x j v hi C (XA (qA h2 x (cg hi)) v (cg C))) (fun a sz ha=>by rw[M];exact F a sz ha)
  by_cases z:ad.block=b
  ·rcases q with(q|q)|q
   ·left
    have:xs=[]:=by simpa using q
    simp[this]
   ·obtain⟨X,hc0,h3⟩:=vm.1 q
    obtain⟨k,hk⟩:=dH.1 hc0;have I:∀x,x∈xs->x.cells.length=s:=fun x hx=>by obtain⟨i,hi⟩:=dH.1 hx;exact(hc i x hi).1
    obtain⟨i,x,j,q1,q2,q3,q4⟩:=vA xs I k X hk;have J:k<xs.length*s:=by rw[<-xQ xs I];exact(aU.1 hk).1
    have h5:ad.off+xs.length*s<=g.K ad.block:=by
     rcases V with h|h
     ·omega
     ·exact h
    obtain⟨arr,e,b1,b2⟩:=hb;have m:=y k J;have R:arr[ad.off+k]?=some (U k):=by
     unfold World.cell? at m;rw[add_block,z,b1]at m;simp only[nL]at m;split at m
     ·simp at m
     ·exact m
    obtain⟨r,r1,r2,r3⟩:=b2 (ad.off+k) (U k) (by rw[<-z];omega) R;have W:=hv i x j X q1 q2;rw[<-q3]at W;have h4:X.isCell=true:=(hc i x q1).2 X (cg q2);have:=qQV W r3 h4 r2;have G:=bB.1 h3 r r1;rw[this]at G;simp at G
   ·cases t with
    |own b' sz=>simp only[aQ,fT,jN]at q;obtain⟨o1,o2,o3,o4,o5⟩:=F b' sz rfl;exact absurd z (Z b' _ q.1 q.2 o4)
    |nil=>simp at q
    |sub=>simp at q
  ·rw[hK _ z];exact V
theorem qLk{a:Id}(D:g2.row=g.row)(I:∀x,x≠b->g2.K x=g.K x)(q:∀i m,g.bx i=some m->g2.bx i=some m)
 (G:∃arr e,w.heap[b]?=some (.cells arr e (0,0))/\∀(k:Nat) (u:Value),k<g.K b->arr[k]?=some u->∃r:DV,r∈rs/\r.isCell=true/\VR g w r u)
 (F:∀a' x,A a'=true->a'≠a->g.row a'=some x->x.1≠b) {v:AV}(h:AVR fid g w v u) (C:v.rest A a rs=true):AVR fid g2 w v u:=by
 cases h with
 |d v u h=>exact .d _ _ (Ju D I G F h C)
 |ptr i off m h=>exact .ptr i off m (q _ _ h)
 |ep cs ad U y z J=>simp[AV.rest]at C
 |nilp=>exact .nilp
 |fn f cap us y z=>
  cases cap with
  |nil=>exact .fn f [] us y (fun j v u h=>by simp at h)
  |cons c r=>simp[AV.rest]at C
 |bsl id ag i sz n m h=>exact .bsl id ag i sz n m (q _ _ h)
 |tsl ag i sz n c m h y z=>exact .tsl ag i sz n c m (q _ _ h) y z
 |ag cs us y z=>simp[AV.rest]at C
 |tp cs us y z=>simp[AV.rest]at C
 |und=>exact .und
theorem E8(hc:Core fid g w B A){a:Id}(ha:A a=true)(hv:VR g w (.sl (.own a sz) (x::xs)) u):
 ∃b c arr e,u= .slice (some ⟨b,0,none⟩) (xs.length+1) c/\g.row a=some (b,xs.length+1,c,sz)/\w.heap[b]?=some (.cells arr e (0,0))/\c*sz<=arr.size/\g.K b=(xs.length+1)*sz/\xs.length+1<=c/\c<=maxLen/\
  (∀i,g.bx i≠some b)/\((x::xs).flatMap DV.cells).length=(xs.length+1)*sz/\(∀d:DV,d∈(x::xs).flatMap DV.cells->d.isCell=true)/\
  (∀(k:Nat) (d:DV) (O:Value),((x::xs).flatMap DV.cells)[k]?=some d->arr[k]?=some O->VR g w d O):=by
 cases hv with
 |row _ _ ad c s U ht J hm m hK C F q=>
  obtain⟨o1,o2,o3,M,o5⟩:=q a sz rfl;subst o3;obtain⟨b',n',c',z,arr,e,Z,q2,q3,q4,q5,q6⟩:=hc.opn a ha;rw[Z]at M;simp only[aL,dJ]at M;obtain⟨rfl,rfl,rfl,rfl⟩:=M;have D:ad=⟨ad.block,0,none⟩:=by cases ad;simp at o1 o2;simp[o1,o2]
  have h:∀y,y∈x::xs->y.cells.length=z:=fun y hy=>by obtain⟨i,hi⟩:=dH.1 hy;exact(C i y hi).1
  have G:=xQ _ h;refine⟨ad.block,c',arr,e,by rw[<-D];rfl,Z,q2,q3,by rw[q4];simp,J,hm,q6,by rw[G];simp,fun d hd=> ?_,fun k d O I hu=> ?_⟩
  ·obtain⟨k,I⟩:=dH.1 hd
   obtain⟨i,y,j,R,W,Y,h4⟩:=vA _ h k d I;exact(C i y R).2 d (cg W)
  ·obtain⟨i,y,j,R,W,Y,h4⟩:=vA _ h k d I
   have X:k<(x::xs).length*z:=by rw[<-G];exact(aU.1 I).1
   have V:=m k X;have h6:w.cell? (ad.add k)=arr[k]?:=by rw[D,lY];simp[World.cell?,q2]
   rw[h6,hu]at V;simp only[aL]at V;have h7:=F i y j d R W;rw[<-Y,<-V]at h7;exact h7
def Gh.foc(b idx:Nat)(g:Gh):Gh:={K:=fun x=>if x=b then 0 else g.K x,row:=g.row,bx:=fun i=>if i=idx then some b else g.bx i}
theorem Q8{V:ar}(hc:Core fid g w B A){a:Id}(ha:A a=true)(I:g.row a=some (b,n,c,sz))(hb:w.heap[b]?=some (.cells arr e (0,0)))(J:c*sz<=arr.size)(hn:n<=c)
 (D:∀i,g.bx i≠some b) (M:g.bx idx=none) (hl:rs.length=n*sz) (F:∀d:DV,d∈rs->d.isCell=true) (R:∀(k:Nat) (d:DV) (u':Value),rs[k]?=some d->arr[k]?=some u'->VR (g.foc b idx) w d u') (q:V[idx]?=some (some (rs.map .d)))
 (G:∀i m,g.bx i=some m->∃cs arr e,V[i]?=some (some cs)/\w.heap[m]?=some (.cells arr e (0,0))/\cs.length<=arr.size/\(∀(j:Nat) (v:AV) (u:Value),cs[j]?=some v->arr[j]?=some u->AVR fid (g.foc b idx) w v u)/\(∀v,v∈cs->v.isCell=true/\v.safe i=true)):
 Core fid (g.foc b idx) w V (Ids.del a A):=by
 refine⟨fun i m h=> ?_,fun i j m y q=> ?_,fun a' C=> ?_,fun a1 a2 m x x' y q=> ?_,fun m Z=> ?_⟩
 ·simp only[Gh.foc]at h
  split at h
  ·rename_i hi
   subst hi;simp only[aL]at h;subst h
   refine⟨rs.map .d,arr,e,q,hb,?_,fun j v u hj hu=> ?_,fun v hv=> ?_,by simp[Gh.foc]⟩
   ·rw[eo,hl];exact cT (fP _ hn) J
   ·simp only[c7]at hj
    obtain⟨d,Y,rfl⟩:=ay.1 hj;exact .d _ _ (R j d u Y hu)
   ·obtain⟨d,Y,rfl⟩:=cw.1 hv
    exact⟨F d Y,bd _ _⟩
  ·obtain⟨cs,arr',W,q1,q2,q3,q4,q5⟩:=G i m h
   obtain⟨_,_,_,_,_,_,_,_,q6⟩:=hc.box i m h;have z:m≠b:=fun X=>D i (by rw[<-X];exact h)
   exact⟨cs,arr',W,q1,q2,q3,q4,q5,by simp only[Gh.foc,au z];exact q6⟩
 ·simp only[Gh.foc]at y q
  split at y<;>split at q
  ·omega
  ·simp only[aL]at y;subst y;exact absurd q (D j)
  ·simp only[aL]at q;subst q;exact absurd y (D i)
  ·exact hc.inj i j m y q
 ·simp only[Ids.del,aQ,fT,jN]at C
  obtain⟨m,n',c',O,arr',W,o1,o2,o3,o4,o5,o6⟩:=hc.opn a' C.2;have z:m≠b:=fun X=>C.1 (hc.apart a' a b _ _ C.2 ha (by rw[o1,X]) I)
  refine⟨m,n',c',O,arr',W,o1,o2,o3,by simp only[Gh.foc,au z];exact o4,o5,fun i hi=> ?_⟩;simp only[Gh.foc]at hi;split at hi
  ·simp only[aL]at hi;exact z hi.symm
  ·exact o6 i hi
 ·simp only[Ids.del,aQ]at y q
  exact hc.apart a1 a2 m x x' y.2 q.2
 ·simp only[Gh.foc]
  split
  ·rfl
  ·exact hc.K0 m Z
end
variable{bytes:Nat}{s1:St}{o o8 o9 o10:Oper}{u8 u9:Value}{a:Act}{r:aE}{vo:VOper}
section
variable {P:Program} {fid:Nat->FuncId}
theorem Zj{new:Id}{g F:Tag}{z u:DV}{G:AV}(y:g= .nil->xs=[])(I:z.cells.length=sz/\z.cells.all DV.isCell=true)(h:fC s new sz bytes (.sl g xs) (.sl F [u])=some (G,s1)):
 G= .d (.sl (.own new sz) (xs++[u]))/\fC s new sz bytes (.sl g xs) (.sl F [z])=some (.d (.sl (.own new sz) (xs++[z])),s1)/\s1.r=s.r/\s1.B=s.B/\s1.c=s.c/\s1.A new=true/\
  (∀a,s.A a=true->s1.A a=true\/((∃q,g= .own a q)/\xs≠[])):=by
 have D:([z]:al).all (fun e=>decide (e.cells.length=sz/\e.cells.all DV.isCell=true))=true:=by simp only[gF,List.all_nil,nG,bu];exact I
 unfold fC at h⊢
 simp only at h⊢
 split at h
 ·simp only[gW,bL,if_false]at h
  rw[aw D];simp only[gW,bL,if_false];split at h
  ·rename_i j
   have C:(xs.length+[z].length)*bytes<=140737488355328:=j;rw[aw C];cases g with
   |nil=>have:=y rfl;subst this;simp only[aL,dJ]at h;obtain⟨rfl,rfl⟩:=h;exact⟨rfl,rfl,rfl,rfl,rfl,by simp[Ids.add],fun b j=> .inl (by simp[Ids.add,j])⟩
   |sub=>simp at h
   |own a q=>
    simp only at h⊢
    cases xs with
    |nil=>simp only[List.isEmpty_nil,if_true,aL,dJ]at h;obtain⟨rfl,rfl⟩:=h;exact⟨rfl,rfl,rfl,rfl,rfl,by simp[Ids.add],fun b j=> .inl (by simp[Ids.add,j])⟩
    |cons x r=>
     simp only[gW,bL,if_false]at h⊢
     split at h
     ·rename_i hc
      rw[aw hc];simp only[aL,dJ]at h;obtain⟨rfl,rfl⟩:=h;refine⟨rfl,rfl,rfl,rfl,rfl,by simp[Ids.add],fun b j=> ?_⟩
      by_cases m:b=a
      ·subst m;exact .inr ⟨⟨_,rfl⟩,by simp⟩
      ·exact .inl (by simp[Ids.add,Ids.del,j,m])
     ·simp at h
  ·simp at h
 ·simp at h
theorem pd(a:Act)(d t:Nat)(u:Value)(h:t≠d):(a.put (some d) u).tmps.getD t undef=a.tmps.getD t undef:=by rw[lW,au (fun j=>h (by simpa using j.1.symm))]
theorem uw(a:Act)(d:Nat)(u:Value)(h:d<a.tmps.size):(a.put (some d) u).tmps.getD d undef=u:=by rw[lW,aw ⟨rfl,h⟩]
theorem KQ(h:o.guard.isNone=true)(l:Nat->mx):Region.wanted o l=true:=by
 unfold Region.wanted;cases hg:o.guard with
 |none=>rfl
 |some q=>rw[hg]at h;simp at h
theorem qph{op:Op}{x y:VX}(h:aM P fid op (.append sz bytes x y)=true):∃m j,bM fid m x=true/\bM fid j y=true:=by
 cases op with
 |call q=>
  obtain⟨callee,args,argTypes⟩:=q;cases callee with
  |builtin b=>
   cases b with
   |append=>
    simp only[aM]at h;split at h
    ·rename_i m j t z C D
     simp only[aQ,bu]at h;exact⟨m,j,h.1.1.1,h.1.1.2⟩
    ·simp at h
   |_=>simp[aM]at h
  |_=>simp[aM]at h
 |_=>simp[aM]at h
theorem UC{m t9:Nat}{o:Operand}{x:VX}{v:AV}(I:qdc fid g w r a.tmps)(F:x.tmps.contains m=false)(z:x.tmps.contains t9=false)(C:bM fid o x=true)(D:x.get r=some v):
 AVR fid g w v (((a.put (some m) u8).put (some t9) u9).eval o):=by
 cases x with
 |c J=>
  have q:qdc fid g w [] ((a.put (some m) u8).put (some t9) u9).tmps:=by intro t v h;simp[lk]at h
  exact bG q C D
 |t t=>
  simp only[VX.tmps,List.contains_cons,List.contains_nil,pO,A6]at F z;have y:qdc fid g w [(t,v)] ((a.put (some m) u8).put (some t9) u9).tmps:=by
   intro G v' h;simp only[lk]at h;split at h
   ·rename_i j
    simp only[aL]at h;subst h;subst j
    rw[pd _ _ _ _ (fun j=>z j.symm),pd _ _ _ _ (fun j=>F j.symm)];exact I G v D
   ·simp at h
  exact bG y C (by simp[VX.get,lk])
theorem N2:∀{xs:al},(∀q:DV,q∈xs->q.cells.length=sz)->∀{i:Nat} {x:DV} {j:Nat} {v:DV},xs[i]?=some x->x.cells[j]?=some v->(xs.flatMap DV.cells)[i*sz+j]?=some v
 | [],_,i,x,j,v,h,_=>by simp at h
 |y::F,z,i,x,j,v,h,m=>by
  simp only[eI];cases i with
  |zero=>
   simp only[eG,aL]at h;subst h
   rw[cf (by have:=(aU.1 m).1;omega)];simpa using m
  |succ i=>simp only[mP]at h;have C:=z y (by simp);rw[cF (by rw[C,dF];omega),C,show(i+1)*sz+j-sz=i*sz+j by rw[dF];omega];exact N2 (fun q D=>z q (by simp[D])) h m
theorem YF(h:VR g w v u)(hc:∀c:DV,c∈v.cells->c.isCell=true):u.cells.size=v.cells.length/\∀(m:Nat) (c:DV) (x:Value),v.cells[m]?=some c->u.cells[m]?=some x->VR g w c x:=by
 have F:(AV.d v).cells.all AV.isCell=true:=by
  cases v with
  |agg cs=>simp only[AV.cells,List.all_map,bB];intro c q;exact hc c q
  |tup vs=>have:=hc (.tup vs) (by simp[DV.cells]);simp[DV.isCell]at this
  |_=>rfl
 obtain⟨z,y,_⟩:=si (fid:=fun _=>0) (.d _ _ h) F;refine⟨by rw[z];cases v<;>simp[AV.cells,DV.cells],fun m c x j D=> ?_⟩;have C:(AV.d v).cells[m]?=some (.d c):=by
  cases v with
  |agg cs=>simp only[AV.cells,DV.cells,c7]at j⊢;rw[j];rfl
  |_=>
   simp only[AV.cells,DV.cells]at j⊢
   cases m with
   |zero=>simp at j⊢;exact j
   |succ m=>simp at j
 exact dr (y m _ x C D)
theorem Po
 (hcore:Core fid g w s.B s.A) (hr:qdc fid g w s.r a.tmps) (hN:a.tmps.size=N) (hfr:∀q,g.row (q++(s.c+i)::p)=none) (hok:CF P fid N o8 o9 o10 vo=true) (hv:dW call p false L0 i vo s=some s'):
 ∃(M t9:Nat) (u8:Value) (b off:Nat) (arr arr':cA) (e:TypeId) (w1:World) (g2:Gh),o8.dst=some M/\o9.dst=some t9/\o10.dst=none/\o8.guard.isNone=true/\o9.guard.isNone=true/\o10.guard.isNone=true/\
  (∃n,(execOp a.eval o8).run P w= .ok n w1/\(n= .value u8\/(n= .skip/\u8=undef)))/\
  (∀ww:World,(execOp (a.put (some M) u8).eval o9).run P ww= .ok (.value (.pointer (some ⟨b,off,none⟩))) ww)/\w1.heap[b]?=some (.cells arr e (0,0))/\
  (∀ww:World,ww.heap[b]?=some (.cells arr e (0,0))->(execOp ((a.put (some M) u8).put (some t9) (.pointer (some ⟨b,off,none⟩))).eval o10).run P ww= .ok .skip (ww.setRow b arr'))/\
  (∀X C,g2.bx X=some C->C≠b)/\
  Core fid g2 (w1.setRow b arr') s'.B s'.A/\Boxes g w g2/\Step (under (s.c+i) p) g w s.A g2 (w1.setRow b arr') s'.A/\qdc fid g2 (w1.setRow b arr') s'.r ((a.put (some M) u8).put (some t9) (.pointer (some ⟨b,off,none⟩))).tmps:=by
 unfold CF at hok;split at hok
 rotate_left
 ·simp at hok
 rename_i vo0 M sz bytes x y ix v t9 af;simp only[aQ,fa,bu,fT]at hok;obtain⟨⟨⟨⟨⟨⟨⟨⟨⟨⟨⟨⟨⟨⟨k1,k2⟩,k3⟩,k4⟩,k5⟩,k6⟩,k7⟩,k8⟩,k9⟩,k10⟩,k11⟩,k12⟩,k13⟩,k14⟩,k15⟩:=hok;have hv':aY call p false L0 i ⟨some M,.append1 sz bytes x y ix v t9,none,af⟩ s=some s':=by unfold dW at hv;simpa[dh]using hv
 simp only[aY]at hv';split at hv'
 rotate_left
 ·simp at hv'
 rename_i gx xs gy z kk n wv e1 e2 e3 e4;split at hv'
 rotate_left
 ·simp at hv'
 rename_i hc;obtain⟨-,hn,hz1,hz2,hw1,hw2,ht9⟩:=hc;obtain⟨⟨rv,s1⟩,hap,hs'⟩:=ay.1 hv';simp only at hs';obtain⟨px,py,hpx,hpy⟩:=qph k9;have hxv:=dr (bG (w:=w) hr hpx e1);have hnil:gx= .nil->xs=[]:=by
  intro he;subst he
  generalize a.eval px=q0 at hxv;cases hxv with
  |nil=>rfl
  |row _ _ _ _ _ _ ht=>exact absurd rfl ht
 have hf0:g.row ((s.c+i)::p)=none:=by have:=hfr [];simpa using this
 obtain⟨rfl,hapz,hs1r,hs1B,hs1c,O,hold⟩:=Zj hnil ⟨hz1,hz2⟩ hap;subst hs';have hd8s:M<a.tmps.size:=by rw[hN];exact k4
 have hd8:∀d,o8.dst=some d->d<a.tmps.size:=fun d hd=>by rw[k1]at hd;have:=tM hd;rw[<-this];exact hd8s
 obtain⟨D,hheap,I⟩:=Jo (call:=call) (p:=p) (draw:=false) (L0:=L0) (i:=i) (s':=s1.put (some M) (.d (.sl (.own ((s.c+i)::p) sz) (xs++[z])))) (gd:=none) (af:=[]) hcore hr hd8 k9 (by rw[k1];simp only[aY,e1,e2,hapz,bH]) hf0;obtain⟨nx,u8,w1,g1,run8,res8,c1,b1,st1,r1⟩:=D;simp only at hheap I;obtain⟨bn,ln,cn,hun,I⟩:=I gx xs gy [z] e1 e2 (by simp);rw[gY]at c1;rw[dP]at c1 st1;have hnx:nx= .value u8\/(nx= .skip/\u8=undef):=res8;rw[k1]at r1;have hu8:AVR fid g1 w1 (.d (.sl (.own ((s.c+i)::p) sz) (xs++[z]))) u8:=by have h:=r1 M (.d (.sl (.own ((s.c+i)::p) sz) (xs++[z]))) (by simp[St.put,lk]);rw[uw a M u8 hd8s]at h;exact h
 obtain⟨y0,ys0,hy0⟩:∃y0 ys0,xs++[z]=y0::ys0:=by
  cases xs with
  |nil=>exact⟨_,_,rfl⟩
  |cons q r=>exact⟨_,_,rfl⟩
 have hlen:ys0.length+1=xs.length+1:=by have:=mM List.length hy0;simp at this;omega
 have hu8':=dr hu8;rw[hy0]at hu8';obtain⟨b,c,arr,e,hu,a3,hb,hsz,hKb,hnc,hm,hnb,hfl,hfc,hrel⟩:=E8 c1 O hu8';rw[hlen]at hu a3 hKb hnc hfl;rw[<-hy0]at hfl hfc hrel;have Y:∀q:DV,q∈xs++[z]->q.cells.length=sz:=by
  cases hu8' with
  |row _ _ ad cc ss U ht hl hm' hcell hK' hcs hvs hown=>obtain⟨_,_,rfl,_,_⟩:=hown _ _ rfl;intro q hq;rw[hy0]at hq;obtain⟨j,R⟩:=dH.1 hq;exact(hcs j q R).1
 have hxl:(xs.flatMap DV.cells).length=xs.length*sz:=xQ xs fun q hq=>Y q (by simp[hq])
 have hoff:xs.length*sz+sz<=arr.size:=by have h1:(xs.length+1)*sz<=c*sz:=fP _ hnc;rw[dF]at h1;omega
 have hu9:∀ww:World,(execOp (a.put (some M) u8).eval o9).run P ww= .ok (.value (.pointer (some ⟨b,xs.length*sz,none⟩))) ww:=by
  intro ww;obtain⟨dst9,op9,ty9,pos9,after9,guard9⟩:=o9;cases op9 with
  |indexAddr t yy jj=>
   simp only[aM,aQ]at k10;obtain⟨⟨q1,q2⟩,q3⟩:=k10;split at q3
   ·rename_i el he
    simp only[bu]at q3;have hue:=qS he;obtain⟨ti,hti,hsz'⟩:=uk q3;have hyy:(a.put (some M) u8).eval yy=u8:=by
     cases yy with
     |tmp t'=>
      simp only[bM,fa]at q1;subst q1
      exact uw a _ u8 hd8s
     |_=>simp[bM]at q1
    have hjj:(a.put (some M) u8).eval jj= .int kk n:=by
     cases ix with
     |c c0=>
      have hr0:qdc fid g w [] (a.put (some M) u8).tmps:=by intro t v h;simp[lk]at h
      exact eO (bG hr0 q2 e3)
     |t t'=>
      simp only[VX.tmps,List.contains_cons,List.contains_nil,pO,A6]at k12;have hr3:qdc fid g w [(t',.d (.int kk n))] (a.put (some M) u8).tmps:=by
       intro t2 v2 h2;simp only[lk]at h2;split at h2
       ·rename_i he2
        simp only[aL]at h2;subst h2;subst he2
        rw[pd _ _ _ _ (fun he3=>k12 he3.symm)];exact hr _ _ e3
       ·simp at h2
      exact eO (bG hr3 q2 (by simp[VX.get,lk]))
    have hn0:0<=n:=by omega
    have hnt:n.toNat=xs.length:=by omega
    have hyy:=hyy.trans hu;generalize (a.put (some M) u8).eval=ev at hyy hjj⊢
    simp[execOp,Instr.indexAt,hyy,hjj,asIntOf,underlying,hue,sizeOf,typeInfo,hti,hsz'];simp[hn0,hnt,lY];intro hh;omega
   ·simp at q3
  |_=>simp[aM]at k10
 have hq:=UC (u8:=u8) (u9:= .pointer (some ⟨b,xs.length*sz,none⟩)) hr k13 k14 (o:=(match o10.op with| .store _ _ y=>y|_=> .tmp 0)) (x:=v) (v:= .d wv) (by
  obtain⟨dst10,op10,ty10,pos10,after10,guard10⟩:=o10;cases op10 with
  |store t xx yy=>simp only[aM,aQ]at k11;exact k11.2
  |_=>simp[aM]at k11) e4
 have hu10:∃q:Value,AVR fid g w (.d wv) q/\q.cells.size=sz/\∀ww:World,ww.heap[b]?=some (.cells arr e (0,0))->(execOp ((a.put (some M) u8).put (some t9) (.pointer (some ⟨b,xs.length*sz,none⟩))).eval o10).run P ww= .ok .skip (ww.setRow b (splice arr.toList (xs.length*sz) q.cells.toList).toArray):=by
  obtain⟨dst10,op10,ty10,pos10,after10,guard10⟩:=o10;cases op10 with
  |store t xx yy=>
   simp only[aM,aQ,bu]at k11;obtain⟨⟨q1,q2⟩,q3⟩:=k11;simp only at hq;refine⟨_,hq,?_⟩;have hsx:((a.put (some M) u8).put (some t9) (.pointer (some ⟨b,xs.length*sz,none⟩))).eval xx= .pointer (some ⟨b,xs.length*sz,none⟩):=by
    cases xx with
    |tmp t'=>
     simp only[bM,fa]at q2;subst q2
     exact uw _ _ _ (by rw[gK];omega)
    |_=>simp[bM]at q2
   have hall:(AV.d wv).cells.all AV.isCell=true:=by
    cases wv with
    |agg cs=>simpa[AV.cells,DV.cells,AV.isCell]using hw2
    |_=>simpa[AV.cells,DV.cells,AV.isCell]using hw2
   have hcl:(AV.d wv).cells.length=sz:=by rw[<-hw1];cases wv<;>simp[AV.cells,DV.cells]
   obtain⟨z1,z2,z3⟩:=si hq hall;rw[hcl]at z1;refine⟨z1,fun ww hww=> ?_⟩;generalize ((a.put (some M) u8).put (some t9) (.pointer (some ⟨b,xs.length*sz,none⟩))).eval=ev at hsx z1 z3⊢
   generalize hqq:ev yy=q at z1 z3⊢
   have hst:=run_storeCells_at (P:=P) b (xs.length*sz) e q.cells.toList 0 arr ww hww (by simp;omega) z3;simp only[execOp,Instr.storeAt,hsx,Instr.sureAddr,hqq,Sem.run_bind,Sem.run_pure,Result.andThen_ok,storeVar,qi q1];rw[au (by simp;omega),hst];simp[splice]
  |_=>simp[aM]at k11
 obtain⟨q,hqv,hqs,hrun10⟩:=hu10
 let w2:=w1.setRow b (splice arr.toList (xs.length*sz) q.cells.toList).toArray
 let g2:Gh:={K:=g1.K,row:=g1.row,bx:=g.bx}
 have hKle:g.K b<=xs.length*sz:=by
  rcases eN b w.heap.size with hlt|hge
  ·rcases st1.org ((s.c+i)::p) b O (by simp[Gh.blk,a3])with h1|⟨a0,h1,h2⟩
   ·omega
   ·rcases hold a0 h1 with h3|⟨⟨sz',h3⟩,h4⟩
    ·exfalso
     obtain⟨bb,x0,hb0⟩:∃bb x0,g.row a0=some (bb,x0)/\bb=b:=by simp only[Gh.blk,ay]at h2;obtain⟨q0,h5,h6⟩:=h2;exact⟨q0.1,q0.2,h5,h6⟩
     obtain⟨hb0,rfl⟩:=hb0;have h5:=st1.ext.row a0 _ hb0;have h6:=c1.apart a0 ((s.c+i)::p) bb _ _ h3 O h5 a3;rw[<-h6]at hf0;rw[hb0]at hf0;simp at hf0
    ·subst h3
     cases xs with
     |nil=>exact absurd rfl h4
     |cons x0 xr=>
      have hszx:sz'=sz:=by
       have hxv':=hxv;generalize a.eval px=q0 at hxv';cases hxv' with
       |row _ _ ad cc ss U ht hl hm' hcell hK' hcs hvs hown=>obtain⟨_,_,rfl,_,_⟩:=hown a0 sz' rfl;rw[<-(hcs 0 x0 rfl).1];exact Y x0 (by simp)
      obtain⟨C,c',arr',e',f1,f2,f3,f4,f5,_⟩:=E8 hcore h1 hxv;simp only[Gh.blk,f2,bH,aL]at h2;subst h2;rw[f5,hszx];simp
  ·rw[hcore.K0 b hge];exact db _
 have F:∀C,C≠b->w2.heap[C]?=w1.heap[C]?:=fun C W=>setRow_other w1 b C _ W
 have G:w2.heap[b]?=some (.cells (splice arr.toList (xs.length*sz) q.cells.toList).toArray e (0,0)):=setRow_heap w1 b arr _ e (0,0) hb;have hqll:q.cells.toList.length=sz:=by simpa using hqs
 have hspl:(splice arr.toList (xs.length*sz) q.cells.toList).length=arr.size:=by rw[kK _ _ _ (by rw[hqll];simpa using hoff)];simp
 have hlow:∀k,k<xs.length*sz->(splice arr.toList (xs.length*sz) q.cells.toList).toArray[k]?=arr[k]?:=fun k hk=>by simp only[qt];rw[ke _ _ _ (by rw[hqll];simpa using hoff),au (by omega)];simp
 have Z:Ext g w g2 w2:=by
  refine⟨⟨fun x=>st1.ext.K x,fun ad had=> ?_,st1.ext.row⟩,fun _ _ h=>h⟩;rw[<-st1.ext.cell ad had]
  by_cases V:ad.block=b
  ·simp only[World.cell?]
   rw[V,G,hb];simp only;split
   ·rfl
   ·rw[hlow ad.off (by rw[V]at had;omega)]
  ·simp only[World.cell?,F _ V]
 have hnbg:∀X,g.bx X≠some b:=fun X J=>hnb X (b1.old X b J)
 have hwv:VR g w wv q:=dr hqv;refine⟨M,t9,u8,b,xs.length*sz,arr,(splice arr.toList (xs.length*sz) q.cells.toList).toArray,e,w1,g2,k1,k2,k3,k6,k7,k8,⟨nx,run8,hnx⟩,hu9,hb,hrun10,fun X C J he=>hnbg X (by rw[<-he];exact J),?_,⟨fun _ _ h=>h,fun _ _ h=> .inl h⟩,?_,fun t v0 x3=> ?_⟩
 ·rw[gY,dP,hs1B]
  refine⟨fun X C J=> ?_,hcore.inj,fun a' ha'=> ?_,fun a1 a2 C x1 x2 h1 h2 h3 h4=>c1.apart a1 a2 C x1 x2 h1 h2 h3 h4,fun C W=>c1.K0 C (by simpa[w2,World.setRow]using W)⟩
  ·obtain⟨cs,arr',e',f1,f2,f3,f4,f5,f6⟩:=hcore.box X C J
   have hne:C≠b:=fun he=>hnbg X (by rw[<-he];exact J)
   obtain⟨cs2,arr2,e2',m1,m2,m3,m4,m5,m6⟩:=c1.box X C (b1.old X C J);exact⟨cs,arr',e',f1,by rw[F C hne,hheap X C J];exact f2,f3,fun j v0 u0 q1 q2=>(f4 j v0 u0 q1 q2).mono fid Z,f5,m6⟩
  ·obtain⟨C,n',c',sz',arr',e',f1,f2,f3,f4,f5,f6⟩:=c1.opn a' ha'
   by_cases V:C=b
   ·subst V
    rw[hb]at f2;simp only[aL,Obj.cells.injEq]at f2;obtain⟨rfl,rfl,_⟩:=f2;exact⟨C,n',c',sz',_,e,f1,G,by rw[iV,hspl];exact f3,f4,f5,hnbg⟩
   ·exact⟨C,n',c',sz',arr',e',f1,by rw[F C V];exact f2,f3,f4,f5,fun X J=>f6 X (b1.old X C J)⟩
 ·rw[dP]
  refine⟨st1.os,st1.tape,st1.output,by simpa[w2,World.setRow]using st1.size,Z.toExtV,fun C W h1 h2=> ?_,st1.new,fun a' C ha' W=>st1.org a' C ha' W,fun C c0 e0 z0 W=> ?_⟩
  ·obtain⟨m1,m2⟩:=st1.keep C W h1 h2
   refine⟨?_,m2⟩;rw[F C (fun he=> ?_)]
   ·exact m1
   ·subst he
    rcases st1.org ((s.c+i)::p) C O (by simp[Gh.blk,a3])with h3|⟨a0,h3,h4⟩
    ·omega
    ·exact h2 a0 h3 h4
  ·obtain⟨c2,m1,m2⟩:=st1.arr C c0 e0 z0 W
   by_cases V:C=b
   ·subst V
    rw[hb]at m1;simp only[aL,Obj.cells.injEq]at m1;obtain⟨rfl,rfl,rfl⟩:=m1;exact⟨_,G,by rw[iV,hspl];exact m2⟩
   ·exact⟨c2,by rw[F C V];exact m1,m2⟩
 ·simp only[St.put,lk]at x3
  split at x3
  ·rename_i he
   simp only[aL]at x3;subst x3;subst he
   rw[pd _ _ _ _ k15,uw a _ u8 hd8s,hu];have b2:(xs++[wv]).length=xs.length+1:=by simp
   have key:VR g2 w2 (.sl (.own ((s.c+i)::p) sz) (xs++[wv])) (.slice (some ⟨b,0,none⟩) (xs++[wv]).length c):=by
    have hget:∀k,k<(xs.length+1)*sz->∃u0,(splice arr.toList (xs.length*sz) q.cells.toList).toArray[k]?=some u0:=fun k hk=>by refine⟨_,kX (by rw[iV,hspl];rw[dF]at hk;omega)⟩
    refine .row _ _ ⟨b,0,none⟩ c sz (fun k=>(splice arr.toList (xs.length*sz) q.cells.toList).toArray.getD k undef) (by simp) (by rw[b2];exact hnc) hm (fun k hk=> ?_) (.inr ?_) (fun j y R=> ?_) (fun j y m v1 R hm1=> ?_) (fun a' sz' ht=> ?_)
    ·rw[lY]
     rw[b2]at hk;obtain⟨u0,hu0⟩:=hget k hk;simp only[World.cell?,G,Option.isSome_none,bL,if_false,hu0,bZ,fy]
    ·simp only[b2];show 0+_<=g1.K b;rw[hKb];omega
    ·by_cases hjx:j<xs.length
     ·rw[cf hjx]at R
      refine⟨Y y (by simp[cg R]),fun v1 hv1=>hfc v1 ?_⟩;exact vS.2 ⟨y,by simp[cg R],hv1⟩
     ·rw[cF (by omega)]at R
      have:j-xs.length=0:=by have:=(aU.1 R).1;simp at this;omega
      rw[this]at R;simp only[eG,aL]at R;subst R
      exact⟨hw1,fun v1 hv1=>bB.1 hw2 v1 hv1⟩
    ·by_cases hjx:j<xs.length
     ·rw[cf hjx]at R
      have hyl:=Y y (by simp[cg R]);have hmlt:m<sz:=by have:=(aU.1 hm1).1;omega
      have hklt:j*sz+m<xs.length*sz:=by have:=fP sz (show j+1<=xs.length by omega);rw[dF]at this;omega
      have hat:(flat (xs++[z]))[j*sz+m]?=some v1:=by have:=N2 (xs:=xs++[z]) (sz:=sz) Y (i:=j) (x:=y) (j:=m) (v:=v1) (by rw[cf hjx];exact R) hm1;exact this
      obtain⟨u0,h1,h2⟩:=I _ v1 hat;rw[hu]at hun;simp only[Value.slice.injEq,aL,Addr.mk.injEq]at hun;obtain⟨⟨rfl,-,-⟩,-,-⟩:=hun;have h3:arr[j*sz+m]?=some u0:=by simpa[World.cell?,hb]using h1
      have h4:=hlow (j*sz+m) hklt;rw[bZ,h4,h3,fy];exact h2.mono Z.toExtV
     ·rw[cF (by omega)]at R
      have hj0:j-xs.length=0:=by have:=(aU.1 R).1;simp at this;omega
      have hje:j=xs.length:=by omega
      rw[hj0]at R;simp only[eG,aL]at R;subst R
      have hmlt:m<sz:=by have:=(aU.1 hm1).1;omega
      have hcells2:=YF hwv (bB.1 hw2);obtain⟨w3,w4⟩:=hcells2;have hqm:∃u0,q.cells[m]?=some u0:=⟨_,kX (by omega)⟩;obtain⟨u0,hqm⟩:=hqm;have h3:(splice arr.toList (xs.length*sz) q.cells.toList).toArray[j*sz+m]?=some u0:=by simp only[qt];rw[ke _ _ _ (by rw[hqll];simpa using hoff),aw (by rw[hqll,hje];omega),hje,show xs.length*sz+m-xs.length*sz=m by omega];simpa using hqm
      rw[bZ,h3,fy];exact(w4 m v1 u0 hm1 hqm).mono Z.toExtV
    ·simp only[Tag.own.injEq]at ht
     obtain⟨rfl,rfl⟩:=ht;exact⟨rfl,rfl,rfl,by rw[b2];exact a3,fun h=>by simp at h⟩
   rw[b2]at key;exact .d _ _ key
  ·rename_i he
   rw[hs1r]at x3;have hne9:t≠t9:=fun h9=>by rw[h9,ht9]at x3;simp at x3
   rw[pd _ _ _ _ hne9,pd _ _ _ _ he];exact(hr t v0 x3).mono fid Z
end
variable{k K:Nat}{w1:World}{cs:aA}
section
variable {P:Program} {fid:Nat->FuncId}
def kP(n k:Nat):m8:=Array.ofFn (n:=n) fun i=>decide (i.1<k)
theorem X7(n k:Nat):(kP n k).size=n:=by simp[kP]
theorem PV(h:i<n)(b:Bool):(kP n k).getD i b=decide (i<k):=by simp[kP,bZ,h]
theorem KM{l:m8}(z:l.size=n)(h:∀i,i<n->l.getD i true=decide (i<k)):l=kP n k:=by
 refine Array.ext (by rw[z,X7]) fun i y q=> ?_
 have m:=h i (by omega);have j:=PV (n:=n) (k:=k) (i:=i) (by omega) true;simp only[bZ,kX y,kX q,fy]at m j;rw[m,j]
theorem VD(hcall:ie P fid call)(hok:ee P fid N ops true (ops.toList.take vs.length) vs=true)(hK:vs.length<=ops.size)(htail:∀i,vs.length<=i->i<ops.size->∀j,j<vs.length->∀o,ops[i]?=some o->j∈iN o)(Y:ja vs=true)

 (hQ:∀g' a' w',Core fid g' w' sf.B sf.A->Boxes g0 w0 g'->Step (fun x=>∃q j,c<=j/\j<c+vs.length/\x=q++j::p) g0 w0 A0 g' w' sf.A->qdc fid g' w' sf.r a'.tmps->a'.tmps.size=N->a'.defers=a0.defers->wpAny P .any ops Q (ops.size-vs.length) (kP ops.size vs.length) a' w'):
 ∀(fuel:Nat) (listed:m8) (g:Gh) (w:World) (a:Act) (s t:St),(rest vs listed).length=fuel->listed.size=ops.size->(∀i,vs.length<=i->i<ops.size->listed.getD i true=false)->s.c=c->Core fid g w s.B s.A->qdc fid g w s.r a.tmps->a.tmps.size=N->a.defers=a0.defers->
  Boxes g0 w0 g->Step (fun x=>∃q j,c<=j/\j<c+vs.length/\x=q++j::p) g0 w0 A0 g w s.A->
  (∀i,listed.getD i true=false->∀q,g.row (q++(c+i)::p)=none)->(∀(i:Nat) (o:VOper),vs[i]?=some o->listed.getD i true=true->∀j,j∈o.after->listed.getD j true=true)->
  gr call p L0 (rest vs listed) s=some t->t.eqv sf->wpAny P .any ops Q (fuel+(ops.size-vs.length)) listed a w:=by
 obtain⟨hlen0,hat0⟩:=wP hok;have hat:∀(i:Nat) (o:Oper) (v:VOper),ops[i]?=some o->vs[i]?=some v->il P fid N ops o v=true/\(∀j,j∈v.after↔j∈iN o):=fun i o v ho hv=>by have hi:i<vs.length:=(aU.1 hv).1;exact hat0 i o v (by rw[eY,aw hi];simpa using ho) hv
 simp only[ja,aQ]at Y;obtain⟨x1,a1⟩:=Y;have J:∀(i:Nat) (o:VOper),vs[i]?=some o->∀j,j∈o.after->j<i:=fun i o h j O=>by simpa using Dg x1 i o h j O
 intro fuel
 induction fuel with
 |zero=>
  intro listed g w a s t y hsz G hc hcore hr hN W I F hfr hcl C D;have a3:rest vs listed=[]:=nQ y;rw[a3]at C;simp[gr]at C;subst C
  have hup:listed=kP ops.size vs.length:=by
   refine KM hsz fun i hi=> ?_
   by_cases hiK:i<vs.length
   ·rw[decide_eq_true hiK]
    cases hl:listed.getD i true with
    |true=>rfl
    |false=>obtain⟨pre,post,V,_⟩:=uR (vs:=vs) (i:=i) (o:=vs[i]) (by simp) hl;rw[a3]at V;simp at V
   ·rw[decide_eq_false hiK];exact G i (by omega) hi
  subst hup;rw[fR];exact hQ g a w (by rw[<-D.2.1,<-D.2.2.1];exact hcore) I (by rw[<-D.2.2.1];exact F) (Kk D hr) hN W
 |succ fuel ih=>
  intro listed g w a s t y hsz G hc hcore hr hN W I F hfr hcl C D;rw[show fuel+1+(ops.size-vs.length)=(fuel+(ops.size-vs.length))+1 by omega];refine⟨fun x3=> ?_,fun i hi=> ?_⟩
  ·
   exfalso;have hne:rest vs listed≠[]:=by intro h;rw[h]at y;simp at y
   obtain⟨q,hq⟩:=nc _ hne;have hex:∃i,i<vs.length/\listed.getD i true=false:=by obtain⟨V,h2⟩:=ij.1 hq;have h3:=ql V;exact⟨q.1,(aU.1 h3).1,by simpa using h2⟩
   have least:∀n,(∃i,i<n/\i<vs.length/\listed.getD i true=false)->∃i,i<vs.length/\listed.getD i true=false/\∀j,j<i->listed.getD j true=true:=by
    intro n
    induction n with
    |zero=>rintro⟨i,h,_⟩;omega
    |succ n ihn=>
     rintro⟨i,V,h2,h3⟩
     by_cases hl:∃i,i<n/\i<vs.length/\listed.getD i true=false
     ·exact ihn hl
     ·refine⟨i,h2,h3,fun j O=> ?_⟩
      cases hjl:listed.getD j true with
      |true=>rfl
      |false=>exact absurd ⟨j,by omega,by omega,hjl⟩ hl
   obtain⟨i0,V,h2⟩:=hex;obtain⟨i,h3,h4,h5⟩:=least (i0+1) ⟨i0,by omega,V,h2⟩;have hio:i<ops.size:=by omega
   have a2:i∈Region.ready .any ops listed:=by
    rw[Region.ready,ij];refine⟨by simpa using hio,?_⟩;have ho:ops[i]?=some ops[i]:=by simp[hio]
    simp only[h4,ho,qE,fh,bH,fy];rw[rt];intro k R;simp only[cI,fT]
    by_cases hb:Region.binds .any ops[i].after[k]=true
    ·right
     have O:(ops[i].after[k]).on∈vs[i].after:=by rw[(hat i ops[i] vs[i] (by simp[hio]) (by simp)).2];unfold iN;refine cw.2 ⟨ops[i].after[k],ij.2 ⟨by simp,hb⟩,rfl⟩
     have hlt:=J i vs[i] (by simp) _ O;have h6:=h5 _ hlt;have h7:(ops[i].after[k]).on<listed.size:=by omega
     simp[bZ,h7]at h6⊢
     exact h6
    ·left;simpa using hb
   rw[x3]at a2;simp at a2
  ·
   rw[Region.ready,ij]at hi;obtain⟨Z,hi2⟩:=hi;simp only[f_]at Z;simp only[aQ,fT]at hi2;obtain⟨hnl,z⟩:=hi2;have hne:rest vs listed≠[]:=by intro h;rw[h]at y;simp at y
   have hiv:i<vs.length:=by
    rcases eN i vs.length with h|h
    ·exact h
    ·exfalso
     obtain⟨q,hq⟩:=nc _ hne;obtain⟨V,h2⟩:=ij.1 hq;have h3:=(aU.1 (ql V)).1;have h4:ops[i]?=some ops[i]:=by simp[Z]
     have h5:=htail i h Z q.1 (by omega) ops[i] h4;unfold iN at h5;obtain⟨e,he,he0⟩:=cw.1 h5;obtain⟨he1,he2⟩:=ij.1 he;rw[h4]at z;simp only[bH,fy]at z;obtain⟨k,R,hke⟩:=Fc.1 (xA.1 he1);have h6:=(rt.1 z) k R;rw[hke]at h6;simp only[he2,m9,pi]at h6;have h7:listed.getD q.1 true=false:=by simpa using h2
     have h8:q.1<listed.size:=by omega
     rw[he0]at h6;simp[bZ,h8]at h6 h7;rw[h6]at h7;simp at h7
   have ho:ops[i]?=some ops[i]:=by simp[Z]
   have hv:vs[i]?=some vs[i]:=by simp[hiv]
   obtain⟨hokop,haft⟩:=hat i ops[i] vs[i] (by simp[Z]) hv;have b2:∀j,j∈vs[i].after->listed.getD j true=true:=by
    intro j O;rw[haft]at O;unfold iN at O;obtain⟨e,he,rfl⟩:=cw.1 O;obtain⟨he1,he2⟩:=ij.1 he;rw[ho]at z;simp only[bH,fy]at z;obtain⟨k,R,hke⟩:=Fc.1 (xA.1 he1);have:=(rt.1 z) k R;rw[hke]at this;simp only[he2,m9,pi]at this;have hlt:e.on<listed.size:=by
     rcases eN e.on listed.size with h|h
     ·exact h
     ·simp[bZ,D4 h]at this
    simp[bZ,hlt]at this⊢
    exact this
   obtain⟨pre,post,hr1,hr2,hpre2⟩:=uR hv hnl;rw[hr1]at C;have X:∀q,q∈pre->wz q.2 vs[i]:=by
    intro q hq;obtain⟨q1,q2,q3⟩:=hpre2 q hq;have hp:=Df a1 q.1 i q.2 vs[i] q1 q2 hv;simp only[fR,rK,cI,aQ]at hp;rcases hp with hp|⟨⟨hp1,hp2⟩,hp3⟩
    ·exfalso
     have hx:q.1∈(j5 vs []).getD i []:=by simpa using hp
     have:=K8 (L:=fun k=>listed.getD k true=true) (fun i o V h2 j O=>hcl i o V h2 j O) J i vs[i] hv b2 q.1 hx;rw[q3]at this;simp at this
    ·exact⟨hp1,hp2,hp3⟩
   obtain⟨s1,t',c2,hseq',M⟩:=GI X C;have hcs:=yD c2;unfold wpOp;rw[ho];simp only;have key:=BK (g:=g) (w:=w) (ops:=ops) hcall hcore hr hN (fun q=>by rw[hc];exact hfr i hnl q) hokop c2 (wpAny P .any ops Q (fuel+(ops.size-vs.length)) (listed.setIfInBounds i true)) Q (fun g1 w1 u c1 b1 st1 r1=>by
    refine ih (listed.setIfInBounds i true) g1 w1 (a.put ops[i].dst u) s1 t' ?_ (by simpa using hsz) (fun k hk1 hk2=>by rw[<-G k hk1 hk2];simp[bZ,kg (show i≠k by omega)]) (by rw[hcs,hc]) c1 r1 (by rw[gK];exact hN) (by rw[put_defers];exact W) (I.trans F.size b1) (F.trans I (st1.weaken (fun x ⟨q,hx⟩=>⟨q,s.c+i,by omega,by omega,hx⟩))) (fun k R q=> ?_) (fun k o R hkl j O=> ?_) (by rw[hr2];exact hseq') ?_
    ·rw[hr2]
     have h8:=mM List.length hr1;simp only[ek,de]at h8⊢
     omega
    ·have x2:k≠i:=by
      intro h;subst h
      have:k<listed.size:=by omega
      simp[bZ,this]at R
     have hk':listed.getD k true=false:=by rw[<-R];simp[bZ,kg (Ne.symm x2)]
     exact Eh st1 (by omega) (fun q=>hfr k hk' q) q
    ·have hset:∀m,listed.getD m true=true->(listed.setIfInBounds i true).getD m true=true:=by
      intro m hm
      by_cases hmi:m=i
      ·subst hmi
       have:m<listed.size:=by omega
       simp[bZ,this]
      ·have e:(listed.setIfInBounds i true).getD m true=listed.getD m true:=by
        simp[bZ,kg (Ne.symm hmi)]
       rw[e];exact hm
     by_cases x2:k=i
     ·subst x2
      rw[hv]at R;simp at R;subst R
      exact hset j (b2 j O)
     ·have:listed.getD k true=true:=by
       have e:(listed.setIfInBounds i true).getD k true=listed.getD k true:=by simp[bZ,kg (Ne.symm x2)]
       rw[<-e];exact hkl
      exact hset j (hcl k o R this j O)
    ·refine⟨fun x=> ?_,?_,?_,?_⟩
     ·rw[<-M.1 x];exact D.1 x
     ·rw[<-M.2.1];exact D.2.1
     ·rw[<-M.2.2.1];exact D.2.2.1
     ·rw[<-M.2.2.2];exact D.2.2.2)
   split
   ·rename_i hw
    rw[aw hw]at key;exact .inl key
   ·rename_i hw
    rw[au hw]at key;exact key
theorem OD(n K:Nat):gA n K=kP n K:=by
 refine KM (by simp[gA]) fun i hi=> ?_
 simp[gA,bZ,hi]
theorem QO(w:World)(b c:Nat)(x y:cA)(h:b≠c):(w.setRow b x).setRow c y=(w.setRow c y).setRow b x:=by
 unfold World.setRow
 congr 1
 apply Array.ext_getElem?;intro i;simp only[QP]
 by_cases j:b=i
 ·subst j
  rw[au (Ne.symm h),aw rfl,aw rfl,au (Ne.symm h)]
 ·by_cases hc:c=i
  ·subst hc
   rw[aw rfl,au j,au j,aw rfl]
  ·simp only[au j,au hc]
def pq(Q:Exit->Act->World->Prop):Exit->Act->World->Prop
 | .normal=>Q .normal
 |_=>fun _ _=>False
theorem sY(a:Act)(u:Value):a.put none u=a:=rfl
theorem W4(h5:qZ ops K=true){q y D:Oper}(e8:ops[K]?=some o8)(e9:ops[K+1]?=some o9)(I:ops[K+2]?=some o10)(X:ops[K+3]?=some q)(W:ops[K+4]?=some y)(Y:ops[K+5]?=some D)
 (g8:o8.guard.isNone=true) (g9:o9.guard.isNone=true) (h1:o10.guard.isNone=true) (x3:q.guard.isNone=true) (g12:y.guard.isNone=true) (Z:D.guard.isNone=true) (h2:o10.dst=none) (h3:D.dst=none)
{C F:Value}{blk:Nat}{arr' G j:cA}{e2:TypeId}
 (h8:∃n,(execOp a.eval o8).run P w= .ok n w1/\(n= .value u8\/(n= .skip/\u8=undef)))
 (h9:∀ww:World,(execOp (a.put o8.dst u8).eval o9).run P ww= .ok (.value u9) ww)
 (hb:w1.heap[b]?=some (.cells arr e (0,0)))
 (h10:∀ww:World,ww.heap[b]?=some (.cells arr e (0,0))->(execOp ((a.put o8.dst u8).put o9.dst u9).eval o10).run P ww= .ok .skip (ww.setRow b arr'))
 (b2:∀ww:World,(execOp ((a.put o8.dst u8).put o9.dst u9).eval q).run P ww= .ok (.value C) ww)
 (x2:∀ww:World,(execOp (((a.put o8.dst u8).put o9.dst u9).put q.dst C).eval y).run P ww= .ok (.value F) ww)
 (V:b≠blk) (O:(w1.setRow b arr').heap[blk]?=some (.cells G e2 (0,0)))
 (x1:∀ww:World,ww.heap[blk]?=some (.cells G e2 (0,0))->(execOp ((((a.put o8.dst u8).put o9.dst u9).put q.dst C).put y.dst F).eval D).run P ww= .ok .skip (ww.setRow blk j))
 (hQ:Q .normal ((((a.put o8.dst u8).put o9.dst u9).put q.dst C).put y.dst F) ((w1.setRow b arr').setRow blk j)):
 wpAny P .any ops (pq Q) (ops.size-K) (kP ops.size K) a w:=by
 simp only[qZ,aQ,bu]at h5;obtain⟨⟨⟨⟨⟨⟨⟨⟨⟨⟨⟨⟨⟨⟨⟨hn,z⟩,hall⟩,r0⟩,f1⟩,r1⟩,f2⟩,r2⟩,f3⟩,r3⟩,r4⟩,r5⟩,r6⟩,r7⟩,r8⟩,R⟩:=h5;rw[I,X,W]at R;simp only[aQ]at R;obtain⟨c2,a3⟩:=R;obtain⟨p1,_,_⟩:=Oper.apart_spec c2;obtain⟨p2,_,_⟩:=Oper.apart_spec a3;have M:∀cs bb,o10.op≠.select cs bb:=fun cs bb=>Region.noSelect_spec z _ o10 cs bb I
 have J:∀ww:World,ww.heap[b]?=some (.cells arr e (0,0))->(execOp ((((a.put o8.dst u8).put o9.dst u9).put q.dst C).put y.dst F).eval o10).run P ww= .ok .skip (ww.setRow b arr'):=fun ww hw=>by rw[execOp_put (ops:=ops) o10 M _ _ _ p2,execOp_put (ops:=ops) o10 M _ _ _ p1];exact h10 ww hw
 have hnb:w1.heap[blk]?=some (.cells G e2 (0,0)):=by rw[<-O];exact(setRow_other w1 b blk arr' (Ne.symm V)).symm
 rw[show ops.size-K=6 by omega,<-OD];have hQp:∀(a':Act) (o:Oper) (v:Value),∀c a w,pq Q (.panic c) (a.put o.dst v) w->pq Q (.panic c) a w:=fun _ _ _ c a w h=>h
 have one:∀(m:Nat) (o:Oper) (n:Next) (u:Value) (ac:Act) (wa wb:World) (Kn:Act->World->Prop),ops[m]?=some o->o.guard.isNone=true->(execOp ac.eval o).run P wa= .ok n wb->(n= .value u\/(n= .skip/\u=undef))->Kn (ac.put o.dst u) wb->wpOp P ops (pq Q) m Kn ac wa:=by
  intro m o n u ac wa wb Kn ho hg h4 a1 hK;unfold wpOp;rw[ho];simp only;rw[aw (KQ hg _)];left;unfold Oper.wp;rw[h4];rcases a1 with rfl|⟨rfl,rfl⟩
  ·rw[Oper.upon_value];exact hK
  ·rw[Oper.upon_skip];exact hK
 have yl:∀(o:Oper) (ac:Act) (v:Value),o.guard.isNone=true->(∀ww:World,(execOp ac.eval o).run P ww= .ok (.value v) ww)->Go.Yields P ops o v ac:=fun o ac v hg hr=> .inl ⟨KQ hg _,hr⟩
 obtain⟨n8,b1,a2⟩:=h8;refine wpAny_all r0 (by simp) fun i hi=> ?_
 rw[bO]at hi;subst hi
 refine one _ o8 n8 u8 a w w1 _ e8 g8 b1 a2 ?_;refine wpAny_take e9 z f1 r1 (fun c a w h=>h) (yl o9 _ u9 g9 h9) ?_;refine wpAny_take X z f2 r2 (fun c a w h=>h) (yl q _ C x3 b2) ?_;refine wpAny_take W z f3 r3 (fun c a w h=>h) (yl y _ F g12 x2) ?_;refine wpAny_all r4 (by simp) fun i' hi=> ?_
 simp only[bK,nT,nu]at hi;rcases hi with rfl|rfl
 ·refine one _ o10 .skip undef _ w1 (w1.setRow b arr') _ I h1 (J w1 hb) (.inr ⟨rfl,rfl⟩) ?_
  rw[h2,sY];refine wpAny_all r5 (by simp) fun i'' hi=> ?_
  rw[bO]at hi;subst hi
  refine one _ D .skip undef _ _ _ _ Y Z (x1 _ O) (.inr ⟨rfl,rfl⟩) ?_;rw[h3,sY];exact⟨r7,hQ⟩
 ·refine one _ D .skip undef _ w1 (w1.setRow blk j) _ Y Z (x1 _ hnb) (.inr ⟨rfl,rfl⟩) ?_
  rw[h3,sY];refine wpAny_all r6 (by simp) fun i'' hi=> ?_
  rw[bO]at hi;subst hi
  refine one _ o10 .skip undef _ _ _ _ I h1 (J _ (by rw[setRow_other w1 blk b j V];exact hb)) (.inr ⟨rfl,rfl⟩) ?_;rw[h2,sY,QO _ _ _ _ _ (Ne.symm V)];exact⟨r8,hQ⟩
theorem Tr{C:Bool}{x y:VX}{off:Nat}{v:AV}(hcore:Core fid g w B A)(J:qdc fid g w r a.tmps)(h:aM P fid o.op (.store C sz x y)=true)(Y:x.get r=some (.ptr b off))(Z:y.get r=some v)
(z:aT B b=some cs) (hc:v.cells.length=sz/\off+sz<=cs.length/\v.cells.all AV.isCell=true):
 ∃(blk:Nat) (arr arr':cA) (e:TypeId),g.bx b=some blk/\w.heap[blk]?=some (.cells arr e (0,0))/\∀ww:World,ww.heap[blk]?=some (.cells arr e (0,0))->(execOp a.eval o).run P ww= .ok .skip (ww.setRow blk arr'):=by
 obtain⟨dst,op,ty,pos,after,guard⟩:=o;cases op with
 |store t x' y'=>
  simp only[aM,aQ,bu]at h;obtain⟨⟨h1,O⟩,W⟩:=h;obtain⟨V,M,m⟩:=hc;obtain⟨blk,I,he⟩:=fM (bG (w:=w) J O Y);have j:=bG (w:=w) J W Z;generalize hq:a.eval y'=q at j;obtain⟨c1,c2,R⟩:=si j m;obtain⟨G,arr,e,X,b2,b3,b4,b5,b6⟩:=hcore.box b blk I;have:G=cs:=by have:=jF.1 z;rw[X]at this;simpa using this
  subst this;refine⟨blk,arr,(arr.toList.take (off+0)++q.cells.toList++arr.toList.drop (off+0+q.cells.toList.length)).toArray,e,I,b2,fun ww D=> ?_⟩;have F:=run_storeCells_at (P:=P) blk off e q.cells.toList 0 arr ww D (by simp;omega) R;simp only[execOp,Instr.storeAt,he,Instr.sureAddr,hq,Sem.run_bind,Sem.run_pure,Result.andThen_ok,storeVar,qi h1];rw[au (by simp;omega),F];rfl
 |_=>simp[aM]at h
end
variable{w':World}{g':Gh}{live:ae}{id na:Nat}{s0:St}
section
variable {P:Program} {fid:Nat->FuncId}
def ko(p:Id)(c c':Nat)(x:Id):Prop:=∃q j,c<=j/\j<c'/\x=q++j::p
theorem jn{c':Nat}{A':Ids}(y:Step (ko p c c') g w A g' w' A')(hc:c<=c')(h:ge g p c):ge g' p c':=by
 intro q j F
 by_cases m:g'.row (q++j::p)=g.row (q++j::p)
 ·rw[m];exact h q j (by omega)
 ·obtain⟨I,C,G,D,z⟩:=y.new _ m
  have:=rp z (by simp);simp at this;omega
theorem ow:∀{live:ae} {t:Nat} {v:AV},lk (keep r live) t=some v->lk r t=some v
 | [],t,v,h=>by simp[keep,lk]at h
 |x::xs,t,v,h=>by
  unfold keep at h;split at h
  ·rename_i u m
   simp only[lk]at h;split at h
   ·rename_i j
    simp at h;subst h;subst j;exact m
   ·exact ow h
  ·exact ow h
theorem A3(h:qdc fid g w r tm)(live:ae):qdc fid g w (keep r live) tm:=fun t v j=>h t v (ow j)
theorem Nk(h:Core fid g w B A)(q:w'.heap=w.heap)(hc:∀ad,w'.cell? ad=w.cell? ad):Core fid g w' B A:=by
 have e:Ext g w g w':=⟨⟨fun _=>bf _,fun ad _=>hc ad,fun _ _ h=>h⟩,fun _ _ h=>h⟩;refine⟨fun i b m=> ?_,h.inj,fun a O=> ?_,h.apart,fun b m=>h.K0 b (by rw[<-q];exact m)⟩
 ·obtain⟨cs,arr,el,G,y,z,J,I,V⟩:=h.box i b m
  exact⟨cs,arr,el,G,by rw[q];exact y,z,fun j v u F M=>(J j v u F M).mono fid e,I,V⟩
 ·obtain⟨b,n,c,sz,arr,el,D,R,C⟩:=h.opn a O
  exact⟨b,n,c,sz,arr,el,D,by rw[q];exact R,C⟩
theorem NE(y:ie P fid call)(hm:P.follows .mixedOrders=true){draw:Bool}(F:ee P fid N ops draw ops.toList vs=true)
(hcore:Core fid g w s.B s.A) (Z:qdc fid g w s.r a.tmps) (Y:a.tmps.size=N) (J:ge g p s.c) (O:jb call p draw na live vs s=some s')
(hQ:∀g' a' w',Core fid g' w' s'.B s'.A->Boxes g w g'->Step (ko p s.c s'.c) g w s.A g' w' s'.A->qdc fid g' w' s'.r a'.tmps->a'.tmps.size=N->a'.defers=a.defers->s.c<=s'.c->Q .normal a' w'):
 (Code.region id ops draw).wp P Q a w:=by
 unfold jb at O;split at O
 ·simp at O
 rename_i I;obtain⟨t,G,rfl⟩:=ay.1 O;have C:Core fid g w (s.B++List.replicate na none) s.A:=hcore.more fun i cs h=>by have:=(aU.1 h).1;rw[cf this];exact h
 cases draw with
 |false=>refine wp_region_list (K7 y ops.toList vs 0 g w a {s with B:=s.B++List.replicate na none} t F C Z Y (fun q j hj=>J q j (by simpa using hj)) G Q fun g' a' w' c1 M st1 X V d1=> ?_);exact hQ g' a' w' c1 M (st1.weaken fun x W=>W) (A3 X live) V d1 (by simp)
 |true=>
  simp only[fh,fT,FA]at I;refine wp_region_any hm ?_;obtain⟨hl,_⟩:=wP F;have D:ops.size=vs.length:=by simpa using hl
  have z:∀ad,({w with drawn:=w.drawn+1}:World).cell? ad=w.cell? ad:=fun _=>rfl
  have hE:Ext g w g {w with drawn:=w.drawn+1}:=⟨⟨fun _=>bf _,fun ad _=>z ad,fun _ _ h=>h⟩,fun _ _ h=>h⟩;have h1:ExtV g w g {w with drawn:=w.drawn+1}:=hE.toExtV;have m:rest vs (Array.replicate ops.size false)=(List.range' 0 vs.length).zip vs:=by unfold rest;rw[List.filter_eq_self];intro q hq;have:=ql hq;have R:=(aU.1 this).1;simp[bZ,D,R]
  rw[D];rw[D]at m;refine O6 (N:=N) (c:=s.c) (L0:=s.B.length) (p:=p) (g0:=g) (w0:={w with drawn:=w.drawn+1}) (A0:=s.A) (a0:=a) (sf:=t) y F I (fun g' a' w' c1 M st1 X V d1=> ?_) vs.length (Array.replicate vs.length false) g {w with drawn:=w.drawn+1} a {s with B:=s.B++List.replicate na none} t ?_ (by simp) rfl (Nk C rfl z) (Z.mono fid hE) Y rfl (.refl _ _) (.refl _ _ _ _) (fun i _ q=>J q _ (by omega)) (fun i o hi hc=> ?_) ?_ (.refl t)
  ·refine hQ g' a' w' c1 ⟨M.old,M.new⟩ ⟨st1.os,st1.tape,st1.output,st1.size,⟨st1.ext.K,st1.ext.cell,st1.ext.row⟩,st1.keep,fun x W=> ?_,st1.org,st1.arr⟩ (A3 X live) V d1 (by simp)
   exact st1.new x W
  ·rw[m];simp
  ·have R:=(aU.1 hi).1
   simp[bZ,R]at hc
  ·rw[m,<-Gn];exact G
theorem P_(h:qZ ops K=true):ops.size=K+6/\∀m,m<6->∃o,ops[K+m]?=some o/\o.guard.isNone=true/\∀j,j<K->j∈iN o:=by
 simp only[qZ,aQ,bu]at h;obtain⟨⟨⟨⟨⟨⟨⟨⟨⟨⟨⟨⟨⟨⟨⟨z,-⟩,y⟩,-⟩,-⟩,-⟩,-⟩,-⟩,-⟩,-⟩,-⟩,-⟩,-⟩,-⟩,-⟩,-⟩:=h;refine⟨z,fun m C=> ?_⟩;have q:=bB.1 y m (by simpa using C);cases ho:ops[K+m]? with
 |none=>rw[ho]at q;simp at q
 |some o=>rw[ho]at q;simp only[aQ]at q;exact⟨o,rfl,q.1,fun j D=>by simpa using bB.1 q.2 j (by simpa using D)⟩
theorem qzp(hcall:ie P fid call)(hm:P.follows .mixedOrders=true){pre tl:aC}(hok:b9 P fid N (.region id ops true) (.regionT na live pre tl)=true)
(hcore:Core fid g w s.B s.A) (hr:qdc fid g w s.r a.tmps) (hN:a.tmps.size=N) (hfr:ge g p s.c) (hv:oH call p na live pre tl s=some s')
(hQ:∀g' a' w',Core fid g' w' s'.B s'.A->Boxes g w g'->Step (ko p s.c s'.c) g w s.A g' w' s'.A->qdc fid g' w' s'.r a'.tmps->a'.tmps.size=N->a'.defers=a.defers->s.c<=s'.c->Q .normal a' w'):
 (Code.region id ops true).wp P Q a w:=by
 cases tl with
 |nil=>simp[b9]at hok
 |cons t tl=>
  simp only[b9,aQ]at hok;obtain⟨⟨⟨⟨o1,o2⟩,o3⟩,otl⟩,o4⟩:=hok;obtain⟨hn6,J⟩:=P_ o3;split at o4
  rotate_left
  ·simp at o4
  rename_i o8 o9 o10 e8 e9 e10;unfold oH at hv;split at hv
  ·simp at hv
  rename_i hdr;simp only[FA]at hdr;obtain⟨s1,hv1,hv⟩:=az.1 hv;obtain⟨s2,hv2,rfl⟩:=ay.1 hv;rw[vu]at hv2;obtain⟨s3,hv3,M⟩:=az.1 hv2;have hmore:Core fid g w (s.B++List.replicate na none) s.A:=hcore.more fun i cs h=>by have:=(aU.1 h).1;rw[cf this];exact h
  have hc1:s1.c=s.c:=by have:=La hv1;simpa using this
  refine Code.wp_mono (Q:=pq Q) (fun e a w h=>by cases e<;>first|exact h|exact(show False from h).elim) ?_;refine wp_region_any hm ?_;have Y:∀ad,({w with drawn:=w.drawn+1}:World).cell? ad=w.cell? ad:=fun _=>rfl
  have hE:Ext g w g {w with drawn:=w.drawn+1}:=⟨⟨fun _=>bf _,fun ad _=>Y ad,fun _ _ h=>h⟩,fun _ _ h=>h⟩;have x2:rest pre (Array.replicate ops.size false)=(List.range' 0 pre.length).zip pre:=by unfold rest;rw[List.filter_eq_self];intro q hq;have:=ql hq;have h3:=(aU.1 this).1;simp[bZ,show q.1<ops.size by omega]
  have hstart:(rest pre (Array.replicate ops.size false)).length+(ops.size-pre.length)=ops.size:=by rw[x2];simp;omega
  suffices hfin:wpAny P .any ops (pq Q) ((rest pre (Array.replicate ops.size false)).length+(ops.size-pre.length)) (Array.replicate ops.size false) a {w with drawn:=w.drawn+1}by
   rw[hstart]at hfin;exact hfin
  refine VD (N:=N) (c:=s.c) (L0:=s.B.length) (p:=p) (g0:=g) (w0:={w with drawn:=w.drawn+1}) (A0:=s.A) (a0:=a) (sf:=s1) hcall o1 (by omega) (fun i hK hi j hj o ho=>by
   obtain⟨o',h1,_,h2⟩:=J (i-pre.length) (by omega);rw[show pre.length+(i-pre.length)=i by omega,ho]at h1;simp only[aL]at h1;subst h1
   exact h2 j hj) hdr (fun g1 a1 w1 c1 b1 st1 r1 n1 d1=> ?_) _ (Array.replicate ops.size false) g {w with drawn:=w.drawn+1} a {s with B:=s.B++List.replicate na none} s1 rfl (by simp) (fun i _ hi=>by simp[bZ,hi]) rfl (Nk hmore rfl Y) (hr.mono fid hE) hN rfl (.refl _ _) (.refl _ _ _ _) (fun i _ q=>hfr q _ (by omega)) (fun i o hi hc=> ?_) ?_ (.refl s1)
  ·have hfr1:∀q j,s.c+pre.length<=j->g1.row (q++j::p)=none:=fun q j hj=>by
    by_cases he:g1.row (q++j::p)=g.row (q++j::p)
    ·rw[he];exact hfr q j (by omega)
    ·obtain⟨q',j',h1,h2,h3⟩:=st1.new _ he
     have:=rp h3 (by simp);simp at this;omega
   obtain⟨d8,t9,u8,b,F,arr,arr',e,w1',g2,k8,k9,k10,q8,q9,q10,h8,h9,hb,h10,hnb,c2,b2,st2,r2⟩:=Po c1 r1 n1 (fun q=>hfr1 q _ (by rw[hc1];exact bf _)) o4 hv3;unfold Mi at otl;split at otl
   rotate_left
   ·simp at otl
   rename_i W x11 f11 a2 G y12 f12 sz13 z13 y13 f13 _ex;simp only[aQ,fa]at otl;obtain⟨x1,X⟩:=otl;have x1:=x1.symm;have X:=X.symm;subst x1;subst X
   obtain⟨R,e11,g11,_⟩:=J 3 (by omega);obtain⟨V,e12,g12,_⟩:=J 4 (by omega);obtain⟨o13,e13,g13,_⟩:=J 5 (by omega);have hdr3:ops.toList.drop (pre.length+3)=[R,V,o13]:=by
    have d1:∀m o,ops[m]?=some o->ops.toList.drop m=o::ops.toList.drop (m+1):=fun m o h=>by obtain⟨h1,h2⟩:=d9.1 h;rw[dl (by simpa using h1)];simp[<-h2]
    rw[d1 _ _ e11,d1 _ _ e12,d1 _ _ e13,ki (by simp;omega)]
   rw[hdr3]at o2;simp only[ee,il,aQ,fa,qE,Bool.true_or,and_true]at o2;obtain⟨⟨⟨⟨k11,l11⟩,okp11⟩,-⟩,⟨⟨⟨k12,l12⟩,okp12⟩,-⟩,⟨⟨k13,-⟩,Z⟩,-⟩:=o2;simp only[cX,dh,aY]at M;obtain⟨s4,v4,M⟩:=az.1 M;obtain⟨s5,v5,M⟩:=az.1 M;obtain⟨s6,v6,M⟩:=az.1 M;simp only[aL]at M;subst M
   obtain⟨w4,e4,h4⟩:=ay.1 v4;clear v4;subst h4
   obtain⟨w5,e5,h5⟩:=ay.1 v5;clear v5;subst h5
   simp only[aK,St.put,VX.get,lk,if_true]at e4 e5 v6;have hst0:∃(O y:Nat) (v:AV) (cs:aA),w4= .ptr O y/\w5= .ptr O (y+G)/\y13.get ((a2,w5)::(W,w4)::s3.r)=some v/\aT s3.B O=some cs/\(v.cells.length=sz13/\y+G+sz13<=cs.length/\v.cells.all AV.isCell=true):=by
    split at v6
    ·rename_i bb y v h1 h2
     simp only[aL]at h1;subst h1
     split at v6
     ·simp at v6
     ·obtain⟨s7,h3,-⟩:=ay.1 v6
      unfold jr at h3;obtain⟨cs,h4,h5⟩:=az.1 h3;split at h5
      ·rename_i hc
       cases w4 with
       |ptr O off=>simp only[aL,AV.ptr.injEq]at e5;obtain⟨rfl,rfl⟩:=e5;exact⟨_,_,v,cs,rfl,rfl,h2,h4,hc.1,hc.2.1,hc.2.2.1⟩
       |ep l=>(exfalso;by_cases hq:G<=l.length<;>simp[hq]at e5)
       |_=>simp at e5
      ·simp at h5
    ·simp at v6
   obtain⟨O,y,v,cs,rfl,rfl,hy13,hcs,hcond⟩:=hst0;have hx11:lk s3.r x11=some (.ptr O y):=by
    generalize lk s3.r x11=q at e4;cases q with
    |none=>simp at e4
    |some q=>cases q<;>first|exact e4|(simp at e4;done)
   rw[<-k8,<-k9]at h10 r2;rw[<-k8]at h9;obtain⟨C,I,hu11⟩:=fM (r2 x11 _ hx11);have h11:∀ww:World,(execOp ((a1.put o8.dst u8).put o9.dst (.pointer (some ⟨b,F,none⟩))).eval R).run P ww= .ok (.value (.pointer (some ⟨C,y,none⟩))) ww:=fun ww=>by
    have hrr:qdc fid g2 ww [(x11,.ptr O y)] ((a1.put o8.dst u8).put o9.dst (.pointer (some ⟨b,F,none⟩))).tmps:=fun t' v' z=>by
     simp only[lk]at z;split at z
     ·rename_i he;subst he
      simp only[aL]at z;subst z
      rw[hu11];exact .ptr _ _ _ I
     ·simp at z
    obtain⟨u,e1,e2⟩:=Nu (g:=g2) hrr okp11 (v:= .ptr O y) (by simp[aK,VX.get,lk]);obtain⟨b0,e3,rfl⟩:=fM e2;rw[I]at e3;simp only[aL]at e3;subst e3
    exact e1
   have hl11:W<((a1.put o8.dst u8).put o9.dst (.pointer (some ⟨b,F,none⟩))).tmps.size:=by rw[gK,gK,n1];simpa[k11]using l11
   have hl12:a2<(((a1.put o8.dst u8).put o9.dst (.pointer (some ⟨b,F,none⟩))).put R.dst (.pointer (some ⟨C,y,none⟩))).tmps.size:=by rw[gK,gK,gK,n1];simpa[k12]using l12
   have h12:∀ww:World,(execOp (((a1.put o8.dst u8).put o9.dst (.pointer (some ⟨b,F,none⟩))).put R.dst (.pointer (some ⟨C,y,none⟩))).eval V).run P ww= .ok (.value (.pointer (some ⟨C,y+G,none⟩))) ww:=fun ww=>by
    have hrr:qdc fid g2 ww [(W,.ptr O y)] (((a1.put o8.dst u8).put o9.dst (.pointer (some ⟨b,F,none⟩))).put R.dst (.pointer (some ⟨C,y,none⟩))).tmps:=fun t' v' z=>by
     simp only[lk]at z;split at z
     ·rename_i he;subst he
      simp only[aL]at z;subst z
      rw[k11,uw _ _ _ hl11];exact .ptr _ _ _ I
     ·simp at z
    obtain⟨u,e1,e2⟩:=Hi (g:=g2) hrr okp12 (v:= .ptr O (y+G)) (by simp[aK,VX.get,lk]);obtain⟨b0,e3,rfl⟩:=fM e2;rw[I]at e3;simp only[aL]at e3;subst e3
    exact e1
   have r5:qdc fid g2 (w1'.setRow b arr') ((s3.put R.dst (.ptr O y)).put V.dst (.ptr O (y+G))).r ((((a1.put o8.dst u8).put o9.dst (.pointer (some ⟨b,F,none⟩))).put R.dst (.pointer (some ⟨C,y,none⟩))).put V.dst (.pointer (some ⟨C,y+G,none⟩))).tmps:=gw (gw r2 (.ptr _ _ _ I) (fun d hd=>by rw[k11]at hd;simp only[aL]at hd;subst hd;exact hl11)) (.ptr _ _ _ I) (fun d hd=>by rw[k12]at hd;simp only[aL]at hd;subst hd;exact hl12)
   rw[k11,k12]at r5;simp only[St.put]at r5;rw[<-k11,<-k12]at r5;obtain⟨blk,arr2,arr2',e2,hbx,x3,h13⟩:=Tr c2 r5 Z (by simp[VX.get,lk]) hy13 hcs hcond;have hne:b≠blk:=fun h=>hnb O blk hbx h.symm
   have c5:Core fid g2 (w1'.setRow b arr') (⟨(a2,.ptr O (y+G))::(W,.ptr O y)::s3.r,s3.B,s3.A,s3.c⟩:St).B (⟨(a2,.ptr O (y+G))::(W,.ptr O y)::s3.r,s3.B,s3.A,s3.c⟩:St).A:=c2;obtain⟨⟨nx,ux,w3,g3,a3,res3,c3,b3,st3,r3⟩⟩:=Fi (call:=call) (p:=p) (draw:=false) (L0:=s.B.length) (i:=0) (s:=⟨(a2,.ptr O (y+G))::(W,.ptr O y)::s3.r,s3.B,s3.A,s3.c⟩) (s':=s6) (gd:=none) (af:=[]) c5 r5 (fun d hd=>by rw[k13]at hd;simp at hd) Z (by rw[k13];simp only[aY,VX.get,lk,if_true];exact v6) (fun _=>False);rw[h13 _ x3]at a3;simp only[Result.ok.injEq]at a3;obtain⟨rfl,rfl⟩:=a3;have hux:ux=undef:=by
    rcases res3 with h|h
    ·simp at h
    ·exact h.2
   subst hux;refine W4 o3 e8 e9 e10 e11 e12 e13 q8 q9 q10 g11 g12 g13 k10 k13 h8 h9 hb h10 h11 h12 hne x3 h13 ?_;have B12:=b1.trans st1.size b2;have S12:=(st1.weaken (N':=ko p s.c (s.c+(pre.length+4))) (fun x ⟨q,j,h1,h2,h3⟩=>⟨q,j,h1,by omega,h3⟩)).trans b1 (st2.weaken (fun x ⟨q,hx⟩=>⟨q,s1.c+pre.length,by omega,by omega,hx⟩));have D:=S12.trans B12 (st3.weaken (N':=ko p s.c (s.c+(pre.length+4))) (fun x h=>h.elim));have B13:=B12.trans S12.size b3;refine hQ g3 _ _ c3 ⟨B13.old,B13.new⟩ ⟨D.os,D.tape,D.output,D.size,⟨D.ext.K,D.ext.cell,D.ext.row⟩,D.keep,fun x hx=> ?_,D.org,D.arr⟩ (by have hk:=A3 r3 live;rw[k13,sY]at hk;exact hk) (by simp only[gK];exact n1) (by simp only[put_defers];exact d1) (by simp);have:=D.new x hx;simpa using this
  ·have h3:=(aU.1 hi).1
   simp[bZ,show i<ops.size by omega]at hc
  ·rw[x2,<-Gn];exact hv1
structure Reach(fid:Nat->FuncId)(p:Id)(N:Nat)(g:Gh)(w:World)(s:St)(a:Act)(g':Gh)(w':World)(s':St)(a':Act):Prop where
 core:Core fid g' w' s'.B s'.A
 boxes:Boxes g w g'
 step:Step (ko p s.c s'.c) g w s.A g' w' s'.A
 regs:qdc fid g' w' s'.r a'.tmps
 size:a'.tmps.size=N
 defers:a'.defers=a.defers
 le:s.c<=s'.c
theorem Reach.trans{C:Gh}{m:World}{z:St}{a' y:Act}(h:Reach fid p N g w s a g' w' s' a')(h':Reach fid p N g' w' s' a' C m z y):Reach fid p N g w s a C m z y:=by have J:=h.le;have I:=h'.le;exact⟨h'.core,h.boxes.trans h.step.size h'.boxes,(h.step.weaken fun x ⟨q,j,G,F,D⟩=>⟨q,j,G,by omega,D⟩).trans h.boxes (h'.step.weaken fun x ⟨q,j,G,F,D⟩=>⟨q,j,by omega,F,D⟩),h'.regs,h'.size,h'.defers.trans h.defers,by omega⟩
theorem Reach.refl(hc:Core fid g w s.B s.A)(j:qdc fid g w s.r a.tmps)(h:a.tmps.size=N):Reach fid p N g w s a g w s a:=⟨hc,.refl _ _,.refl _ _ _ _,j,h,rfl,bf _⟩
def Ex.toExit:Ex->Exit
 | .normal=> .normal
 | .exit id=> .exit id
 | .ret=> .ret
theorem uT{m:Nat}:∀{r:aE} {t:Nat} {v:AV},aG m r=true->lk r t=some v->v.safe m=true
 | [],t,v,_,h=>by simp[lk]at h
 |(x,u)::r,t,v,j,h=>by
  simp only[aG,aQ]at j;simp only[lk]at h;split at h
  ·simp at h;subst h;exact j.1
  ·exact uT j.2 h
theorem nr(h:Core fid g w B A)(j:g.bx i=some b):i<B.length:=by obtain⟨cs,arr,e,m,_⟩:=h.box i b j;exact(aU.1 m).1
theorem JQ(hc0:Core fid g0 w0 s0.B s0.A)(R:Reach fid p N g0 w0 s0 a0 g w s a)(C:w0.heap.size<=b)(q:g.bx idx=none)
 (hcore:Core fid (g.foc b idx) w s'.B s'.A) (V:∀x,s'.A x=true->s.A x=true) (y:s'.c=s.c) (M:qdc fid (g.foc b idx) w s'.r a.tmps):Reach fid p N g0 w0 s0 a0 (g.foc b idx) w s' a:=by
 have j:=R.step;refine⟨hcore,⟨fun i m h=> ?_,fun i m h=> ?_⟩,⟨j.os,j.tape,j.output,j.size,⟨fun x=> ?_,j.ext.cell,j.ext.row⟩,fun m D F G=> ?_,fun x z=> ?_,fun x m z I=>j.org x m (V x z) I,j.arr⟩,M,R.size,R.defers,by rw[y];exact R.le⟩
 ·have D:=R.boxes.old i m h
  simp only[Gh.foc];rw[au (fun J=>by rw[J,q]at D;simp at D)];exact D
 ·simp only[Gh.foc]at h
  split at h
  ·simp only[aL]at h;exact .inr (by omega)
  ·exact R.boxes.new i m h
 ·simp only[Gh.foc]
  split
  ·rename_i z;rw[z,hc0.K0 b C];exact bf _
  ·exact j.ext.K x
 ·obtain⟨O,k2⟩:=j.keep m D F G
  refine⟨O,?_⟩;simp only[Gh.foc];rw[au (by omega)];exact k2
 ·have:=j.new x z
  rw[y];exact this
theorem Eq{a:Id}(h:u_ A a rs B=true)(hi:B[i]?=some (some cs)):∀v:AV,v∈cs->v.rest A a rs=true:=by have:=bB.1 h _ (cg hi);exact fun v j=>bB.1 this v j
theorem ES:∀{r:aE} {t:Nat} {v:AV},lk r t=some v->(t,v)∈r
 | [],t,v,h=>by simp[lk]at h
 |(x,u)::r,t,v,h=>by
  simp only[lk]at h;split at h
  ·rename_i j
   simp at h;subst h;subst j;simp
  ·exact em _ (ES h)
noncomputable def Gh.raise(w:World)(L:Nat)(ex:a_)(g:Gh):Gh:=
 {K:=fun b=>open Classical in if∃j,L<=j/\ex≠some j/\g.bx j=some b then(match w.heap[b]? with|some (.cells arr _ _)=>arr.size|_=>0)else g.K b
  row:=g.row
  bx:=fun j=>if j<L then g.bx j else if j=L then ex.bind g.bx else none}
section
variable {g:Gh} {w:World} {B:ar} {A:Ids} {L:Nat} {ex:a_}
theorem F9(hc:Core fid g w B A)(b:Nat):g.K b<=(g.raise w L ex).K b:=by
 simp only[Gh.raise];split
 ·rename_i h
  obtain⟨j,_,_,m⟩:=h;obtain⟨cs,arr,e,z,q,F,D,C,y⟩:=hc.box j b m;omega
 ·exact bf _
theorem qPH(hc:Core fid g w B A):ExtV g w (g.raise w L ex) w:=⟨F9 hc,fun _ _=>rfl,fun _ _ h=>h⟩
theorem tI(h:∀j,L<=j->ex≠some j->g.bx j≠some b):(g.raise w L ex).K b=g.K b:=by simp only[Gh.raise];rw[au (fun⟨j,m,q,y⟩=>h j m q y)]
theorem C4(hc:Core fid g w B A){v:AV}(h:AVR fid g w v u)(y:v.safe L=true):AVR fid (g.raise w L ex) w v u:=by have j:=h.cutB (fid:=fid) y;refine AVR.mono (g:=g.cutB L) (g':=g.raise w L ex) fid ⟨⟨fun b=>F9 hc b,fun _ _=>rfl,fun _ _ h=>h⟩,fun i b m=> ?_⟩ j;obtain⟨j,q⟩:=jJ m;simp only[Gh.raise];rw[aw j];exact q
theorem Pw(h:aT (dp L B) i=some cs):L<=i/\aT B i=some cs:=by
 have j:=jF.1 h;unfold dp at j
 by_cases hi:i<L
 ·rw[cf (by simpa using hi)]at j
  simp[hi]at j
 ·rw[cF (by simp;omega)]at j
  simp only[Gq,gP]at j;rw[show L+(i-L)=i by omega]at j;exact⟨by omega,jF.2 j⟩
theorem DD(hc:Core fid g w B A):∀(n:Nat) (v:AV) (d:DV) (u:Value),AVR fid g w v u->(∀j,ex=some j->v.safe j=true)->v.frzC (dp L B) n=some d->VR (g.raise w L ex) w d u:=by
 have base:∀(y d:DV) (u:Value),AVR fid g w (.d y) u->some y=some d->VR (g.raise w L ex) w d u:=by
  intro y d u z h;simp only[aL]at h;subst h
  cases z with|d _ _ h=>exact h.mono (qPH hc)
 intro n
 induction n with
 |zero=>
  intro v d u z V h;cases v with
  |d y=>exact base y d u z (by simpa only[AV.frzC]using h)
  |_=>simp[AV.frzC]at h
 |succ n ih=>
  intro v d u z V h;cases v with
  |d y=>exact base y d u z (by simpa only[AV.frzC]using h)
  |tsl agg i sz m=>
   simp only[AV.frzC]at h;obtain⟨cs,O,h2⟩:=az.1 h;obtain⟨ds,h3,R⟩:=az.1 h2;split at R
   ·rename_i x2
    obtain⟨xs,h5,rfl⟩:=ay.1 R;obtain⟨x1,O⟩:=Pw O;cases z with
    |tsl _ _ _ _ c b hb hn hm=>
     obtain⟨X,arr,e,b1,b2,b3,b4,b5,b6⟩:=hc.box i b hb;have:X=cs:=by have:=jF.1 O;rw[b1]at this;simpa using this
     subst this;obtain⟨l1,l2⟩:=wX h3;have q:∀v:DV,v∈ds->v.isCell=true:=fun v hv=>by obtain⟨j,J⟩:=dH.1 hv;obtain⟨av,Y,F⟩:=l2 j v J;exact SR F (b5 av (cg Y)).1
     obtain⟨c1,Z⟩:=v7 q h5;have G:ex≠some i:=fun he=>by have:=V i he;rw[fe]at this;simp at this
     have M:(g.raise w L ex).K b=arr.size:=by simp only[Gh.raise];rw[aw ⟨i,x1,G,hb⟩,b2]
     have key:VR (g.raise w L ex) w (.sl .sub xs) (.slice (some ⟨b,0,none⟩) xs.length c):=by
      refine .row _ xs ⟨b,0,none⟩ c sz (fun k=>arr.getD k undef) (by simp) (by omega) hm (fun k hk=> ?_) (.inr ?_) (fun C x I=>⟨(Z C x I).1,(Z C x I).2.1⟩) (fun C x j v I J=> ?_) (fun a' x3 ht=>by simp at ht)
      ·rw[lY]
       have:k<arr.size:=by rw[c1]at hk;omega
       simp[World.cell?,b2,bZ,this]
      ·simp only;rw[M,c1];omega
      ·have Y:=(Z C x I).2.2 j v J
       obtain⟨av,F,h8⟩:=l2 _ v Y;have D:C*sz+j<arr.size:=by have:=(aU.1 F).1;omega
       simp only[bZ,kX D,fy];refine ih av v _ (b4 _ av _ F (by simp[D])) (fun j' W=> ?_) h8;have:=V j' W;rw[fe]at this;simp only[bu]at this;exact wS (ym this) av (b5 av (cg F)).2
     rw[c1]at key;exact key
   ·simp at R
  |_=>simp[AV.frzC]at h
theorem qGD(hc:Core fid g w B A)(v:AV)(d:DV)(u:Value)(z:AVR fid g w v u)(h:v.frz (dp L B)=some d):VR (g.raise w L none) w d u:=by
 cases v with
 |ag t cs=>
  cases t with
  |false=>
   simp only[AV.frz]at h;obtain⟨ds,G,q⟩:=az.1 h;split at q
   ·rename_i m
    simp only[aL]at q;subst q
    obtain⟨R,D⟩:=wX G;cases z with
    |ag _ us O C=>
     exact .agg ds us (by omega) (fun v I=>bB.1 m v I) fun j v u F y=>by obtain⟨av,M,J⟩:=D j v F;exact DD hc _ av v u (C j av u M y) (fun j h=>by simp at h) J
   ·simp at q
  |true=>simp only[AV.frz]at h;cases hB:(dp L B).length<;>simp[hB,AV.frzC]at h
 |_=>exact DD hc (dp L B).length _ d u z (fun j h=>by simp at h) (by simpa only[AV.frz]using h)
theorem HU{B':ar}(hc:Core fid g w B A)(C:∀i,ex=some i->L<=i)(h1:∀i,i<L->B'[i]?=B[i]?)
 (h2:∀i b cs,ex=some i->g.bx i=some b->B[i]?=some (some cs)->∃ds:al,B'[L]?=some (some (ds.map .d))/\ds.length=cs.length/\(∀d,d∈ds->d.isCell=true)/\
  ∀(k:Nat) (d:DV) (v:AV) (u:Value),ds[k]?=some d->cs[k]?=some v->AVR fid g w v u->v.safe i=true->VR (g.raise w L ex) w d u):Core fid (g.raise w L ex) w B' A:=by
 have q:∀j b,(g.raise w L ex).bx j=some b->(j<L/\g.bx j=some b)\/(j=L/\∃i,ex=some i/\g.bx i=some b):=fun j b h=>by
  simp only[Gh.raise]at h;split at h
  ·rename_i y;exact .inl ⟨y,h⟩
  ·split at h
   ·rename_i y
    obtain⟨i,hi,hb⟩:=az.1 h;exact .inr ⟨y,i,hi,hb⟩
   ·simp at h
 refine⟨fun j b h=> ?_,fun i j b h h'=> ?_,fun a ha=> ?_,hc.apart,fun b hb=> ?_⟩
 ·rcases q j b h with⟨y,m⟩|⟨rfl,i,hi,m⟩
  ·obtain⟨cs,arr,e,Z,b2,b3,Y,G,J⟩:=hc.box j b m
   refine⟨cs,arr,e,by rw[h1 j y];exact Z,b2,b3,fun k v u D R=>C4 hc (Y k v u D R) (wS (ym y) v (G v (cg D)).2),G,?_⟩;rw[tI (fun k I _ z=>by have:=hc.inj j k b m z;omega)];exact J
  ·obtain⟨cs,arr,e,Z,b2,b3,Y,G,J⟩:=hc.box i b m
   obtain⟨ds,d1,d2,d3,d4⟩:=h2 i b cs hi m Z;refine⟨_,arr,e,d1,b2,by rw[eo];omega,fun k v u D R=> ?_,fun v hv=> ?_,?_⟩
   ·simp only[c7]at D
    obtain⟨d,q3,rfl⟩:=ay.1 D;have I:k<cs.length:=by have:=(aU.1 q3).1;omega
    have q4:cs[k]?=some cs[k]:=by simp[I]
    exact .d _ _ (d4 k d _ u q3 q4 (Y k _ u q4 R) (G _ (cg q4)).2)
   ·obtain⟨d,hd,rfl⟩:=cw.1 hv
    exact⟨d3 d hd,bd _ _⟩
   ·rw[tI (fun k I X z=>X (by rw[hi,hc.inj i k b m z]))];exact J
 ·rcases q i b h with⟨hi,m⟩|⟨rfl,M,O,m⟩<;>rcases q j b h' with⟨y,F⟩|⟨rfl,j',W,F⟩
  ·exact hc.inj i j b m F
  ·have:=hc.inj i j' b m F
   have:=C j' W;omega
  ·have:=hc.inj j M b F m
   have:=C M O;omega
  ·rfl
 ·obtain⟨b,n,c,sz,arr,e,o1,o2,o3,o4,o5,V⟩:=hc.opn a ha
  refine⟨b,n,c,sz,arr,e,o1,o2,o3,by rw[tI (fun k _ _ z=>V k z)];exact o4,o5,fun i hi=> ?_⟩;rcases q i b hi with⟨_,m⟩|⟨_,M,_,m⟩
  ·exact V _ m
  ·exact V _ m
 ·rw[tI (fun k _ _ z=>by have:=hc.lt z;omega)]
  exact hc.K0 b hb
end
theorem KD{L:Nat}{ex:a_}(hc0:Core fid g0 w0 s0.B s0.A)(X:s0.B.length<=L)(z:∀i,ex=some i->L<=i)(R:Reach fid p N g0 w0 s0 a0 g w s a)
 (hcore:Core fid (g.raise w L ex) w s'.B s'.A) (V:s'.A=s.A) (y:s'.c=s.c) (M:qdc fid (g.raise w L ex) w s'.r a.tmps):Reach fid p N g0 w0 s0 a0 (g.raise w L ex) w s' a:=by
 have m:=R.step;refine⟨hcore,⟨fun i b h=> ?_,fun i b h=> ?_⟩,⟨m.os,m.tape,m.output,m.size,⟨fun x=>cT (m.ext.K x) (F9 R.core x),m.ext.cell,m.ext.row⟩,fun b G F q=> ?_,fun x D=> ?_,fun x b D C=>m.org x b (by rw[<-V];exact D) C,m.arr⟩,M,R.size,R.defers,by rw[y];exact R.le⟩
 ·have G:=nr hc0 h
  simp only[Gh.raise];rw[aw (by omega)];exact R.boxes.old i b h
 ·simp only[Gh.raise]at h
  split at h
  ·exact R.boxes.new i b h
  ·rename_i hi
   split at h
   ·obtain⟨j,J,C⟩:=az.1 h
    rcases R.boxes.new j b C with q|q
    ·have:=nr hc0 q
     have:=z j J;omega
    ·exact .inr q
   ·simp at h
 ·obtain⟨O,k2⟩:=m.keep b G F q
  refine⟨O,?_⟩;rw[tI (fun k _ _ W=>by
   rcases R.boxes.new k b W with I|I
   ·exact F k I
   ·omega)]
  exact k2
 ·have:=m.new x D
  rw[y];exact this
theorem XK(hc0:Core fid g0 w0 s0.B s0.A)(hA0:∀x,s0.A x=false){x:Gho}(hL:x.low s0.B.length=true)(R:Reach fid p N g0 w0 s0 a0 g w s a)(h:iH x s=some s'):
 ∃g',Reach fid p N g0 w0 s0 a0 g' w s' a:=by
 have foc:∀{V:Id} {sz:Nat} {y:DV} {D:al} {u:Value} (idx:Nat),s.A V=true->VR g w (.sl (.own V sz) (y::D)) u->g.bx idx=none->DV.rests s.A V ((y::D).flatMap DV.cells) ((y::D).flatMap DV.cells)=true->
  ∃b c,u= .slice (some ⟨b,0,none⟩) (D.length+1) c/\D.length+1<=c/\c<=maxLen/\w0.heap.size<=b/\(∀(v:AV) (u:Value),AVR fid g w v u->v.rest s.A V ((y::D).flatMap DV.cells)=true->AVR fid (g.foc b idx) w v u)/\
   ∀B2:ar,B2[idx]?=some (some (((y::D).flatMap DV.cells).map .d))->
    (∀i Y,g.bx i=some Y->∃cs arr e,B2[i]?=some (some cs)/\w.heap[Y]?=some (.cells arr e (0,0))/\cs.length<=arr.size/\(∀(j:Nat) (v:AV) (u:Value),cs[j]?=some v->arr[j]?=some u->AVR fid (g.foc b idx) w v u)/\(∀v,v∈cs->v.isCell=true/\v.safe i=true))->
    Core fid (g.foc b idx) w B2 (Ids.del V s.A):=by
  intro V sz y D u idx ha O q hrs;obtain⟨b,c,arr,e,hu,X,hb,hsz,hK,hn,hm,hnb,a3,z,x3⟩:=E8 R.core ha O;have C:w0.heap.size<=b:=by
   rcases R.step.org V b ha (by simp[Gh.blk,X])with G|⟨a2,G,_⟩
   ·exact G
   ·rw[hA0 a2]at G;simp at G
  have h5:∃arr e,w.heap[b]?=some (.cells arr e (0,0))/\∀(k:Nat) (u:Value),k<g.K b->arr[k]?=some u->∃r:DV,r∈(y::D).flatMap DV.cells/\r.isCell=true/\VR g w r u:=by
   refine⟨arr,e,hb,fun k u hk hu=> ?_⟩;have b2:k<((y::D).flatMap DV.cells).length:=by rw[a3,<-hK];exact hk
   have Z:((y::D).flatMap DV.cells)[k]?=some ((y::D).flatMap DV.cells)[k]:=eJ b2;exact⟨_,cg Z,z _ (cg Z),x3 k _ u Z hu⟩
  have hap:∀a' x,s.A a'=true->a'≠V->g.row a'=some x->x.1≠b:=fun a' x G I h3 he=>I (R.core.apart a' V b x.2 _ G ha (by rw[h3,<-he]) X)
  have x1:∀x,x≠b->(g.foc b idx).K x=g.K x:=fun x hx=>by simp[Gh.foc,hx]
  have hbx:∀i Y,g.bx i=some Y->(g.foc b idx).bx i=some Y:=fun i Y hi=>by simp only[Gh.foc];rw[au (fun he=>by rw[he,q]at hi;simp at hi)];exact hi
  refine⟨b,c,hu,hn,hm,C,fun v u G I=>qLk (g:=g) (g2:=g.foc b idx) rfl x1 hbx h5 hap G I,fun B2 I hbox=> ?_⟩;exact Q8 R.core ha X hb hsz hn hnb q a3 z (fun k d u' hk hu'=>Ju (g:=g) (g2:=g.foc b idx) rfl x1 h5 hap (x3 k d u' hk hu') (qA hrs d (cg hk))) I hbox
 cases x with
 |focR t live=>
  simp only[iH]at h;split at h
  ·rename_i V sz y D hl
   split at h
   ·rename_i hc
    obtain⟨ha,ht,G,I,h3⟩:=hc;simp only[aL]at h;subst h
    have O:=dr (R.regs t _ hl);have q:g.bx s.B.length=none:=by
     cases hb:g.bx s.B.length with
     |none=>rfl
     |some b=>have:=nr R.core hb;omega
    obtain⟨b,c,hu,hn,hm,C,tr,core⟩:=foc s.B.length ha O q h3;refine⟨g.foc b s.B.length,JQ hc0 R C q (core _ (by simp) (fun i Y hi=> ?_)) (fun x hx=>by simp only[Ids.del,aQ]at hx;exact hx.2) rfl (fun t' v m=> ?_)⟩
    ·obtain⟨cs,arr,e,q1,q2,q3,q4,q5,q6⟩:=R.core.box i Y hi
     have b2:=(aU.1 q1).1;exact⟨cs,arr,e,by rw[cf b2];exact q1,q2,q3,fun j v u J e2=>tr v u (q4 j v u J e2) (Eq I q1 v (cg J)),q5⟩
    ·simp only[lk]at m
     split at m
     ·rename_i he
      simp only[aL]at m;subst m;subst he
      rw[hu];exact .tsl _ _ _ _ c b (by simp[Gh.foc]) hn hm
     ·exact tr v _ (R.regs t' v (ow m)) (bB.1 G _ (ES m))
   ·simp at h
  ·simp at h
 |focC t off live=>
  simp only[iH]at h;split at h
  ·rename_i j o hl
   obtain⟨cs,b1,h⟩:=az.1 h;split at h
   ·rename_i V sz y D z
    split at h
    ·rename_i hc
     obtain⟨ha,hf,G,I,h3⟩:=hc;simp only[aL]at h;subst h
     obtain⟨bj,hbj,_⟩:=fM (R.regs t _ hl);obtain⟨W,arr,e,q1,q2,q3,q4,q5,q6⟩:=R.core.box (j+1) bj hbj;have:W=cs:=by have:=jF.1 b1;rw[q1]at this;simpa using this
     subst this;have holt:o+off<W.length:=(aU.1 z).1;have hjlt:j+1<s.B.length:=(aU.1 q1).1;obtain⟨u0,hu0⟩:∃u0,arr[o+off]?=some u0:=⟨arr[o+off],by simp[show o+off<arr.size by omega]⟩;have O:=dr (q4 _ _ u0 z hu0);have q:g.bx j=none:=by
      cases hb:g.bx j with
      |none=>rfl
      |some b=>obtain⟨h4,x2,e2,z1,_⟩:=R.core.box j b hb;unfold cO at hf;rw[z1]at hf;simp at hf
     obtain⟨b,c,hu,hn,hm,C,tr,core⟩:=foc j ha O q h3;refine⟨g.foc b j,JQ hc0 R C q (core _ (by rw[iM (by rw[lm];omega)]) (fun i Y hi=> ?_)) (fun x hx=>by simp only[Ids.del,aQ]at hx;exact hx.2) rfl (fun t' v m=> ?_)⟩
     ·have c2:j≠i:=fun he=>by rw[<-he,q]at hi;simp at hi
      by_cases hi1:i=j+1
      ·subst hi1
       have h5:Y=bj:=by rw[hbj]at hi;simpa using hi.symm
       subst h5;have F:(s.B.set (j+1) (some (W.set (o+off) (.tsl (b_ y) j sz (D.length+1)))))[j+1]?=some (some (W.set (o+off) (.tsl (b_ y) j sz (D.length+1)))):=by rw[iM hjlt]
       refine⟨_,arr,e,by rw[dK c2];exact F,q2,by rw[lm];exact q3,fun k v u J e2=> ?_,fun v O=> ?_⟩
       ·by_cases hk:k=o+off
        ·subst hk
         rw[iM holt]at J;simp only[aL]at J;subst J
         have:u=u0:=by rw[hu0]at e2;simpa using e2.symm
         rw[this,hu];exact .tsl _ _ _ _ c b (by simp[Gh.foc]) hn hm
        ·have e1':=J
         rw[dK (Ne.symm hk)]at J;exact tr v u (q4 k v u J e2) (Eq I F v (cg e1'))
       ·rcases rY O with O|O
        ·exact q5 v O
        ·subst O
         exact⟨rfl,by rw[fe];simp⟩
      ·obtain⟨h4,x2,e2,z1,z2,z3,z4,z5,z6⟩:=R.core.box i Y hi
       have F:(s.B.set (j+1) (some (W.set (o+off) (.tsl (b_ y) j sz (D.length+1)))))[i]?=some (some h4):=by rw[dK (Ne.symm hi1)];exact z1
       exact⟨h4,x2,e2,by rw[dK c2];exact F,z2,z3,fun k v u J e2=>tr v u (z4 k v u J e2) (Eq I F v (cg J)),z5⟩
     ·exact tr v _ (R.regs t' v (ow m)) (bB.1 G _ (ES m))
    ·simp at h
   ·simp at h
  ·simp at h
 |frzR t L live=>
  simp only[iH]at h;simp only[Gho.low,bu]at hL;split at h
  ·rename_i v hl
   split at h
   ·rename_i hc
    obtain⟨ht,G,I⟩:=hc;obtain⟨d,hd,rfl⟩:=ay.1 h;refine⟨g.raise w L none,KD hc0 hL (fun i hi=>by simp at hi) R (HU R.core (fun i hi=>by simp at hi) (fun i hi=>by rw[eY,aw hi]) (fun i b cs hi=>by simp at hi)) rfl rfl (fun t' v' m=> ?_)⟩;simp only[lk]at m;split at m
    ·rename_i he
     simp only[aL]at m;subst m;subst he
     exact .d _ _ (qGD R.core v d _ (R.regs _ v hl) hd)
    ·exact C4 R.core (R.regs t' v' (ow m)) (uT G m)
   ·simp at h
  ·simp at h
 |frzB t L live=>
  simp only[iH]at h;simp only[Gho.low,bu]at hL;split at h
  ·rename_i i hl
   split at h
   ·rename_i hc
    obtain⟨hLi,ht,G,I⟩:=hc;obtain⟨cs,b1,h⟩:=az.1 h;obtain⟨ds,hds,h⟩:=az.1 h;split at h
    ·rename_i hall
     simp only[aL]at h;subst h
     obtain⟨bi,hbi,hev⟩:=fM (R.regs t _ hl);obtain⟨l1,l2⟩:=wX hds;have htl:(s.B.take L).length=L:=by rw[rO];omega
     refine⟨g.raise w L (some i),KD hc0 hL (fun j M=>by simp at M;omega) R (HU R.core (fun j M=>by simp at M;omega) (fun j M=>by rw[cf (by omega),eY,aw M]) (fun j b h4 M hb hcs2=> ?_)) rfl rfl (fun t' v' m=> ?_)⟩
     ·simp only[aL]at M;subst M
      have:h4=cs:=by have:=jF.1 b1;rw[hcs2]at this;simpa using this
      subst this;refine⟨ds,by rw[cF (by omega),htl];simp,l1,fun d hd=>bB.1 hall d hd,fun k d v u q1 q2 q3 q4=> ?_⟩;obtain⟨v2,q5,q6⟩:=l2 k d q1;rw[q2]at q5;simp only[aL]at q5;subst q5
      exact DD R.core _ v d u q3 (fun j M=>by simp at M;subst M;exact q4) q6
     ·simp only[lk]at m
      split at m
      ·rename_i he
       simp only[aL]at m;subst m;subst he
       rw[hev];exact .ptr _ _ _ (by simp[Gh.raise,hbi])
      ·exact C4 R.core (R.regs t' v' (ow m)) (uT G m)
    ·simp at h
   ·simp at h
  ·simp at h
theorem Q4{gl:Gh}{wl:World}{sl:St}{F:Act}(y:Reach fid p N g0 w0 s0 a0 gl wl sl F)(h:Reach fid p N g0 w0 s0 a0 g w s a)(j:sD sl.B.length live s=some s1):
 Reach fid p N g0 w0 s0 a0 (g.cutB sl.B.length) w s1 a:=by
 unfold sD at j;simp only at j;split at j
 ·rename_i D
  simp at j;subst j;refine⟨h.core.cutB _,⟨fun i b m=> ?_,fun i b m=>h.boxes.new i b (jJ m).2⟩,⟨h.step.os,h.step.tape,h.step.output,h.step.size,⟨h.step.ext.K,h.step.ext.cell,h.step.ext.row⟩,h.step.keep,h.step.new,h.step.org,h.step.arr⟩,fun t v q=> ?_,h.size,h.defers,h.le⟩
  ·have C:=nr y.core (y.boxes.old i b m)
   have z:=h.boxes.old i b m;simp[Gh.cutB,C,z]
  ·exact(A3 h.regs live t v q).cutB (uT D.1 q)
 ·simp at j
def oq(s0:St)(vc:VCode):Prop:=vc.plain=true\/((∀x,s0.A x=false)/\vc.over s0.B.length=true)
theorem MR(G:ie P fid call)(hm:P.follows .mixedOrders=true)(hc0:Core fid g0 w0 s0.B s0.A)(Z:ge g0 p s0.c):∀(vc:VCode) (c:Code) (g:Gh) (w:World) (a:Act) (s s':St) (e:Ex),
 oq s0 vc->b9 P fid N c vc=true->Reach fid p N g0 w0 s0 a0 g w s a->bQ call p n vc s=some (e,s')->
 ∀(Q:Exit->Act->World->Prop),(∀g' w' a',Reach fid p N g0 w0 s0 a0 g' w' s' a'->Q e.toExit a' w')->c.wp P Q a w:=by
 intro vc
 induction vc with
 |ghost x y ih=>
  intro c g w a s s' e q j R C Q D;simp only[b9]at j;simp only[bQ]at C;obtain⟨s1,O,F⟩:=az.1 C;rcases q with q|⟨V,q⟩
  ·simp[VCode.plain]at q
  ·simp only[VCode.over,aQ]at q
   obtain⟨g',R'⟩:=XK hc0 V q.1 R O;exact ih c g' w a s1 s' e (.inr ⟨V,q.2⟩) j R' F Q D
 |regionT na live pre tl=>
  intro c g w a s s' e q j R C Q D;cases c with
  |region id Y J=>
   cases J with
   |false=>cases tl<;>simp[b9]at j
   |true=>simp only[bQ]at C;obtain⟨s1,O,F⟩:=ay.1 C;simp at F;obtain⟨rfl,rfl⟩:=F;exact qzp G hm j R.core R.regs R.size (jn R.step R.le Z) O fun g' a' w' c1 b1 st1 r1 n1 d1 l1=>D g' w' a' (R.trans ⟨c1,b1,st1,r1,n1,d1,l1⟩)
  |_=>cases tl<;>simp[b9]at j
 |skip=>
  intro c g w a s s' e q j R C Q D;cases c with
  |skip=>
   simp[bQ]at C;obtain⟨rfl,rfl⟩:=C
   exact wp_skip (D g w a R)
  |_=>simp[b9]at j
 |ret=>
  intro c g w a s s' e q j R C Q D;cases c with
  |ret=>
   simp[bQ]at C;obtain⟨rfl,rfl⟩:=C
   exact wp_ret (D g w a R)
  |_=>simp[b9]at j
 |exit id=>
  intro c g w a s s' e q j R C Q D;cases c with
  |exit x2=>
   simp[b9]at j;subst j
   simp[bQ]at C;obtain⟨rfl,rfl⟩:=C
   exact wp_exit (D g w a R)
  |_=>simp[b9]at j
 |seq x y c2 x1=>
  intro c g w a s s' e q j R C Q D;have hgx:oq s0 x:=by
   rcases q with q|⟨V,q⟩
   ·simp only[VCode.plain,aQ]at q;exact .inl q.1
   ·simp only[VCode.over,aQ]at q;exact .inr ⟨V,q.1⟩
  have M:oq s0 y:=by
   rcases q with q|⟨V,q⟩
   ·simp only[VCode.plain,aQ]at q;exact .inl q.2
   ·simp only[VCode.over,aQ]at q;exact .inr ⟨V,q.2⟩
  cases c with
  |seq x' X=>
   simp[b9]at j;simp only[bQ]at C;obtain⟨⟨e1,s1⟩,O,F⟩:=az.1 C;refine wp_seq (c2 x' g w a s s1 e1 hgx j.1 R O _ fun g1 w1 I W=> ?_);cases e1 with
   |normal=>simp only at F;show X.wp P Q I w1;exact x1 X g1 w1 I s1 s' e M j.2 W F Q D
   |exit id=>simp at F;obtain⟨rfl,rfl⟩:=F;exact D g1 w1 I W
   |ret=>simp at F;obtain⟨rfl,rfl⟩:=F;exact D g1 w1 I W
  |_=>simp[b9]at j
 |regionF draw na live fs=>
  intro c g w a s s' e q j R C Q D;cases c with
  |region id Y J=>simp[b9]at j;obtain⟨rfl,j⟩:=j;simp only[bQ]at C;obtain⟨s1,O,F⟩:=ay.1 C;simp at F;obtain⟨rfl,rfl⟩:=F;exact NE G hm j R.core R.regs R.size (jn R.step R.le Z) O fun g' a' w' c1 b1 st1 r1 n1 d1 l1=>D g' w' a' (R.trans ⟨c1,b1,st1,r1,n1,d1,l1⟩)
  |_=>simp[b9]at j
 |region draw na live ops=>
  intro c g w a s s' e q j R C Q D;cases c with
  |region id Y J=>simp[b9]at j;obtain⟨rfl,j⟩:=j;simp only[bQ]at C;obtain⟨s1,O,F⟩:=ay.1 C;simp at F;obtain⟨rfl,rfl⟩:=F;exact NE G hm j R.core R.regs R.size (jn R.step R.le Z) O fun g' a' w' c1 b1 st1 r1 n1 d1 l1=>D g' w' a' (R.trans ⟨c1,b1,st1,r1,n1,d1,l1⟩)
  |_=>simp[b9]at j
 |cond x y z x1 a2=>
  intro c g w a s s' e q j R C Q D;have M:oq s0 y:=by
   rcases q with q|⟨V,q⟩
   ·simp only[VCode.plain,aQ]at q;exact .inl q.1
   ·simp only[VCode.over,aQ]at q;exact .inr ⟨V,q.1⟩
  have b2:oq s0 z:=by
   rcases q with q|⟨V,q⟩
   ·simp only[VCode.plain,aQ]at q;exact .inl q.2
   ·simp only[VCode.over,aQ]at q;exact .inr ⟨V,q.2⟩
  cases c with
  |cond x' X z'=>
   simp[b9]at j;obtain⟨⟨hx,hy⟩,hz⟩:=j;simp only[bQ]at C;split at C
   ·rename_i hq
    have:=jq (bG (w:=w) R.regs hx hq);refine wp_cond (t:=true) this ?_;simp only[if_true];exact x1 X g w a s s' e M hy R C Q D
   ·rename_i hq
    have:=jq (bG (w:=w) R.regs hx hq);refine wp_cond (t:=false) this ?_;simp only[bL,if_false];exact a2 z' g w a s s' e b2 hz R C Q D
   ·simp at C
  |_=>simp[b9]at j
 |block id y ih=>
  intro c g w a s s' e q j R C Q D;have M:oq s0 y:=q;cases c with
  |block x2 X=>
   simp[b9]at j;obtain⟨rfl,j⟩:=j;simp only[bQ]at C;obtain⟨⟨e1,s1⟩,O,F⟩:=ay.1 C;refine wp_block (ih X g w a s s1 e1 M j R O _ fun g1 w1 I W=> ?_);split at F
   ·rename_i he
    simp at he;subst he;simp at F;obtain⟨rfl,rfl⟩:=F;simp only[Ex.toExit,Exit.inBlock,if_true];exact D g1 w1 I W
   ·rename_i he
    simp at he F;obtain⟨rfl,rfl⟩:=F;cases e1 with
    |normal=>exact D g1 w1 I W
    |ret=>exact D g1 w1 I W
    |exit id=>
     have:id≠x2:=fun h=>he (by rw[h])
     simp only[Ex.toExit,Exit.inBlock,this,if_false];exact D g1 w1 I W
  |_=>simp[b9]at j
 |loop live y ih=>
  intro c g w a s s' e q j R C Q D;have M:oq s0 y:=q;cases c with
  |loop X=>
   simp[b9]at j;simp only[bQ]at C;have key:∀(m:Nat) (g1:Gh) (w1:World) (I:Act) (s1:St),Reach fid p N g0 w0 s0 a0 g1 w1 s1 I->jP (bQ call p n y) s.B.length live m s1=some (e,s')->Code.rounds P X Q m I w1:=by
    intro m
    induction m with
    |zero=>intro g1 w1 I s1 _ h;simp[jP]at h
    |succ m x3=>
     intro g1 w1 I s1 W h;simp only[jP]at h;obtain⟨s2,F,h3⟩:=az.1 h;obtain⟨⟨e3,s3⟩,h4,h5⟩:=az.1 h3;have R2:=Q4 R W F;rw[rounds_succ];refine ih X _ w1 I s2 s3 e3 M j R2 h4 _ fun g3 w3 a3 R3=> ?_
     cases e3 with
     |normal=>exact x3 g3 w3 a3 s3 R3 h5
     |exit id=>simp at h5;obtain⟨rfl,rfl⟩:=h5;exact D g3 w3 a3 R3
     |ret=>simp at h5;obtain⟨rfl,rfl⟩:=h5;exact D g3 w3 a3 R3
   exact wp_loop_rounds n (key n g w a s R C)
  |_=>simp[b9]at j
theorem mt(h:ie P fid call)(C:P.follows .mixedOrders=true)(vc:VCode)(q:vc.plain=true)(c:Code)(g:Gh)(w:World)(a:Act)(s s':St)(e:Ex)
 (j:b9 P fid N c vc=true) (hc:Core fid g w s.B s.A) (D:qdc fid g w s.r a.tmps) (z:a.tmps.size=N) (m:ge g p s.c) (y:bQ call p n vc s=some (e,s'))
 (Q:Exit->Act->World->Prop) (F:∀g' w' a',Reach fid p N g w s a g' w' s' a'->Q e.toExit a' w'):c.wp P Q a w:=
 MR h C hc m vc c g w a s s' e (.inl q) j (.refl hc D z) y Q F
end
variable{fn:Func}
section
variable {P:Program} {fid:Nat->FuncId}
def pW(tmps:cA):ResultVar->Sem Value
 | .tmp t=>pure (tmps.getD t undef)
 | .cell a t=>do loadVar t (<-asAddr (tmps.getD a undef))
theorem uo(hc:Core fid g w s.B s.A)(I:qdc fid g w s.r tm):∀(l:List ResultVar) (rs:fK) (vs:aA),iB P l rs=true->jS s rs=some vs->
 ∃us:bW,(l.mapM (pW tm)).run P w= .ok us w/\us.length=vs.length/\∀(j:Nat) (v:AV) (u:Value),vs[j]?=some v->us[j]?=some u->AVR fid g w v u
 | [],[],vs,_,h=>by
  simp[jS]at h;subst h
  exact⟨[],by simp,rfl,fun j v u h=>by simp at h⟩
 |x::l,y::rs,vs,m,h=>by
  simp only[jS]at h;obtain⟨v,z,O⟩:=az.1 h;obtain⟨M,W,rfl⟩:=ay.1 O;have step:∃u,(pW tm x).run P w= .ok u w/\AVR fid g w v u/\iB P l rs=true:=by
   cases x with
   |tmp t=>
    cases y with
    |tmp F=>simp[iB]at m;obtain⟨rfl,m⟩:=m;simp only[jU]at z;exact⟨tm.getD t undef,by simp[pW],I t v z,m⟩
    |cell F ag sz=>simp[iB]at m
   |cell t ty=>
    cases y with
    |tmp F=>simp[iB]at m
    |cell F ag sz=>
     simp[iB]at m;obtain⟨⟨⟨rfl,ha⟩,hs⟩,m⟩:=m;simp only[jU]at z;split at z
     ·rename_i i off V
      obtain⟨blk,X,Z⟩:=fM (I t _ V);obtain⟨u,q,G,J⟩:=LB hc X z;refine⟨u,?_,q,m⟩;have:=EQ (P:=P) (w:=w) (ad:=⟨blk,off,none⟩) (u:=u) ha hs G J;unfold pW;simp only[Sem.run_bind];rw[Z];simp[asAddr,this]
     ·simp at z
  obtain⟨u,R,r2,C⟩:=step;obtain⟨us,r3,r4,Y⟩:=uo hc I l rs M C W;refine⟨u::us,?_,by simp[r4],fun j v' u' D q=> ?_⟩
  ·simp[List.mapM_cons,R,r3]
  ·cases j with
   |zero=>simp at D q;subst D;subst q;exact r2
   |succ j=>simp at D q;exact Y j v' u' D q
 | [],_::_,_,h,_=>by simp[iB]at h
 |x::_,[],_,h,_=>by cases x<;>simp[iB]at h
def xR:bW->Value
 | [u]=>u
 |us=> .tuple us.toArray
theorem Pq(fn:Func)(tm:cA):results fn tm=(do
 let vs<-fn.results.mapM (pW tm)
 pure (if h:vs.size=1 then vs[0]else .tuple vs)):=by
 unfold results
 congr 2
theorem Am{us:bW}(h:(fn.results.toList.mapM (pW tm)).run P w= .ok us w):
 (results fn tm).run P w= .ok (xR us) w:=by
 rw[Pq,Array.mapM_eq_mapM_toList];simp only[Sem.run_bind,h,map_eq_pure_bind,Result.andThen_ok,Sem.run_pure]
 match us with
 | []=>simp[xR]
 | [u]=>simp[xR]
 |u::v::r=>simp[xR]
theorem q_{rs:fK}{r:Res}(hc0:Core fid g0 w0 s0.B s0.A)(hfr:ge g0 p s0.c)(h:Reach fid p N g0 w0 s0 a0 g w s a)
 (a2:iB P fn.results.toList rs=true) (X:finish s0.B.length p s rs=some r):
 ∃u,(results fn a.tmps).run P w= .ok u w/\∃g',Post fid (from_ p 0) g0 w0 s0.A r u g' w:=by
 have hfr':=jn h.step h.le hfr;have m:Step (from_ p 0) g0 w0 s0.A g w s.A:=h.step.weaken fun x ⟨q,j,h1,h2,h3⟩=>⟨q,j,db _,h3⟩
 have D:Boxes g0 w0 (g.cutB s0.B.length):=⟨fun i b hb=>by have h1:=nr hc0 hb;have h2:=h.boxes.old i b hb;simp[Gh.cutB,h1,h2],fun i b hb=>h.boxes.new i b (jJ hb).2⟩
 have G:Step (from_ p 0) g0 w0 s0.A (g.cutB s0.B.length) w s.A:=⟨m.os,m.tape,m.output,m.size,⟨m.ext.K,m.ext.cell,m.ext.row⟩,m.keep,m.new,m.org,m.arr⟩;have Z:ExtV g w (g.cutB s0.B.length) w:=⟨fun _=>bf _,fun _ _=>rfl,fun _ _ h=>h⟩;unfold finish at X;split at X
 ·
  rename_i v hv;simp at X;subst X
  obtain⟨us,r1,r2,r3⟩:=uo h.core h.regs _ _ _ a2 hv
  match us,r2 with
  | [u],_=>refine⟨u,Am r1,g.cutB s0.B.length,AVR.data fid Z (r3 0 _ u rfl rfl),h.core.cutB _,D,G⟩
 ·
  rename_i i off hv;simp at X;subst X
  obtain⟨us,r1,r2,r3⟩:=uo h.core h.regs _ _ _ a2 hv
  match us,r2 with
  | [u],_=>exact⟨u,Am r1,g,r3 0 _ u rfl rfl,h.core,h.boxes,m⟩
 ·
  rename_i idb agg i sz n hv;split at X
  ·rename_i hL
   obtain⟨hLi,hn63⟩:=hL;obtain⟨cs,h1,h2⟩:=az.1 X;obtain⟨avs,h3,h4⟩:=az.1 h1;split at h2
   ·rename_i hlen
    obtain⟨xs,h5,rfl⟩:=ay.1 h2;obtain⟨us,r1,r2,r3⟩:=uo h.core h.regs _ _ _ a2 hv
    match us,r2 with
    | [u],_=>
     have hu:=r3 0 _ u rfl rfl;refine⟨u,Am r1,?_⟩;cases hu with
     |bsl _ _ _ _ _ b hb=>
      obtain⟨bcs,arr,e,b1,b2,b3,b4,b5,b6⟩:=h.core.box i b hb;have hbcs:avs=bcs:=by have:=jF.1 h3;rw[b1]at this;simp at this;exact this.symm
      subst hbcs;have x1:=gu h4;have hbnew:w0.heap.size<=b:=by
       rcases h.boxes.new i b hb with R|R
       ·have:=nr hc0 R;omega
       ·exact R
      have x2:g.row (s.c::p)=none:=by have:=hfr' [] s.c (bf _);simpa using this
      have M:∀V,(g.cutB s0.B.length).bx V≠some b:=fun V R=>by obtain⟨h7,h8⟩:=jJ R;have:=h.core.inj i V b hb h8;omega
      have hE:ExtV g w {K:=fun x=>if x=b then n*sz else g.K x,row:=fun a=>if a=s.c::p then some (b,n,n,sz)else g.row a,bx:=(g.cutB s0.B.length).bx} w:=by
       refine⟨fun x=> ?_,fun _ _=>rfl,fun a x C=> ?_⟩
       ·simp only;split
        ·rename_i C;rw[C,b6];exact db _
        ·exact bf _
       ·simp only
        rw[au (fun J=>by rw[J,x2]at C;simp at C)];exact C
      have hE2:Ext (g.cutB s0.B.length) w {K:=fun x=>if x=b then n*sz else g.K x,row:=fun a=>if a=s.c::p then some (b,n,n,sz)else g.row a,bx:=(g.cutB s0.B.length).bx} w:=⟨⟨hE.K,hE.cell,hE.row⟩,fun _ _ h=>h⟩;have Y:∀v:DV,v∈cs->v.isCell=true:=fun v hvm=>by have:=(b5 (.d v) (by rw[x1];exact List.mem_map_of_mem hvm)).1;exact this
      obtain⟨c1,c2⟩:=v7 Y h5;have hal:n*sz<=arr.size:=by rw[x1]at b3;simpa[hlen]using b3
      refine⟨{K:=fun x=>if x=b then n*sz else g.K x,row:=fun a=>if a=s.c::p then some (b,n,n,sz)else g.row a,bx:=(g.cutB s0.B.length).bx},?_,⟨fun V I R=> ?_,fun i1 i2 I R h7=> ?_,fun x C=> ?_,fun x x' I y y' C O a1 a3=> ?_,fun I W=> ?_⟩,⟨D.old,D.new⟩,⟨m.os,m.tape,m.output,m.size,m.ext.trans hE,fun I W hx1 hx2=> ?_,fun x C=> ?_,fun x I C W=> ?_,m.arr⟩⟩
      ·have key:VR {K:=fun x=>if x=b then n*sz else g.K x,row:=fun a=>if a=s.c::p then some (b,n,n,sz)else g.row a,bx:=(g.cutB s0.B.length).bx} w (.sl (.own (s.c::p) sz) xs) (.slice (some ⟨b,0,none⟩) xs.length xs.length):=by
        refine .row _ xs ⟨b,0,none⟩ xs.length sz (fun k=>arr.getD k undef) (by simp) (bf _) (by rw[c1];unfold maxLen;omega) (fun k hk=> ?_) (.inr (by simp[c1])) (fun V x C=>⟨(c2 V x C).1,(c2 V x C).2.1⟩) (fun V x j v C hj=> ?_) (fun a' sz' ht=> ?_)
        ·rw[lY]
         have:k<arr.size:=by rw[c1]at hk;omega
         simp[World.cell?,b2,bZ,this]
        ·have R:=(c2 V x C).2.2 j v hj
         have h7:(V*sz+j)<arr.size:=by have:=(aU.1 R).1;omega
         have h8:=b4 (V*sz+j) (.d v) (arr[V*sz+j]) (by rw[x1];simp[R]) (by simp[h7]);have h9:=dr h8;simp[bZ,h7];exact h9.mono hE
        ·simp at ht
         obtain⟨rfl,rfl⟩:=ht;refine⟨rfl,rfl,rfl,?_,fun h=>by simp[h]⟩;simp[c1]
       rw[c1]at key;exact .d _ _ key
      ·obtain⟨h7,h8⟩:=jJ R
       obtain⟨cs',arr',e',d1,d2,d3,d4,d5,d6⟩:=(h.core.cutB s0.B.length).box V I R;have F:I≠b:=fun J=>by rw[J]at R;exact M V R
       refine⟨cs',arr',e',d1,d2,d3,fun j v u q1 q2=>(d4 j v u q1 q2).mono fid hE2,d5,?_⟩;simp only[au F];exact d6
      ·exact(h.core.cutB s0.B.length).inj i1 i2 I R h7
      ·simp only[Ids.add,cI,bu]at C
       rcases C with rfl|C
       ·exact⟨b,n,n,sz,arr,e,by simp,b2,hal,by simp,bf _,M⟩
       ·obtain⟨I,n',c',sz',arr',e',o1,o2,o3,o4,o5,o6⟩:=h.core.opn x C
        have F:I≠b:=fun J=>o6 i (by rw[J];exact hb)
        have hnx:x≠s.c::p:=fun J=>by rw[J,x2]at o1;simp at o1
        exact⟨I,n',c',sz',arr',e',by simp only[au hnx];exact o1,o2,o3,by simp only[au F];exact o4,o5,fun V R=>o6 V (jJ R).2⟩
      ·simp only[Ids.add,cI,bu]at C O
       have old:∀z y,s.A z=true->(if z=s.c::p then some (b,n,n,sz)else g.row z)=some (I,y)->z≠s.c::p/\I≠b/\g.row z=some (I,y):=by
        intro z y hz x3;obtain⟨b2',n',c',sz',arr',e',o1,o2,o3,o4,o5,o6⟩:=h.core.opn z hz;have hnz:z≠s.c::p:=fun J=>by rw[J,x2]at o1;simp at o1
        rw[au hnz]at x3;refine⟨hnz,fun J=> ?_,x3⟩;rw[o1]at x3;simp at x3;exact o6 i (by rw[x3.1,J];exact hb)
       rcases C with rfl|C
       ·rcases O with rfl|O
        ·rfl
        ·obtain⟨_,z2,_⟩:=old x' y' O a3
         simp at a1;exact absurd a1.1.symm z2
       ·rcases O with rfl|O
        ·obtain⟨_,z2,_⟩:=old x y C a1
         simp at a3;exact absurd a3.1.symm z2
        ·exact h.core.apart x x' I y y' C O (old x y C a1).2.2 (old x' y' O a3).2.2
      ·have F:I≠b:=fun J=>by
        have:=h.core.lt hb;omega
       simp only[au F];exact h.core.K0 I W
      ·have F:I≠b:=by omega
       simp only[au F];exact m.keep I W hx1 hx2
      ·by_cases J:x=s.c::p
       ·exact⟨[],s.c,db _,by simpa using J⟩
       ·simp only[au J]at C
        exact m.new x C
      ·simp only[Ids.add,cI,bu]at C
       by_cases J:x=s.c::p
       ·simp[Gh.blk,J]at W
        exact .inl (by omega)
       ·rcases C with C|C
        ·exact absurd C J
        ·simp only[Gh.blk,au J]at W
         exact m.org x I C (by simpa[Gh.blk]using W)
   ·simp at h2
  ·simp at X
 ·simp at X
 ·
  rename_i vs hnd hnp hnb hn1 hv;obtain⟨ds,x1,rfl⟩:=ay.1 X;obtain⟨us,r1,r2,r3⟩:=uo h.core h.regs _ _ _ a2 hv;have hd:=gu x1;have F:∀u,us≠[u]:=fun u hu=>by
   rw[hu]at r2
   match vs,r2 with
   | [v],_=>exact hn1 v rfl
  refine⟨.tuple us.toArray,?_,g.cutB s0.B.length,AVR.data fid Z (.d _ _ (.tup ds us.toArray (by simp[r2,hd]) fun j v u q1 q2=> ?_)),h.core.cutB _,D,G⟩
  ·rw[Am r1]
   match us,F with
   | [],_=>rfl
   | [u],F=>exact absurd rfl (F u)
   |_::_::_,_=>rfl
  ·exact dr (r3 j (.d v) u (by rw[hd];simp[q1]) (by simpa using q2))
 ·simp at X
end
variable{f:Nat}
section
variable {P:Program} {fid:Nat->FuncId}
def iT(P:Program)(fid:Nat->FuncId)(k:Nat)(f:Id->aA->og):Prop:=
 my P (fid k)/\∀p args v A,(aV args).isSome->f p args=some (v,A)->∀g w (us:cA),us.size=args.length->(∀(j:Nat) (v:AV) (u:Value),args[j]?=some v->us[j]?=some u->AVR fid g w v u)->
  Core fid g w [] Ids.none->ge g p 0->Calls P (fid k) us w fun e w'=>∃u g',e= .returned u/\Post fid (from_ p 0) g w Ids.none ⟨.d v,A,[]⟩ u g' w'
def wL(P:Program)(fid:Nat->FuncId)(k:Nat)(sf:SFn):Prop:=∀call n,ie P fid call->iT P fid k (fun p args=>(aV args).bind (mO call n p sf))
structure EnvOK(P:Program)(fid:Nat->FuncId)(E:Env):Prop where
 code:∀k vf,E.nat k=none->E.code k=some vf->∃fn,P.funcs[fid k]?=some fn/\qu P fid fn vf=true
 nat:∀k f,E.nat k=some f->iT P fid k f
 spec:∀k sf,E.spec k=some sf->wL P fid k sf
 mixed:P.follows .mixedOrders=true
 base:∀k vf,E.code k=some vf->L6 (E.base k) vf.code=true
theorem Ev:∀(args:aA) (i t:Nat) (v:AV),lk (bo i args) t=some v->i<=t/\args[t-i]?=some v
 | [],i,t,v,h=>by simp[bo,lk]at h
 |x::xs,i,t,v,h=>by
  simp only[bo,lk]at h;split at h
  ·rename_i j
   simp at h;subst h;subst j
   simp
  ·rename_i j
   obtain⟨q,m⟩:=Ev xs (i+1) t v h;refine⟨by omega,?_⟩;rw[show t-i=(t-(i+1))+1 by omega];simpa using m
theorem GY{args:aA}{D:Ids}{fn:Id->aA->og}(R:iT P fid f fn)(J:(aV args).isSome)(V:fn p args=some (v,D)):
 my P (fid f)/\∀g w (us:cA),us.size=args.length->(∀(j:Nat) (v:AV) (u:Value),args[j]?=some v->us[j]?=some u->AVR fid g w v u)->
 Core fid g w B A->ge g p 0->Calls P (fid f) us w fun e w'=>∃u g',e= .returned u/\Post fid (from_ p 0) g w A ⟨.d v,Ids.or D A,B⟩ u g' w':=by
 obtain⟨ds,F⟩:=oU.1 J;obtain⟨X,q2⟩:=R;refine⟨X,fun g w us C y hcore I=> ?_⟩;have Z:=gu F;have M:ExtV g w (g.cutB 0) w:=⟨fun _=>bf _,fun _ _=>rfl,fun _ _ h=>h⟩;have m:=q2 p args v D J V (g.cutB 0) w us C (fun j x u z G=>by
  have h6:=y j x u z G;have:∃d,x= .d d:=by rw[Z]at z;simp at z;obtain⟨d,_,rfl⟩:=z;exact⟨d,rfl⟩
  obtain⟨d,rfl⟩:=this;exact AVR.data fid M h6) (by
  have G:=(hcore.cutB 0).sub (A':=Ids.none) (fun x W=>by simp[Ids.none]at W);simpa using G) (fun q j O=>by have:=I q j O;simpa[Gh.cutB]using this)
 refine m.mono fun e w' ⟨u,g',Y,hp⟩=> ?_
 obtain⟨g2,c2,b2,s2,e2,v2⟩:=HJ hcore rfl hp;exact⟨u,g2,Y,v2,c2,b2,s2⟩
theorem Mk{E:Env}(hE:EnvOK P fid E):∀n,ie P fid (eg E n):=by
 intro n
 induction n with
 |zero=>intro p f args B A r h;simp[eg]at h
 |succ n ih=>
  intro p f args B A r h;simp only[eg]at h;split at h
  ·rename_i fn hn
   obtain⟨ds,J,y⟩:=az.1 h;obtain⟨⟨v,A1⟩,D,rfl⟩:=ay.1 y;exact GY (hE.nat f fn hn) (by simp[J]) D
  ·rename_i hn
   split at h
   ·split at h
    ·simp at h
    rename_i sf hs;obtain⟨ds,J,y⟩:=az.1 h;obtain⟨⟨v,A1⟩,D,rfl⟩:=ay.1 y;exact GY (hE.spec f sf hs (eg E n) n ih) (by simp[J]) (by simp only[J,a9];exact D)
   rename_i vf Z;split at h
   ·simp at h
   rename_i h5;obtain⟨fn,O,Y⟩:=hE.code f vf hn Z;have j:=hE.base f vf Z;simp only[qu,aQ,bu,fT]at Y;obtain⟨⟨⟨hb,I⟩,a3⟩,V⟩:=Y;split at hb
   ·rename_i c z
    refine⟨⟨fn,O,V,by simp[z]⟩,fun g w us x2 h4 hcore C=> ?_⟩;have F:qdc fid g w (bo 0 args) (us++Array.replicate (fn.ntmps-us.size) undef):=fun t v hv=>by
     obtain⟨_,D⟩:=Ev args 0 t v hv;simp at D;have W:t<us.size:=by rw[x2];exact(aU.1 D).1
     have:(us++Array.replicate (fn.ntmps-us.size) undef).getD t undef=us[t]:=by simp[bZ,kN W,W]
     rw[this];exact h4 t v _ D (by simp[W])
    have G:(us++Array.replicate (fn.ntmps-us.size) undef).size=fn.ntmps:=by
     simp at h5⊢
     omega
    split at h
    ·rename_i a2
     rw[a2]at j;obtain⟨⟨e,s'⟩,J,y⟩:=az.1 h;refine calls_of_wp O z (mt (N:=fn.ntmps) ih hE.mixed vf.code j c g w _ ⟨bo 0 args,B,A,0⟩ s' e hb hcore F G C J _ fun g' w' a' R=> ?_);cases e with
     |exit id=>simp at y
     |normal=>simp only at y;obtain⟨u,M,g2,X⟩:=q_ hcore C R I y;exact bodyPost_end M R.defers ⟨u,g2,rfl,X⟩
     |ret=>simp only at y;obtain⟨u,M,g2,X⟩:=q_ hcore C R I y;exact bodyPost_ret M R.defers ⟨u,g2,rfl,X⟩
    ·rename_i m x3
     rw[x3]at j;split at h
     ·simp at h
     rename_i a1;have x1:B.length=m:=by simpa using a1
     obtain⟨⟨e,s'⟩,J,y⟩:=az.1 h;have hc0:Core fid g w B Ids.none:=hcore.sub (fun x hx=>by simp[Ids.none]at hx);refine calls_of_wp O z (MR (N:=fn.ntmps) (s0:=⟨bo 0 args,B,Ids.none,0⟩) (a0:=⟨us++Array.replicate (fn.ntmps-us.size) undef,[]⟩) ih hE.mixed hc0 C vf.code c g w _ ⟨bo 0 args,B,Ids.none,0⟩ s' e (.inr ⟨fun _=>rfl,by rw[x1];exact j⟩) hb (.refl hc0 F G) J _ fun g' w' a' R=> ?_);cases e with
     |exit id=>simp at y
     |normal=>simp only at y;obtain⟨q,D,rfl⟩:=ay.1 y;obtain⟨u,M,g2,X⟩:=q_ hc0 C R I D;exact bodyPost_end M R.defers ⟨u,g2,rfl,I3 hcore X⟩
     |ret=>simp only at y;obtain⟨q,D,rfl⟩:=ay.1 y;obtain⟨u,M,g2,X⟩:=q_ hc0 C R I D;exact bodyPost_ret M R.defers ⟨u,g2,rfl,I3 hcore X⟩
   ·simp at hb
theorem SY{E:Env}(hE:EnvOK P fid E):ie P fid (qo E):=by intro p f args B A r h;obtain⟨n,j⟩:=JY.1 h;exact Mk hE n p f args B A r j
end
variable{l:List Oper}{d:Bool}{xr:al}
section
variable {P:Program} {fid:Nat->FuncId}
theorem ZX{I:World}(q:∀a x,g.row a=some x->g2.row a=some x)(h:VR g w v u)(y:v.flat=true):VR g2 I v u:=by
 cases h with
 |int k n=>exact .int k n
 |bool b=>exact .bool b
 |str s=>exact .str s
 |agg cs us W hc C=>simp[DV.flat]at y
 |tup cs us W C=>simp[DV.flat]at y
 |nil=>exact .nil
 |row t xs ad c s U G V Y z Z hc C m=>
  cases xs with
  |cons x r=>simp[DV.flat]at y
  |nil=>refine .row t [] ad c s U G V Y (fun k D=>by simp at D) (.inl (by simp)) (fun i x h=>by simp at h) (fun i x j v h=>by simp at h) (fun a sz X=> ?_);obtain⟨J,R,F,O,M⟩:=m a sz X;exact⟨J,R,F,q _ _ O,M⟩
theorem m7{c:Code}{a b:VCode}(h:b9 P fid N c (.seq a b)=true):∃x y,c= .seq x y/\b9 P fid N x a=true/\b9 P fid N y b=true:=by
 cases c with
 |seq x y=>simp[b9]at h;exact⟨x,y,rfl,h.1,h.2⟩
 |_=>simp[b9]at h
theorem VO{c:Code}{x:VX}{a b:VCode}(h:b9 P fid N c (.cond x a b)=true):∃o y z,c= .cond o y z/\bM fid o x=true/\b9 P fid N y a=true/\b9 P fid N z b=true:=by
 cases c with
 |cond o y z=>simp[b9]at h;exact⟨o,y,z,rfl,h.1.1,h.1.2,h.2⟩
 |_=>simp[b9]at h
theorem Fx{c:Code}(h:b9 P fid N c (.region false na live vs)=true):∃id ops,c= .region id ops false/\ee P fid N ops false ops.toList vs=true:=by
 cases c with
 |region id ops d=>simp[b9]at h;obtain⟨rfl,h⟩:=h;exact⟨id,ops,rfl,h⟩
 |_=>simp[b9]at h
theorem sd{v:VOper}(h:ee P fid N ops d l (v::vs)=true):∃o os,l=o::os/\il P fid N ops o v=true/\ee P fid N ops d os vs=true:=by
 cases l with
 |nil=>simp[ee]at h
 |cons o os=>simp only[ee,aQ]at h;exact⟨o,os,rfl,h.1.1.1,h.2⟩
theorem M9(h:ee P fid N ops d l []=true):l=[]:=by
 cases l with
 |nil=>rfl
 |cons o os=>simp[ee]at h
theorem uz{os:List Oper}(h:if Region.wanted o (yielded ops a.tmps)then o.wp P a w (wpList P ops Q os) Q else wpList P ops Q os (a.put o.dst undef) w):wpList P ops Q (o::os) a w:=by
 unfold wpList;split
 ·rename_i j
  rw[aw j]at h;exact .inl h
 ·rename_i j
  rw[au j]at h;exact h
theorem CP{a b:VCode}(h:bQ call p n (.seq a b) s=some (.normal,s')):∃s1,bQ call p n a s=some (.normal,s1)/\bQ call p n b s1=some (.normal,s'):=by
 simp only[bQ]at h;obtain⟨⟨e,s1⟩,m,j⟩:=az.1 h;cases e with
 |normal=>exact⟨s1,m,j⟩
 |exit id=>simp at j
 |ret=>simp at j
theorem qtt{y:DV×DV}(h:po s=some y):∃z q j m,lk s.r 3=some (.ptr 0 0)/\lk s.r 4=some (.ptr 1 0)/\s.B=[some [.d y.1,.d y.2,z],some [.d q,.d j,.d m]]/\
 y.1.flat=true/\y.2.flat=true/\q.flat=true/\j.flat=true/\m.flat=true/\y.1.isCell=true/\y.2.isCell=true:=by
 unfold po at h;split at h
 ·rename_i V R M q j m G F e3
  split at h
  ·rename_i hc
   simp only[aL]at h;subst h
   simp only[aQ]at hc;obtain⟨⟨⟨⟨⟨⟨c1,z⟩,D⟩,C⟩,J⟩,O⟩,I⟩:=hc;exact⟨M,q,j,m,G,F,e3,c1,z,D,C,J,O,I⟩
  ·simp at h
 ·simp at h
theorem qzg{sf:SFn}{a:Id}{r:al×Ids}(h:lM call p sf A a x xr=some r):
 ∃l v q cs m,DV.namess (x::xr)=some l/\A a=true/\(∀b,b∈l->A b=true)/\a∉l/\
  call p sf.srt [.tsl true 0 x.cells.length (xr.length+1),.fn sf.cmp []] [some (((x::xr).flatMap DV.cells).map .d)] (fun b=>l.contains b)=some ⟨v,q,[some cs]⟩/\
  aV cs=some m/\m.length=(xr.length+1)*x.cells.length/\chunks true x.cells.length (xr.length+1) m=some r.1/\r.2=Ids.add a q:=by
 unfold lM at h;obtain⟨l,F,j⟩:=az.1 h;split at j
 ·rename_i hc
  split at j
  ·rename_i v q cs I
   obtain⟨m,C,y⟩:=az.1 j;split at y
   ·rename_i z
    obtain⟨J,G,rfl⟩:=ay.1 y;exact⟨l,v,q,cs,m,F,hc.1,fun b D=>bB.1 hc.2.1 b D,by simpa using hc.2.2,I,C,z,G,rfl⟩
   ·simp at y
  ·simp at j
 ·simp at j
theorem Tx{rs:fK}{r:Res}(h:finish 0 p s rs=some r)(m:r.v= .d v):r.B=[]:=by
 unfold finish at h;split at h
 ·simp at h;subst h;rfl
 ·simp at h;subst h;simp at m
 ·split at h
  ·obtain⟨cs,q,j⟩:=az.1 h
   split at j
   ·obtain⟨xs,_,rfl⟩:=ay.1 j;rfl
   ·simp at j
  ·simp at h
 ·simp at h
 ·obtain⟨ds,_,rfl⟩:=ay.1 h;rfl
 ·simp at h
theorem Om(h:ie P fid call)(y:ge g0 p s0.c)(R:Reach fid p N g0 w0 s0 a0 g w s a)
 (m:il P fid N ops o vo=true) (M:dW call p false s.B.length 0 vo s=some s') {K:Act->World->Prop}
 (J:∀g' w' u,Reach fid p N g0 w0 s0 a0 g' w' {s' with c:=s.c+1} (a.put o.dst u)->(∀(b:Nat) (c:cA) (e:TypeId) (z:Nat×Nat),w.heap[b]?=some (Obj.cells c e z)->∃c':cA,w'.heap[b]?=some (Obj.cells c' e z)/\c'.size=c.size)->
  (∀i b,g.bx i=some b->g'.bx i=some b)->(∀b x,g.row b=some x->g'.row b=some x)->K (a.put o.dst u) w'):
 if Region.wanted o (yielded ops a.tmps)then o.wp P a w K Q else K (a.put o.dst undef) w:=by
 have I:=jn R.step R.le y;refine BK h R.core R.regs R.size (fun q=>I q _ (by omega)) m M K Q (fun g' w' u c1 C st1 D=> ?_);refine J g' w' u ⟨c1,R.boxes.trans R.step.size C,?_,D,by rw[gK];exact R.size,by rw[put_defers];exact R.defers,by have:=R.le;simp only;omega⟩ st1.arr C.old st1.ext.row;exact(R.step.weaken fun x ⟨q,j,O,V,F⟩=>⟨q,j,O,by simp only;omega,F⟩).trans R.boxes (st1.weaken fun x ⟨q,G⟩=>⟨q,s.c,R.le,by simp only;omega,by simpa using G⟩)
theorem qPi{gc:Gh}(hK:∀x,x≠b->gc.K x=g.K x)(I:gc.row=g.row)(hA:∀x c,A x=true->g.row x=some c->c.1≠b)(h:VR g w v u):
 ∀l,v.names=some l->(∀x,x∈l->A x=true)->VR gc w v u:=by
 induction h with
 |int k n=>intro _ _ _;exact .int k n
 |bool b=>intro _ _ _;exact .bool b
 |str s=>intro _ _ _;exact .str s
 |agg cs us hs hc q Z=>
  intro l C m;simp only[DV.names]at C;have key:∀(cs:al) (l:eq),DV.namess cs=some l->(∀x,x∈l->A x=true)->∀v,v∈cs->∃l',v.names=some l'/\∀x,x∈l'->A x=true:=by
   intro cs
   induction cs with
   |nil=>intro l _ _ v q;simp at q
   |cons c r O=>
    intro l C m v q;simp only[DV.namess]at C;obtain⟨Y,D,G⟩:=az.1 C;obtain⟨X,V,rfl⟩:=ay.1 G;rcases bK.1 q with rfl|q
    ·exact⟨Y,D,fun x J=>m x (by simp[J])⟩
    ·exact O X V (fun x J=>m x (by simp[J])) v q
  refine .agg cs us hs hc fun j v u R hu=> ?_
  obtain⟨l',D,G⟩:=key cs l C m v (cg R);exact Z j v u R hu l' D G
 |tup cs us hs q Z=>intro l C;simp[DV.names]at C
 |nil=>intro _ _ _;exact .nil
 |row t xs ad c s U ht C hm M x3 hc q F Z=>
  intro l hn m;cases xs with
  |nil=>refine .row t [] ad c s U ht C hm (fun k hk=>by simp at hk) (.inl (by simp)) (fun i x h=>by simp at h) (fun i x j v h=>by simp at h) (fun a sz ha=> ?_);rw[I];exact F a sz ha
  |cons x r=>
   cases t with
   |nil=>exact absurd rfl ht
   |sub=>simp[DV.names]at hn
   |own a sz=>
    simp only[DV.names]at hn;obtain⟨Y,D,rfl⟩:=ay.1 hn;obtain⟨o1,o2,o3,o4,o5⟩:=F a sz rfl;have x2:ad.block≠b:=hA a _ (m a (by simp)) o4;have key:∀(cs:al) (l:eq),DV.namess cs=some l->(∀x,x∈l->A x=true)->∀v,v∈cs->∃l',v.names=some l'/\∀x,x∈l'->A x=true:=by
     intro cs
     induction cs with
     |nil=>intro l _ _ v q;simp at q
     |cons c r O=>
      intro l C m v q;simp only[DV.namess]at C;obtain⟨Y,D,G⟩:=az.1 C;obtain⟨X,V,rfl⟩:=ay.1 G;rcases bK.1 q with rfl|q
      ·exact⟨Y,D,fun x J=>m x (by simp[J])⟩
      ·exact O X V (fun x J=>m x (by simp[J])) v q
    have W:∀(v:DV) (l:eq),v.names=some l->(∀x,x∈l->A x=true)->∀c,c∈v.cells->∃l',c.names=some l'/\∀x,x∈l'->A x=true:=by
     intro v l D G c hc;cases v with
     |agg cs=>simp only[DV.names]at D;exact key cs l D G c hc
     |_=>simp only[DV.cells,bO]at hc;subst hc;exact⟨l,D,G⟩
    refine .row _ _ ad c s U ht C hm M (by rw[hK _ x2];exact x3) hc (fun i y j v hy R=> ?_) (fun a' x1 ha=>by rw[I];exact F a' x1 ha);obtain⟨l',G,V⟩:=key (x::r) Y D (fun z hz=>m z (by simp[hz])) y (cg hy);obtain⟨X,h4,h5⟩:=W y l' G V v (cg R);exact Z i y j v hy R X h4 h5
theorem CI:∀(xs:al),(∀x,x∈xs->x.cells.length=sz)->∀k v,(xs.flatMap DV.cells)[k]?=some v->∃i x j,xs[i]?=some x/\x.cells[j]?=some v/\k=i*sz+j/\j<sz
 | [],_,k,v,h=>by simp at h
 |x::r,m,k,v,h=>by
  simp only[eI]at h;have z:=m x (by simp)
  by_cases F:k<sz
  ·rw[cf (by omega)]at h
   exact⟨0,x,k,rfl,h,by simp,F⟩
  ·rw[cF (by omega),z]at h
   obtain⟨i,y,j,C,q,I,G⟩:=CI r (fun y D=>m y (by simp[D])) _ _ h;exact⟨i+1,y,j,by simpa using C,q,by rw[dF];omega,G⟩
theorem H3:∀(xs:al),(∀x,x∈xs->x.cells.length=sz)->(xs.flatMap DV.cells).length=xs.length*sz
 | [],_=>by simp
 |x::r,h=>by simp only[eI,ek,de,h x (by simp),H3 r (fun y j=>h y (by simp[j]))];rw[dF];omega
end
section
variable {P:Program} {fid:Nat->FuncId}
theorem ZZ{rs:fK}(M:s0.B=[])(J:s0.A=Ids.none)(F:a0.defers=[])(hc0:Core fid g0 w0 s0.B s0.A)(C:ge g0 p s0.c)(D:iB P fn.results.toList rs=true)
 {e:Ex}(R:Reach fid p fn.ntmps g0 w0 s0 a0 g w s a)
 (h:(match e with| .exit _=>none|_=>(finish 0 p s rs).bind fun q=>match q.v with| .d v=>some (v,q.A)|_=>none)=some (v,A)):
 bodyPost P fn (fun e w'=>∃u g',e= .returned u/\Post fid (from_ p 0) g0 w0 Ids.none ⟨.d v,A,[]⟩ u g' w') e.toExit a w:=by
 have key:(finish 0 p s rs).bind (fun q=>match q.v with| .d v=>some (v,q.A)|_=>none)=some (v,A)->∃u,(results fn a.tmps).run P w= .ok u w/\∃g',Post fid (from_ p 0) g0 w0 Ids.none ⟨.d v,A,[]⟩ u g' w:=by
  intro h;obtain⟨q,G,z⟩:=az.1 h;split at z
  ·rename_i v' j
   simp only[aL,dJ]at z;obtain⟨rfl,rfl⟩:=z;have I:=Tx G j;obtain⟨u,y,g',m⟩:=q_ (fn:=fn) hc0 C R D (by rw[M];exact G);refine⟨u,y,g',?_⟩;rw[J]at m;obtain⟨V,O,W⟩:=q;simp only at j I;subst j;subst I
   exact m
  ·simp at z
 cases e with
 |exit id=>simp at h
 |normal=>obtain⟨u,y,g2,m⟩:=key h;exact bodyPost_end y (by rw[R.defers];exact F) ⟨u,g2,rfl,m⟩
 |ret=>obtain⟨u,y,g2,m⟩:=key h;exact bodyPost_ret y (by rw[R.defers];exact F) ⟨u,g2,rfl,m⟩
def dU(g:Gh)(b:Nat):Gh:={K:=fun x=>if x=b then 0 else g.K x,row:=g.row,bx:=fun i=>if i=0 then some b else none}
theorem C8(hc:Core fid g w B A){a:Id}{l:eq}(I:VR g w (.sl (.own a sz) (x::xr)) u)(hn:DV.namess (x::xr)=some l)(ha:A a=true)(M:∀z,z∈l->A z=true)(hal:a∉l):
 ∃b c,u= .slice (some ⟨b,0,none⟩) (xr.length+1) c/\xr.length+1<=c/\c<=maxLen/\sz=x.cells.length/\g.row a=some (b,xr.length+1,c,sz)/\g.K b=(xr.length+1)*sz/\
  (∃arr e,w.heap[b]?=some (.cells arr e (0,0))/\c*sz<=arr.size)/\(∀i,g.bx i≠some b)/\
  Core fid (dU g b) w [some (((x::xr).flatMap DV.cells).map .d)] (fun z=>l.contains z)/\(∀z y,l.contains z=true->g.row z=some y->y.1≠b):=by
 cases I with
 |row _ _ ad c s U ht W hm V hK R a3 x1=>
  obtain⟨Z,o2,o3,Y,o5⟩:=x1 a sz rfl;subst o3;obtain⟨b',n',c',h,arr,e,q1,q2,q3,q4,q5,q6⟩:=hc.opn a ha;rw[q1]at Y;simp only[aL,dJ]at Y;obtain⟨rfl,rfl,rfl,rfl⟩:=Y;have a2:ad=⟨ad.block,0,none⟩:=by cases ad;simp at Z o2;simp[Z,o2]
  have b1:h=x.cells.length:=((R 0 x rfl).1).symm;have m:∀y,y∈x::xr->y.cells.length=h:=fun y hy=>by obtain⟨i,hi⟩:=dH.1 hy;exact(R i y hi).1
  have J:∀z y,l.contains z=true->g.row z=some y->y.1≠ad.block:=fun z y q hy he=>by
   have C:z∈l:=by simpa using q
   have:z=a:=hc.apart z a ad.block y.2 _ (M z C) ha (by rw[hy,<-he]) q1;exact hal (by rw[<-this];exact C)
  refine⟨ad.block,c',by rw[<-a2];rfl,W,hm,b1,q1,by rw[q4];simp,⟨arr,e,q2,q3⟩,q6,⟨fun i b O=> ?_,fun i j b hi G=> ?_,fun z q=> ?_,fun z z' b y y' q hz' D F=> ?_,fun b O=> ?_⟩,J⟩
  ·simp only[dU]at O
   split at O
   ·rename_i hi
    subst hi;simp only[aL]at O;subst O
    refine⟨_,arr,e,rfl,q2,?_,fun j v u G hu=> ?_,fun v X=> ?_,by simp[dU]⟩
    ·rw[eo,H3 _ m]
     have:(x::xr).length*h<=c'*h:=fP _ W;omega
    ·rw[c7]at G
     obtain⟨d,hd,rfl⟩:=ay.1 G;obtain⟨i,y,j',D,F,h3,h4⟩:=CI _ m _ _ hd;have hi:i<(x::xr).length:=(aU.1 D).1;have a1:j<(x::xr).length*h:=by have:(i+1)*h<=(x::xr).length*h:=fP _ hi;rw[dF]at this;omega
     have h5:=V j a1;have h6:w.cell? (ad.add j)=arr[j]?:=by rw[a2,lY];simp[World.cell?,q2]
     rw[h6,hu]at h5;simp only[aL]at h5;have h7:=a3 i y j' d D F;rw[<-h3,<-h5]at h7;have hnm:∃l',d.names=some l'/\∀z,z∈l'->l.contains z=true:=by
      have key:∀(cs:al) (l:eq),DV.namess cs=some l->∀v,v∈cs->∃l',v.names=some l'/\∀x,x∈l'->x∈l:=by
       intro cs
       induction cs with
       |nil=>intro l _ v I;simp at I
       |cons c r ihr=>
        intro l M v I;simp only[DV.namess]at M;obtain⟨l1,D,F⟩:=az.1 M;obtain⟨l2,h3,rfl⟩:=ay.1 F;rcases bK.1 I with rfl|I
        ·exact⟨l1,D,fun x hx=>by simp[hx]⟩
        ·obtain⟨l3,h4,h5⟩:=ihr l2 h3 v I
         exact⟨l3,h4,fun x hx=>by simp[h5 x hx]⟩
      obtain⟨l1,h8,h9⟩:=key _ l hn y (cg D);cases y with
      |agg cs=>simp only[DV.names]at h8;obtain⟨l2,h10,b2⟩:=key cs l1 h8 d (cg F);exact⟨l2,h10,fun z q=>by simpa using h9 z (b2 z q)⟩
      |_=>have:=cg F;simp only[DV.cells,bO]at this;subst this;exact⟨l1,h8,fun z q=>by simpa using h9 z q⟩
     obtain⟨l',h8,h9⟩:=hnm;refine .d _ _ (qPi (g:=g) (gc:=dU g ad.block) (b:=ad.block) (A:=fun z=>l.contains z) (fun x hx=>by simp[dU,hx]) rfl J h7 l' h8 h9)
    ·simp only[cw]at X
     obtain⟨d,hd,rfl⟩:=X;obtain⟨j,G⟩:=dH.1 hd;obtain⟨i,y,j',D,F,h3,h4⟩:=CI _ m _ _ G;exact⟨(R i y D).2 d (cg F),by unfold AV.safe;rfl⟩
   ·simp at O
  ·simp only[dU]at hi G
   split at hi
   ·split at G
    ·omega
    ·simp at G
   ·simp at hi
  ·have C:z∈l:=by simpa using q
   obtain⟨b,n,c2,s2,x3,e2,Z,o2,o3,Y,o5,o6⟩:=hc.opn z (M z C);have x2:b≠ad.block:=J z _ q Z;refine⟨b,n,c2,s2,x3,e2,Z,o2,o3,by simp[dU,x2,Y],o5,fun i hi=> ?_⟩;simp only[dU]at hi;split at hi
   ·simp at hi;exact x2 hi.symm
   ·simp at hi
  ·exact hc.apart z z' b y y' (M z (by simpa using q)) (M z' (by simpa using hz')) D F
  ·simp only[dU]
   split
   ·rfl
   ·exact hc.K0 b O
end
section
variable {P:Program} {fid:Nat->FuncId}
theorem xz(j:il P fid N ops o vo=true)(q:vo.guard=none):Region.wanted o (yielded ops a.tmps)=true:=by
 simp only[il,aQ]at j;obtain⟨_,m⟩:=j;rw[q]at m;unfold yG at m;unfold Region.wanted;split at m
 ·rename_i y z;rw[y]
 ·rename_i h;simp at h
 ·simp at m
theorem Qz{g1:Gh}{A2:Ids}{k2:Nat}{l:eq}{a:Id}{es ys:al}{x0 x1 z0 z1 z2:DV}{c2:AV}
 (hc0:Core fid g0 w0 [] Ids.none) (hbx:Boxes g0 w0 g) (I:Step (ko p 0 k) g0 w0 Ids.none g w A)
 (hc:Core fid g w [some [.d x0,.d x1,c2],some [.d z0,.d z1,.d z2]] A)
 (ha:A a=true) (hl:∀z,z∈l->A z=true) (hal:∀z y,l.contains z=true->g.row z=some y->y.1≠b)
 (x2:g.row a=some (b,n,c,sz)) (hKb:g.K b=n*sz) (hn:0<n) (hcap:n<=c) (hmax:c<=maxLen) (hheap:∃arr e,w.heap[b]?=some (.cells arr e (0,0))/\c*sz<=arr.size) (hnbx:∀i,g.bx i≠some b)
 {N1:Id->Prop} (hN1:∀x,N1 x->ko p 0 k2 x) (hk:k<=k2) (hbx1:Boxes (dU g b) w g1) (m:Step N1 (dU g b) w (fun z=>l.contains z) g1 w1 A2) (hc1:Core fid g1 w1 [some cs] A2)
 (hcs:aV cs=some es) (hes:es.length=n*sz) (hys:chunks true sz n es=some ys)
 (f0:x0.flat=true) (f1:x1.flat=true) (f2:z0.flat=true) (f3:z1.flat=true) (f4:z2.flat=true)
 {M b4:Nat} (Y:g.bx 0=some M) (b1:g.bx 1=some b4):
 ∃D e3,w1.heap[M]?=some (.cells D e3 (0,0))/\3<=D.size/\∃F,F.bx 0=some M/\F.bx 1=some b4/\
  Core fid F (w1.setRow M (splice D.toList 2 [.slice (some ⟨b,0,none⟩) n c]).toArray) [some [.d x0,.d x1,.d (.sl (.own a sz) ys)],some [.d z0,.d z1,.d z2]] (Ids.add a A2)/\
  Boxes g0 w0 F/\Step (ko p 0 k2) g0 w0 Ids.none F (w1.setRow M (splice D.toList 2 [.slice (some ⟨b,0,none⟩) n c]).toArray) (Ids.add a A2):=by
 have hg1b:g1.bx 0=some b:=hbx1.old 0 b (by simp[dU]);have h0bx:∀i,g0.bx i=none:=fun i=>by
  cases h:g0.bx i with
  |none=>rfl
  |some x=>have:=nr hc0 h;simp at this
 have hnew:∀i x,g.bx i=some x->w0.heap.size<=x:=fun i x h=>by
  rcases hbx.new i x h with h1|h1
  ·rw[h0bx]at h1;simp at h1
  ·exact h1
 have a1:∀z y,A z=true->g.row z=some y->w0.heap.size<=y.1:=fun z y G hy=>by
  rcases I.org z y.1 G (by simp[Gh.blk,hy])with h|⟨z0,h,_⟩
  ·exact h
  ·simp[Ids.none]at h
 have hbnew:w0.heap.size<=b:=a1 a _ ha x2;have h5:M≠b:=fun h=>hnbx 0 (by rw[Y,h])
 have hne4:b4≠b:=fun h=>hnbx 1 (by rw[b1,h])
 have hne34:M≠b4:=fun h=>by have:=hc.inj 0 1 M Y (by rw[b1,h]);simp at this
 have b2:∀i x,g.bx i=some x->∀z,l.contains z=true->(dU g b).blk z≠some x:=fun i x W z G Z=>by
  have hzl:z∈l:=by simpa using G
  obtain⟨X,n',c',s',arr',e',q1,q2,q3,q4,q5,q6⟩:=hc.opn z (hl z hzl);simp only[Gh.blk,dU,q1,bH,aL]at Z;exact q6 i (by rw[W,Z])
 have kept:∀i x,g.bx i=some x->x≠b->w1.heap[x]?=w.heap[x]?/\g1.K x=g.K x:=fun i x W a2=>by
  obtain⟨cs',arr',e',q1,q2,_⟩:=hc.box i x W;have:=m.keep x (d9.1 q2).1 (fun j C=>by
   simp only[dU]at C;split at C
   ·simp at C;exact a2 C.symm
   ·simp at C) (b2 i x W)
  exact⟨this.1,by rw[this.2];simp[dU,a2]⟩
 obtain⟨cs3,D,e3,q1,q2,q3,q4,q5,q6⟩:=hc.box 0 M Y;simp only[eG,aL]at q1;subst q1;obtain⟨cs4,arr4,e4,r1,r2,r3,r4,r5,r6⟩:=hc.box 1 b4 b1;simp only[mP,eG,aL]at r1;subst r1;simp at q3 r3;obtain⟨k3a,k3b⟩:=kept 0 M Y h5;obtain⟨k4a,k4b⟩:=kept 1 b4 b1 hne4;have hw3:w1.heap[M]?=some (.cells D e3 (0,0)):=by rw[k3a];exact q2
 have hK3:g1.K M=0:=by rw[k3b];exact q6
 obtain⟨csb,O,eb,s1,s2,s3,s4,s5,s6⟩:=hc1.box 0 b hg1b;simp only[eG,aL]at s1;subst s1;obtain⟨arr0,e0,t1,t2⟩:=hheap;obtain⟨arrb',t3,t4⟩:=m.arr b arr0 e0 (0,0) t1;rw[s2]at t3;simp only[aL,Obj.cells.injEq]at t3;obtain⟨rfl,rfl,_⟩:=t3;have hds:=gu hcs;refine⟨D,e3,hw3,by simpa using q3,?_⟩;generalize a3:w1.setRow M (splice D.toList 2 [.slice (some ⟨b,0,none⟩) n c]).toArray=w2;have hh3:w2.heap[M]?=some (.cells (splice D.toList 2 [.slice (some ⟨b,0,none⟩) n c]).toArray e3 (0,0)):=by rw[<-a3];exact setRow_heap w1 M D _ e3 (0,0) hw3
 have V:∀x,x≠M->w2.heap[x]?=w1.heap[x]?:=fun x W=>by rw[<-a3];exact setRow_other w1 M x _ W
 have hsz2:w2.heap.size=w1.heap.size:=by rw[<-a3];simp[World.setRow]
 have hE1:ExtV g1 w1 g1 w2:=by rw[<-a3];exact(G4 (g:=g1) hw3 hK3).toExtV
 let F:Gh:={K:=fun x=>if x=b then n*sz else g1.K x,row:=g1.row,bx:=fun i=>if i=0 then some M else if i=1 then some b4 else none}
 have hE3:ExtV g1 w1 F w2:=⟨fun x=>by
  simp only[F];split
  ·rename_i h;rw[h,s6];exact db _
  ·exact bf _,hE1.cell,fun _ _ h=>h⟩
 have J:∀z y,g.row z=some y->F.row z=some y:=fun z y h=>m.ext.row z y h
 have hlenes:n*sz<=O.size:=by rw[hds]at s3;simpa[hes]using s3
 have hcelles:∀v:DV,v∈es->v.isCell=true:=fun v hv=>(s5 (.d v) (by rw[hds];exact List.mem_map_of_mem hv)).1
 obtain⟨c1,c2'⟩:=v7 hcelles hys;have hrowv:VR F w2 (.sl (.own a sz) ys) (.slice (some ⟨b,0,none⟩) n c):=by
  have key:VR F w2 (.sl (.own a sz) ys) (.slice (some ⟨b,0,none⟩) ys.length c):=by
   refine .row _ ys ⟨b,0,none⟩ c sz (fun k=>O.getD k undef) (by simp) (by rw[c1];exact hcap) hmax (fun k hk=> ?_) (.inr (by simp[F,c1])) (fun i x W=>⟨(c2' i x W).1,(c2' i x W).2.1⟩) (fun i x j v W C=> ?_) (fun a' sz' ht=> ?_)
   ·rw[lY]
    have:k<O.size:=by rw[c1]at hk;omega
    have hb:w2.heap[b]?=some (.cells O eb (0,0)):=by rw[V b (Ne.symm h5)];exact s2
    simp[World.cell?,hb,bZ,this]
   ·have h6:=(c2' i x W).2.2 j v C
    have h7:(i*sz+j)<O.size:=by have:=(aU.1 h6).1;omega
    have h8:=s4 (i*sz+j) (.d v) (O[i*sz+j]) (by rw[hds];simp[h6]) (by simp[h7]);have h9:=dr h8;simp[bZ,h7];exact h9.mono hE3
   ·simp at ht
    obtain⟨rfl,rfl⟩:=ht;refine⟨rfl,rfl,rfl,by rw[c1];exact J _ _ x2,fun h=> ?_⟩;have:c=0\/c≠0:=by omega
    rcases this with h'|h'
    ·exact h'
    ·exfalso
     rw[h]at c1;simp at c1;omega
  rw[c1]at key;exact key
 have R:∀{v:DV} {u:Value},v.flat=true->AVR fid g w (.d v) u->AVR fid F w2 (.d v) u:=fun hf h=> .d _ _ (ZX J (dr h) hf)
 have hA2:∀z,A2 z=true->∃X n' c' s' arr' e',g1.row z=some (X,n',c',s')/\w1.heap[X]?=some (.cells arr' e' (0,0))/\c'*s'<=arr'.size/\g1.K X=n'*s'/\n'<=c'/\X≠b/\X≠M/\X≠b4/\w0.heap.size<=X:=fun z G=>by
  obtain⟨X,n',c',s',arr',e',o1,o2,o3,o4,o5,o6⟩:=hc1.opn z G;have hlt3:=hc.lt Y;have hlt4:=hc.lt b1;have hs:=I.size;refine⟨X,n',c',s',arr',e',o1,o2,o3,o4,o5,fun h=>o6 0 (by rw[hg1b,h]),?_⟩;rcases m.org z X G (by simp[Gh.blk,o1])with h|⟨z0,h1,h2⟩
  ·exact⟨by omega,by omega,by omega⟩
  ·refine⟨fun h=>b2 0 M Y z0 h1 (by rw[h2,h]),fun h=>b2 1 b4 b1 z0 h1 (by rw[h2,h]),?_⟩
   simp only[Gh.blk,dU]at h2;obtain⟨y,h3,rfl⟩:=ay.1 h2;exact a1 z0 y (hl z0 (by simpa using h1)) h3
 have hs3:=I.size;have hs1:=m.size;have hltb:b<w1.heap.size:=(d9.1 s2).1;refine⟨F,by simp[F],by simp[F],⟨fun i X x3=> ?_,fun i j X hi C=> ?_,fun z G=> ?_,fun z z' X y y' G hz' h1 h2=> ?_,fun x W=> ?_⟩,⟨fun i x h=>by rw[h0bx]at h;simp at h,fun i x h=> ?_⟩,⟨?_,?_,?_,by omega,⟨fun x=> ?_,fun ad had=> ?_,fun z y h=> ?_⟩,fun x W hx1 hx2=> ?_,fun z G=> ?_,fun z x G W=> ?_,fun x c' e' y h=> ?_⟩⟩
 ·simp only[F]at x3
  split at x3
  ·rename_i hi;subst hi
   simp only[aL]at x3;subst x3
   refine⟨_,_,e3,rfl,hh3,?_,fun j v u C hu=> ?_,fun v hv=> ?_,by simp[F,h5,hK3]⟩
   ·rw[iV,kK _ _ _ (by simp;omega)];simpa using q3
   ·simp only[qt]at hu
    rw[ke _ _ _ (by simp;omega)]at hu
    match j with
    |0=>
     simp at C hu;subst C
     exact R f0 (q4 0 _ u rfl (by simpa using hu))
    |1=>
     simp at C hu;subst C
     exact R f1 (q4 1 _ u rfl (by simpa using hu))
    |2=>
     simp at C hu;subst C;subst hu
     exact .d _ _ hrowv
    |j+3=>simp at C
   ·simp at hv
    rcases hv with rfl|rfl|rfl
    ·exact q5 _ (by simp)
    ·exact q5 _ (by simp)
    ·exact⟨rfl,by unfold AV.safe;rfl⟩
  ·split at x3
   ·rename_i hi;subst hi
    simp only[aL]at x3;subst x3
    refine⟨_,arr4,e4,rfl,by rw[V _ (Ne.symm hne34),k4a];exact r2,by simpa using r3,fun j v u C hu=> ?_,fun v hv=>r5 v hv,by simp[F,hne4,k4b,r6]⟩;have hh:=r4 j v u C hu
    match j with
    |0=>simp at C;subst C;exact R f2 hh
    |1=>simp at C;subst C;exact R f3 hh
    |2=>simp at C;subst C;exact R f4 hh
    |j+3=>simp at C
   ·simp at x3
 ·simp only[F]at hi C
  split at hi<;>split at C
  ·omega
  ·split at C
   ·simp only[aL]at hi C;exact absurd (hi.trans C.symm) hne34
   ·simp at C
  ·split at hi
   ·simp only[aL]at hi C;exact absurd (C.trans hi.symm) hne34
   ·simp at hi
  ·split at hi
   ·split at C
    ·omega
    ·simp at C
   ·simp at hi
 ·simp only[Ids.add,cI,bu]at G
  rcases G with rfl|G
  ·refine⟨b,n,c,sz,O,eb,J _ _ x2,by rw[V b (Ne.symm h5)];exact s2,by omega,by simp[F],hcap,fun i hi=> ?_⟩
   simp only[F]at hi;split at hi
   ·simp at hi;exact h5 hi
   ·split at hi
    ·simp at hi;exact hne4 hi
    ·simp at hi
  ·obtain⟨X,n',c',s',arr',e',o1,o2,o3,o4,o5,o6,o7,o8,o9⟩:=hA2 z G
   refine⟨X,n',c',s',arr',e',o1,by rw[V X o7];exact o2,o3,by simp[F,o6,o4],o5,fun i hi=> ?_⟩;simp only[F]at hi;split at hi
   ·simp at hi;exact o7 hi.symm
   ·split at hi
    ·simp at hi;exact o8 hi.symm
    ·simp at hi
 ·simp only[Ids.add,cI,bu]at G hz'
  have ha3:=J _ _ x2;have no:∀z y,A2 z=true->F.row z=some (b,y)->False:=fun z y G hy=>by obtain⟨X,n',c',s',arr',e',o1,o2,o3,o4,o5,o6,o7,o8,o9⟩:=hA2 z G;simp only[F]at hy;rw[o1]at hy;simp only[aL,dJ]at hy;exact o6 hy.1
  rcases G with rfl|G<;>rcases hz' with rfl|hz'
  ·rfl
  ·rw[ha3]at h1
   simp only[aL,dJ]at h1;exact(no z' y' hz' (by rw[h2,h1.1])).elim
  ·rw[ha3]at h2
   simp only[aL,dJ]at h2;exact(no z y G (by rw[h1,h2.1])).elim
  ·exact hc1.apart z z' X y y' G hz' h1 h2
 ·have a2:x≠b:=by omega
  simp only[F,au a2];exact hc1.K0 x (by omega)
 ·simp only[F]at h
  split at h
  ·simp at h;subst h;exact .inr (hnew 0 _ Y)
  ·split at h
   ·simp at h;subst h;exact .inr (hnew 1 _ b1)
   ·simp at h
 ·rw[<-a3];exact m.os.trans I.os
 ·rw[<-a3];exact m.tape.trans I.tape
 ·rw[<-a3];exact m.output.trans I.output
 ·simp only[F]
  split
  ·rename_i h;subst h;rw[hc0.K0 _ hbnew];exact db _
  ·rename_i h
   have h1:=I.ext.K x;have h2:=m.ext.K x;simp only[dU,au h]at h2;omega
 ·have hlt:ad.block<w0.heap.size:=by
   rcases eN ad.block w0.heap.size with h|h
   ·exact h
   ·rw[hc0.K0 _ h]at had;omega
  have hb3n:=hnew 0 M Y;have e1:w2.cell? ad=w1.cell? ad:=by simp only[World.cell?];rw[V _ (by omega)]
  have e2:=m.ext.cell ad (by
   have:=I.ext.K ad.block;simp only[dU];rw[au (by omega)];omega)
  rw[e1,e2];exact I.ext.cell ad had
 ·exact J z y (I.ext.row z y h)
 ·have hb3n:=hnew 0 M Y
  obtain⟨k1,k2⟩:=I.keep x W hx1 hx2;obtain⟨k3,k4⟩:=m.keep x (by omega) (fun i hi=>by
   simp only[dU]at hi;split at hi
   ·simp at hi;omega
   ·simp at hi) (fun z G Z=>by
   simp only[Gh.blk,dU]at Z;obtain⟨y,h3,h4⟩:=ay.1 Z;have:=a1 z y (hl z (by simpa using G)) h3;omega)
  have a2:x≠b:=by omega
  refine⟨by rw[V x (by omega),k3,k1],?_⟩;simp only[F,au a2];rw[k4];simp only[dU,au a2];exact k2
 ·simp only[F]at G
  by_cases he:g.row z=g0.row z
  ·refine hN1 z (m.new z ?_)
   simp only[dU];rw[he];exact G
  ·obtain⟨q,j,h1,h2,h3⟩:=I.new z he
   exact⟨q,j,h1,by omega,h3⟩
 ·simp only[Ids.add,cI,bu]at G
  simp only[Gh.blk]at W;obtain⟨y,h3,h4⟩:=ay.1 W;rcases G with rfl|G
  ·rw[J _ _ x2]at h3
   simp only[aL]at h3;subst h3;simp only at h4;subst h4
   exact .inl hbnew
  ·obtain⟨X,n',c',s',arr',e',o1,o2,o3,o4,o5,o6,o7,o8,o9⟩:=hA2 z G
   simp only[F]at h3;rw[o1]at h3;simp only[aL]at h3;subst h3;simp only at h4;subst h4
   exact .inl o9
 ·obtain⟨c1',d1,d2⟩:=I.arr x c' e' y h
  obtain⟨c3',d3,d4⟩:=m.arr x c1' e' y d1
  by_cases W:x=M
  ·subst W
   rw[hw3]at d3;simp only[aL,Obj.cells.injEq]at d3;obtain⟨rfl,rfl,rfl⟩:=d3;refine⟨_,hh3,?_⟩;rw[iV,kK _ _ _ (by simp;omega)];simp;omega
  ·exact⟨c3',by rw[V x W];exact d3,by omega⟩
end
variable{srt:Nat}
section
variable {P:Program} {fid:Nat->FuncId}
theorem Gv{o:Operand}(h:bM fid o (.t n)=true)(a:Act):a.eval o=a.tmps.getD n undef:=by
 unfold bM at h;split at h
 ·rename_i t m j
  simp at h;subst h
  simp only[VX.t.injEq]at j;subst j;rfl
 all_goals simp_all
theorem OV(h:aM P fid o.op (.move (.t n))=true)(a:Act)(w:World):(execOp a.eval o).run P w= .ok (.value (a.tmps.getD n undef)) w:=by
 obtain⟨dst,op,ty,pos,after,guard⟩:=o;cases op with
 |move y=>rw[<-Gv (show bM fid y (.t n)=true by simpa[aM]using h) a];rfl
 |assign y=>rw[<-Gv (show bM fid y (.t n)=true by simpa[aM]using h) a];rfl
 |_=>simp[aM]at h
theorem qPz(J:ie P fid call)(hm:P.follows .mixedOrders=true){cmp:Nat}{cnd rg2 rg3:Code}
 (hok1:b9 P fid N cnd (.cond (.t 42) (.region false 0 [3,4,5] [⟨some 43,.move (.t 5),none,[]⟩,⟨some 44,.call false (.c (.fn srt [])) [.t 43,.c (.fn cmp [])],none,[]⟩]) .skip)=true)
 (hok2:b9 P fid N rg2 (.region false 0 [3,4] [⟨some 45,.move (.t 5),none,[]⟩,⟨some 46,.fieldAddr 2 (.t 3),none,[]⟩,⟨none,.store false 1 (.t 46) (.t 45),none,[]⟩])=true)
 (hok3:b9 P fid N rg3 (.region false 0 [4] [⟨some 47,.load true 3 (.t 3),none,[]⟩,⟨none,.store false 3 (.t 4) (.t 47),none,[]⟩])=true)
(hB0:s0.B=[]) (hA0:s0.A=Ids.none) (hc0:s0.c=0) (hcore0:Core fid g0 w0 [] Ids.none) (hfr0:ge g0 p 0)
 (R:Reach fid p N g0 w0 s0 a0 g w s a) {i:Id}{y:DV×DV} {q:al×Ids}
 (h42:lk s.r 42=some (ax true)) (h5:lk s.r 5=some (.d (.sl (.own i sz) (x::xr)))) (hat:po s=some y) (hs:lM call ((s.c+1)::p) ⟨2,.skip,.skip,[],5,42,srt,cmp⟩ s.A i x xr=some q)
 (Q:Exit->Act->World->Prop)
 (hQ:∀g' w' a' s',Reach fid p N g0 w0 s0 a0 g' w' s' a'->finish 0 p s' [.cell 4 true 3]=some ⟨.d (.agg [y.1,y.2,.sl (.own i sz) q.1]),q.2,[]⟩->Q .ret a' w'):
 cnd.wp P (Exit.then ((Code.seq rg2 (Code.seq rg3 Code.ret)).wp P Q) Q) a w:=by
 obtain⟨oc,cy,cz,rfl,hx1,hy1,hz1⟩:=VO hok1;have ht:=jq (bG (w:=w) R.regs hx1 (show VX.get s.r (.t 42)=_ from h42));refine wp_cond (t:=true) ht ?_;simp only[if_true];obtain⟨id1,ops1,rfl,hops1⟩:=Fx hy1;obtain⟨o1,os1,hl1,ho1,hops1'⟩:=sd hops1;obtain⟨o2,os2,rfl,x2,x1⟩:=sd hops1';have:=M9 x1;subst this
 obtain⟨c2,z0,z1,z2,b1,b2,b3,f0,f1,f2,f3,f4,kk0,kk1⟩:=qtt hat;obtain⟨l,vr,A2,cs,es,e1,e2,e3,e4,e5,e6,e7,e8,e9⟩:=qzg hs;refine wp_region_list ?_;rw[hl1];have hmv:dW call p false s.B.length 0 ⟨some 43,.move (.t 5),none,[]⟩ s=some (s.put (some 43) (.d (.sl (.own i sz) (x::xr)))):=by simp[dW,dh,aY,aK,VX.get,h5]
 have I:ge g0 p s0.c:=by rw[hc0];exact hfr0
 refine uz (Om J I R ho1 hmv fun g w u R _ _ _=> ?_);have hN2:=xz (a:=a.put o1.dst u) x2 rfl;refine uz ?_;rw[aw hN2];generalize ha1:a.put o1.dst u=a1 at R⊢
 have hfr:=jn R.step R.le I;simp only[fS]at hfr;have r43:lk (s.put (some 43) (.d (.sl (.own i sz) (x::xr)))).r 43=some (.d (.sl (.own i sz) (x::xr))):=by simp[St.put,lk]
 have r5:lk (s.put (some 43) (.d (.sl (.own i sz) (x::xr)))).r 5=some (.d (.sl (.own i sz) (x::xr))):=by simp[St.put,lk,h5]
 have r3:lk (s.put (some 43) (.d (.sl (.own i sz) (x::xr)))).r 3=some (.ptr 0 0):=by simp[St.put,lk,b1]
 have r4:lk (s.put (some 43) (.d (.sl (.own i sz) (x::xr)))).r 4=some (.ptr 1 0):=by simp[St.put,lk,b2]
 have hBs:(s.put (some 43) (.d (.sl (.own i sz) (x::xr)))).B=s.B:=rfl;have hAs:(s.put (some 43) (.d (.sl (.own i sz) (x::xr)))).A=s.A:=rfl;have hcore:Core fid g w s.B s.A:=R.core;rw[b3]at hcore;obtain⟨b,c,hu5,V,X,hsz,a3,hKb,hheap,hnbx,hlent,hnames⟩:=C8 hcore (dr (R.regs 43 _ r43)) e1 e2 e3 e4;obtain⟨b',c',hu5',hcap',hmax',hsz',m,_⟩:=C8 hcore (dr (R.regs 5 _ r5)) e1 e2 e3 e4;rw[a3]at m;simp only[aL,dJ]at m;obtain⟨rfl,_,rfl,_⟩:=m;obtain⟨hfn,hcc⟩:=J _ _ _ _ _ _ e5;obtain⟨dst2,op2,ty2,pos2,aft2,gd2⟩:=o2;have z:aM P fid op2 (.call false (.c (.fn srt [])) [.t 43,.c (.fn cmp [])])=true:=by simp only[il,aQ]at x2;exact x2.1.2
 cases op2 with
 |call cl=>
  obtain⟨callee,M,argTypes⟩:=cl;cases callee with
  |value fo=>
   simp only[aM,aQ]at z;obtain⟨hk1,hk2⟩:=z;have hfun:=bG (w:=w) (a:=a1) R.regs hk1 (show VX.get _ (.c (.fn srt []))=some (.fn srt [])from rfl);obtain⟨hla,Y⟩:=ug (w:=w) (a:=a1) R.regs hk2 (show di _ [.t 43,.c (.fn cmp [])]=some [.d (.sl (.own i sz) (x::xr)),.fn cmp []]by simp[di,VX.get,r43]);generalize hq:a1.eval fo=qf at hfun;cases hfun with
   |fn _ _ us hus hcap2=>
    have hus0:us= #[]:=by simpa using hus
    subst hus0;have hrun:=vQ (P:=P) (w:=w) (a:=a1) (o:=⟨dst2,.call ⟨.value fo,M,argTypes⟩,ty2,pos2,aft2,gd2⟩) rfl rfl hq hfn;have hlc:M.size=2:=by simpa using hla.symm
    have hcalls:=hcc (dU g b) w (M.map a1.eval++ #[]) (by simp[hlc]) (fun j v u h1 h2=>by
     simp at h2;obtain⟨oo,h3,rfl⟩:=h2
     match j with
     |0=>
      simp at h1;subst h1
      have h4:=Y 0 _ oo rfl (by simpa using h3);obtain⟨b',c',hu5',_,_,_,m,_⟩:=C8 hcore (dr h4) e1 e2 e3 e4;rw[a3]at m;simp only[aL,dJ]at m;obtain⟨rfl,_,rfl,_⟩:=m;rw[hu5'];exact .tsl _ _ _ _ _ _ (by simp[dU]) V X
     |1=>
      simp at h1;subst h1
      have h4:=Y 1 _ oo rfl (by simpa using h3);generalize a1.eval oo=uu at h4;cases h4 with
      |fn _ _ us2 hus2 hc2=>exact .fn _ _ us2 hus2 (fun j v u h5 h6=>by simp at h5)
     |j+2=>simp at h1) hlent (fun q j _=>by
     have:=hfr (q++[j]) (s.c+1) (bf _);simpa[dU]using this)
    unfold Oper.wp;rw[hrun,Oper.upon_enter];refine hcalls.mono fun e w1 ⟨u2,g1,he,hp⟩=> ?_
    subst he;have hd2:dst2=some 44:=by simp only[il,aQ,fa]at x2;exact x2.1.1.1
    subst hd2;show(Code.seq rg2 (Code.seq rg3 Code.ret)).wp P Q (a1.put (some 44) u2) w1;have t3:=fM (R.regs 3 _ r3);have t4:=fM (R.regs 4 _ r4);obtain⟨b3',hb3,t3⟩:=t3;obtain⟨b4',hb4,t4⟩:=t4;have t5:a1.tmps.getD 5 undef= .slice (some ⟨b,0,none⟩) (xr.length+1) c:=hu5';have hst:Step (ko p 0 (s.c+1)) g0 w0 Ids.none g w s.A:=by have:=R.step;rw[hA0,hc0]at this;exact this
    obtain⟨Z,li,hh3,hs3,g3,hg0,hg1,G,hbox3,W⟩:=Qz (k2:=s.c+2) hcore0 R.boxes hst hcore e2 e3 hnames a3 hKb (by omega) V X hheap hnbx
     (N1:=from_ ((s.c+1)::p) 0) (fun x ⟨q,j,_,hx⟩=>⟨q++[j],s.c+1,db _,by omega,by simp[hx]⟩) (by omega) hp.boxes hp.step hp.core e6 (by rw[e7,hsz]) (by rw[hsz];exact e8) f0 f1 f2 f3 f4 hb3 hb4
    have C:(a1.put (some 44) u2).tmps.size=N:=by rw[gK];exact R.size
    have hdef:(a1.put (some 44) u2).defers=a0.defers:=by rw[put_defers];exact R.defers
    have n3:(a1.put (some 44) u2).tmps.getD 3 undef= .pointer (some ⟨b3',0,none⟩):=by rw[lW,au (by simp)];exact t3
    have n4:(a1.put (some 44) u2).tmps.getD 4 undef= .pointer (some ⟨b4',0,none⟩):=by rw[lW,au (by simp)];exact t4
    have n5:(a1.put (some 44) u2).tmps.getD 5 undef= .slice (some ⟨b,0,none⟩) (xr.length+1) c:=by rw[lW,au (by simp)];exact t5
    generalize a1.put (some 44) u2=a2 at C hdef n3 n4 n5⊢
    let gt:Gh:={K:=fun _=>0,row:=fun _=>none,bx:=fun i=>if i=0 then some b3' else if i=1 then some b4' else if i=2 then some b else none}
    have hr0:qdc fid gt w1 [(3,.ptr 0 0),(4,.ptr 1 0),(5,.tsl true 2 sz (xr.length+1))] a2.tmps:=by
     intro t v D;simp only[lk]at D;split at D
     ·rename_i h;subst h;simp at D;subst D;rw[n3];exact .ptr _ _ _ (by simp[gt])
     ·split at D
      ·rename_i h;subst h;simp at D;subst D;rw[n4];exact .ptr _ _ _ (by simp[gt])
      ·split at D
       ·rename_i h;subst h;simp at D;subst D;rw[n5];exact .tsl _ _ _ _ _ _ (by simp[gt]) V X
       ·simp at D
    obtain⟨id2,ops2,rfl,hops2⟩:=Fx hok2;obtain⟨p1,ps1,hl2,hp1,hps1⟩:=sd hops2;obtain⟨p2,ps2,rfl,hp2,hps2⟩:=sd hps1;obtain⟨p3,ps3,rfl,hp3,hps3⟩:=sd hps2;have:=M9 hps3;subst this
    refine wp_seq (wp_region_list ?_);rw[hl2];refine uz ?_;rw[aw (xz hp1 rfl)];have k1:=hp1;have k2:=hp2;have k3:=hp3
    simp only[il,aQ,fa]at k1 k2 k3;obtain⟨⟨⟨d1,l1⟩,k1⟩,_⟩:=k1;obtain⟨⟨⟨d2,l2⟩,k2⟩,_⟩:=k2;obtain⟨⟨⟨d3,l3⟩,k3⟩,_⟩:=k3;have x3:=OV (P:=P) k1 a2 w1;rw[n5]at x3;have v3:AVR fid gt w1 (.tsl true 2 sz (xr.length+1)) (.slice (some ⟨b,0,none⟩) (xr.length+1) c):= .tsl _ _ _ _ _ _ (by simp[gt]) V X;generalize hu3:Value.slice (some ⟨b,0,none⟩) (xr.length+1) c=u3 at v3 x3;have O:=gw (s:=⟨[(3,.ptr 0 0),(4,.ptr 1 0),(5,.tsl true 2 sz (xr.length+1))],[],Ids.none,0⟩) (dst:=p1.dst) hr0 v3 (fun d hd=>by rw[hd]at l1;rw[C];simpa using l1);unfold Oper.wp;rw[x3];show wpList P ops2 _ [p2,p3] (a2.put p1.dst u3) w1;rw[d1]at O⊢
    simp only[St.put]at O;refine uz ?_;rw[aw (xz hp2 rfl)];obtain⟨u4,x4,v4⟩:=NT (P:=P) (fid:=fid) (w:=w1) (g:=gt) O k2 (show aK _ (.fieldAddr 2 (.t 3))=some (.ptr 0 2)by simp[aK,VX.get,lk]);have F:=gw (s:=⟨_,[],Ids.none,0⟩) (dst:=p2.dst) O v4 (fun d hd=>by rw[hd]at l2;rw[gK,C];simpa using l2);unfold Oper.wp;rw[x4];show wpList P ops2 _ [p3] ((a2.put (some 45) u3).put p2.dst u4) w1;rw[d2]at F⊢
    simp only[St.put]at F;refine uz ?_;rw[aw (xz hp3 rfl)];have hsz5:((a2.put (some 45) u3).put (some 46) u4).tmps.size=N:=by rw[gK,gK];exact C
    have hdf5:((a2.put (some 45) u3).put (some 46) u4).defers=a0.defers:=by rw[put_defers,put_defers];exact hdef
    have n45:((a2.put (some 45) u3).put (some 46) u4).tmps.getD 45 undef=u3:=by rw[lW,au (by simp),lW,aw ⟨rfl,by rw[C];rw[d1]at l1;simpa using l1⟩]
    generalize (a2.put (some 45) u3).put (some 46) u4=a5 at F hsz5 hdf5 n45⊢
    obtain⟨dst3,op3,ty3,pos3,aft3,gd3⟩:=p3;simp only at d3 k3;subst d3;cases op3 with
    |store tt xo yo=>
     simp only[aM,aQ,bu]at k3;obtain⟨⟨h1,h2⟩,h3⟩:=k3;obtain⟨blk,hbk,heq⟩:=fM (bG (w:=w1) (a:=a5) F h2 (show VX.get _ (.t 46)=some (.ptr 0 2)by simp[VX.get,lk]));have hblk:blk=b3':=by simp[gt]at hbk;exact hbk.symm
     subst hblk;have hy5:a5.eval yo= .slice (some ⟨b,0,none⟩) (xr.length+1) c:=by rw[Gv h3 a5,n45,hu3]
     have hst5:=run_storeCells_at (P:=P) blk 2 li [.slice (some ⟨b,0,none⟩) (xr.length+1) c] 0 Z w1 hh3 (by simp;omega) (by simp[Value.oneCell']);have hrun5:(execOp a5.eval ⟨none,.store tt xo yo,ty3,pos3,aft3,gd3⟩).run P w1= .ok .skip (w1.setRow blk (splice Z.toList 2 [.slice (some ⟨b,0,none⟩) (xr.length+1) c]).toArray):=by simp only[execOp,Instr.storeAt,heq,Instr.sureAddr,hy5,Sem.run_bind,Sem.run_pure,Result.andThen_ok,storeVar,qi h1];rw[au (by simp[Value.cells]),show(Value.slice (some ⟨b,0,none⟩) (xr.length+1) c).cells.toList=[.slice (some ⟨b,0,none⟩) (xr.length+1) c]from rfl,hst5];simp[splice]
     unfold Oper.wp;rw[hrun5];generalize hw2:w1.setRow blk (splice Z.toList 2 [.slice (some ⟨b,0,none⟩) (xr.length+1) c]).toArray=w2 at G W⊢
     show(Code.seq rg3 Code.ret).wp P Q a5 w2;obtain⟨id3,ops3,rfl,hops3⟩:=Fx hok3;have hr6:qdc fid g3 w2 [(3,.ptr 0 0),(4,.ptr 1 0)] a5.tmps:=by
      have q3:=fM (F 3 (.ptr 0 0) (by simp[lk]));have q4:=fM (F 4 (.ptr 1 0) (by simp[lk]));obtain⟨c3,hc3,q3⟩:=q3;obtain⟨c4,hc4,q4⟩:=q4;simp[gt]at hc3 hc4;subst hc3;subst hc4
      intro t v D;simp only[lk]at D;split at D
      ·rename_i h;subst h;simp at D;subst D;rw[q3];exact .ptr _ _ _ hg0
      ·split at D
       ·rename_i h;subst h;simp at D;subst D;rw[q4];exact .ptr _ _ _ hg1
       ·simp at D
     let s6:St:=⟨[(3,.ptr 0 0),(4,.ptr 1 0)],[some [.d y.1,.d y.2,.d (.sl (.own i sz) q.1)],some [.d z0,.d z1,.d z2]],Ids.add i A2,s.c+2⟩
     have R6:Reach fid p N g0 w0 s0 a0 g3 w2 s6 a5:=⟨G,hbox3,by rw[hA0,hc0];exact W,hr6,hsz5,hdf5,by rw[hc0];exact db _⟩;have hfr6:=jn R6.step R6.le I;have hev:bQ call p 1 (.seq (.region false 0 [4] [⟨some 47,.load true 3 (.t 3),none,[]⟩,⟨none,.store false 3 (.t 4) (.t 47),none,[]⟩]) .ret) s6=some (.ret,⟨[(4,.ptr 1 0)],[some [.d y.1,.d y.2,.d (.sl (.own i sz) q.1)],some [.d y.1,.d y.2,.d (.sl (.own i sz) q.1)]],Ids.add i A2,s.c+4⟩):=by have k0':AV.isCell (.d y.1)=true:=kk0;have k1':AV.isCell (.d y.2)=true:=kk1;have k2':AV.isCell (.d (.sl (.own i sz) q.1))=true:=rfl;simp[s6,bQ,jb,cX,dh,aY,VX.get,lk,aP,aT,jH,aV,jr,gq,splice,AV.cells,k0',k1',k2',AV.safe,St.put,keep]
     refine mt J hm (.seq (.region false 0 [4] [⟨some 47,.load true 3 (.t 3),none,[]⟩,⟨none,.store false 3 (.t 4) (.t 47),none,[]⟩]) .ret) rfl _ g3 w2 a5 s6 _ .ret (N:=N) (p:=p) (n:=1) (by simp[b9,hops3]) G hr6 hsz5 hfr6 hev Q fun g7 w7 a7 R7=> ?_
     refine hQ g7 w7 a7 _ (R6.trans R7) ?_;simp[finish,jS,jU,lk,aP,aT,jH,aV,e9]
    |_=>simp[aM]at k3
  |_=>simp[aM]at z
 |_=>simp[aM]at z
end
section
variable {P:Program} {fid:Nat->FuncId}
theorem Oq(X:P.follows .mixedOrders=true){R0 d1 d2 d3:VCode}{cmp:Nat}(c2:P.funcs[fid k]?=some fn)(hok:qu P fid fn (GH R0 d1 d2 d3 srt cmp)=true)(hpl:(R0.plain&&d1.plain&&d2.plain&&d3.plain)=true):wL P fid k (iU R0 d1 d2 d3 srt cmp):=by
 intro call n j;simp only[aQ]at hpl;obtain⟨⟨⟨pl0,pl1⟩,pl2⟩,pl3⟩:=hpl;simp only[qu,aQ,bu,fT]at hok;obtain⟨⟨⟨hb,hrs⟩,hnp⟩,b1⟩:=hok;split at hb
 case h_2=>simp at hb
 rename_i c G;refine⟨⟨fn,c2,b1,by simp[G]⟩,fun p args v A hd Y g0 w0 us hus hrel hcore m=> ?_⟩;obtain⟨ds,hds⟩:=oU.1 hd;simp only[hds,a9]at Y;have F:=gu hds;unfold mO at Y;split at Y
 ·simp at Y
 rename_i hlen;obtain⟨⟨e,s⟩,h1,J⟩:=az.1 Y;simp only at J;have he:e= .normal:=by
  cases e with
  |normal=>rfl
  |exit id=>simp at J
  |ret=>simp at J
 subst he;obtain⟨x0,y0,rfl,o0,t0⟩:=m7 hb;obtain⟨x1,y1,rfl,o1,t1⟩:=m7 t0;obtain⟨x2,y2,rfl,o2,t2⟩:=m7 t1;obtain⟨x3,y3,rfl,o3,t3⟩:=m7 t2;obtain⟨x3a,V,rfl,o3a,o3b⟩:=m7 o3;obtain⟨W,y4,rfl,o4,t4⟩:=m7 t3;obtain⟨M,y5,rfl,o5,t5⟩:=m7 t4;have hret:y5= .ret:=by cases y5<;>simp[b9]at t5⊢
 subst hret;obtain⟨s1,e1,h1⟩:=CP h1;obtain⟨s2,e2,h1⟩:=CP h1;obtain⟨s3,e3,e4⟩:=CP h1;refine calls_of_wp c2 G ?_;have b2:qdc fid g0 w0 (bo 0 (ds.map .d)) (us++Array.replicate (fn.ntmps-us.size) undef):=by
  intro t v Y;obtain⟨_,h3⟩:=Ev _ 0 t v Y;rw[<-F]at h3;simp only[lq]at h3;have O:t<us.size:=by rw[hus];exact(aU.1 h3).1
  have:(us++Array.replicate (fn.ntmps-us.size) undef).getD t undef=us[t]:=by simp[bZ,kN O,O]
  rw[this];exact hrel t v _ h3 (by simp[O])
 have hsz:(us++Array.replicate (fn.ntmps-us.size) undef).size=fn.ntmps:=by
  have h5:us.size=2:=by rw[hus,F,eo];simpa[iU]using hlen
  simp[GH]at hnp;simp;omega
 refine wp_seq (mt j X R0 pl0 x0 g0 w0 _ ⟨bo 0 (ds.map .d),[],Ids.none,0⟩ s1 .normal o0 hcore b2 hsz m e1 _ fun g1 w1 a1 R1=> ?_);show(Code.seq x1 _).wp P _ a1 w1;refine wp_seq (mt j X d1 pl1 x1 g1 w1 _ s1 s2 .normal o1 R1.core R1.regs R1.size (jn R1.step R1.le m) e2 _ fun g2 w2 a2 R2=> ?_);show(Code.seq x2 _).wp P _ a2 w2;have C:=R1.trans R2;refine wp_seq (mt j X d2 pl2 x2 g2 w2 _ s2 s3 .normal o2 C.core C.regs C.size (jn C.step C.le m) e3 _ fun g3 w3 a3 R3=> ?_);show(Code.seq _ _).wp P _ a3 w3;have z:=C.trans R3;refine wp_seq (wp_seq (mt j X d3 pl3 x3a g3 w3 _ s3 s .normal o3a z.core z.regs z.size (jn z.step z.le m) e4 _ fun g4 w4 a4 R4=> ?_));have R:=z.trans R4;have Z:=fun(e:Ex) (s':St) (g':Gh) (w':World) (a':Act) (D:Reach fid p fn.ntmps g0 w0 ⟨bo 0 (ds.map .d),[],Ids.none,0⟩ ⟨us++Array.replicate (fn.ntmps-us.size) undef,[]⟩ g' w' s' a')=>ZZ (v:=v) (A:=A) (e:=e) rfl rfl rfl hcore m hrs D
 show V.wp P (Exit.then ((Code.seq W (Code.seq M Code.ret)).wp P (bodyPost P fn _)) (bodyPost P fn _)) a4 w4;have I:(bQ call p n (iU R0 d1 d2 d3 srt cmp).rest s).bind (fun r2=>match r2.1 with| .exit _=>none|_=>(finish 0 p r2.2 (iU R0 d1 d2 d3 srt cmp).results).bind fun q=>match q.v with| .d v=>some (v,q.A)|_=>none)=some (v,A)->
  V.wp P (Exit.then ((Code.seq W (Code.seq M Code.ret)).wp P (bodyPost P fn (fun e w'=>∃u g',e= .returned u/\Post fid (from_ p 0) g0 w0 Ids.none ⟨.d v,A,[]⟩ u g' w'))) (bodyPost P fn (fun e w'=>∃u g',e= .returned u/\Post fid (from_ p 0) g0 w0 Ids.none ⟨.d v,A,[]⟩ u g' w'))) a4 w4:=by
  intro h;obtain⟨⟨e5,s5⟩,h5,h6⟩:=az.1 h;simp only[iU,bQ]at h5;obtain⟨⟨ec,sc⟩,h7,h8⟩:=az.1 h5;refine mt j X (.cond (.t 42) (.region false 0 [3,4,5] [⟨some 43,.move (.t 5),none,[]⟩,⟨some 44,.call false (.c (.fn srt [])) [.t 43,.c (.fn cmp [])],none,[]⟩]) .skip) rfl V g4 w4 _ s sc ec (n:=n) o3b R.core R.regs R.size (jn R.step R.le m) (by simpa only[bQ]using h7) _ fun g5 w5 a5 R5=> ?_
  have D:=R.trans R5;cases ec with
  |exit id=>simp only[aL,dJ]at h8;obtain⟨rfl,rfl⟩:=h8;simp at h6
  |ret=>simp only[aL,dJ]at h8;obtain⟨rfl,rfl⟩:=h8;exact Z .ret sc g5 w5 a5 D h6
  |normal=>
   show(Code.seq W (Code.seq M Code.ret)).wp P _ a5 w5;refine mt j X (.seq (.region false 0 [3,4] [⟨some 45,.move (.t 5),none,[]⟩,⟨some 46,.fieldAddr 2 (.t 3),none,[]⟩,⟨none,.store false 1 (.t 46) (.t 45),none,[]⟩])
    (.seq (.region false 0 [4] [⟨some 47,.load true 3 (.t 3),none,[]⟩,⟨none,.store false 3 (.t 4) (.t 47),none,[]⟩]) .ret)) rfl _ g5 w5 _ sc s5 e5 (n:=n) (by simp only[b9,o4,o5,Ao]) D.core D.regs D.size (jn D.step D.le m) (by simpa only[bQ]using h8) _ fun g6 w6 a6 R6=> ?_
   exact Z e5 s5 g6 w6 a6 (D.trans R6) h6
 split at J
 ·rename_i i sz x xr q1 q2
  obtain⟨y,h3,h4⟩:=az.1 J;obtain⟨q,h5,h6⟩:=ay.1 h4;simp only[dJ]at h6;obtain⟨rfl,rfl⟩:=h6;refine qPz j X o3b o4 o5 rfl rfl rfl hcore m R q1 q2 h3 h5 _ fun g' w' a' s' D hf=> ?_
  exact Z .ret s' g' w' a' D (by show(finish 0 p s' [.cell 4 true 3]).bind _=_;rw[hf];rfl)
 ·exact I J
 ·exact I J
 ·simp at J
end
variable{t:TypeId}{S:ot}{held:Bool}{sp:Nat->Bool}{H:Type}{b0:Nat}
section
open Go.WideShapes
def start(w:World)(M:Nat):Gh:=⟨fun b=>if b<w.heap.size then M else 0,fun _=>none,fun _=>none⟩
theorem PI{fid:Nat->FuncId}(w:World)(M:Nat):Core fid (start w M) w [] Ids.none:=⟨fun i b h=>by simp[start]at h,fun i j b h=>by simp[start]at h,fun a h=>by simp[Ids.none]at h,fun a a' b x x' h=>by simp[Ids.none]at h,fun b m=>by simp[start];omega⟩
theorem Yi(w:World)(M:Nat)(p:Id):ge (start w M) p 0:=fun _ _ _=>rfl
theorem qzy{fid:Nat->FuncId}{N:Id->Prop}{M:Nat}{r:Res}(h:Post fid N (start w M) w Ids.none r u g' w'):RowKit.Below w.heap.size w w':=⟨h.step.os,h.step.tape,h.step.output,h.step.size,fun b j=>(h.step.keep b j (fun i h=>by simp[start]at h) (fun a h=>by simp[Ids.none]at h)).1⟩
variable {P:Program}
def d_(P:Program)(t:TypeId)(cs:al):DV:=
 match P.underlying t with
 |some (.struct _)=> .agg cs
 |_=>cs.headD (.bool false)
inductive Shape(P:Program):TypeId->al->Prop where
 |int {t:TypeId} {k:IntKind} {n:Int}:P.underlying t=some (.int k)->(Lit.int k n).wf=true->Shape P t [.int k n]
 |bool {t:TypeId} {b:Bool}:P.underlying t=some .bool->Shape P t [.bool b]
 |str {t:TypeId} {s:ByteArray}:P.underlying t=some .string->s.size<=maxLen->Shape P t [.str s]
 |nil {t e:TypeId}:P.underlying t=some (.slice e)->Shape P t [.sl .nil []]
 |row {t e:TypeId} {xs:al}:P.underlying t=some (.slice e)->xs.length<=maxLen->(∀x:DV,x∈xs->x=d_ P e x.cells)->(∀x:DV,x∈xs->Shape P e x.cells)->Shape P t [.sl .sub xs]
 |struct {t:TypeId} {fs:Array Field} {cs:al}:P.underlying t=some (.struct fs)->cs.length=P.cellsOf t->(∀f:Field,f∈fs.toList->Shape P f.type ((cs.drop f.offset).take (P.cellsOf f.type)))->Shape P t cs
def layout(P:Program):List Field->Nat->Nat->Bool
 | [],o,n=>o==n
 |f::r,o,n=>f.offset==o&&layout P r (o+P.cellsOf f.type) n
def nY(P:Program)(S:ot)(t:TypeId):Bool:=
 match P.underlying t with
 |some (.int _)|some .bool|some .string=>P.cellsOf t==1
 |some (.slice e)=>S.contains e&&P.cellsOf t==1
 |some (.struct fs)=>fs.toList.all (fun f=>S.contains f.type)&&layout P fs.toList 0 (P.cellsOf t)
 |_=>false
def VRs(w:World)(h:Nat)(ds:al)(cs:bW):Prop:=ds.length=cs.length/\(∀v:DV,v∈ds->v.isCell=true)/\∀M,h<=M->∀(j:Nat) (v:DV) (u:Value),ds[j]?=some v->cs[j]?=some u->VR (start w M) w v u
theorem VRs.one{C:Nat}(hc:v.isCell=true)(h:∀M,C<=M->VR (start w M) w v u):VRs w C [v] [u]:=
 ⟨rfl,fun x z=>by simp at z;subst z;exact hc,fun M D j x y m q=>by
  cases j with
  |zero=>simp at m q;subst m;subst q;exact h M D
  |succ j=>simp at m⟩
theorem bound(f:Nat->Nat):∀n,∃M,∀i,i<n->f i<=M
 |0=>⟨0,fun i h=>by omega⟩
 |n+1=>by
  obtain⟨M,h⟩:=bound f n;refine⟨max M (f n),fun i hi=> ?_⟩;rcases eN i n with j|j
  ·exact cT (h i j) (jI _ _)
  ·have:i=n:=by omega
   subst this;exact gT _ _
theorem fields{cs:bW}:∀(l:List Field) (o:Nat),layout P l o n=true->
 (∀f:Field,f∈l->∃(m:al) (V:Nat),m.length=P.cellsOf f.type/\Shape P f.type m/\VRs w V m ((cs.drop f.offset).take (P.cellsOf f.type)))->
 ∃(ds:al) (V:Nat),o<=n/\ds.length=n-o/\(∀f:Field,f∈l->o<=f.offset/\Shape P f.type ((ds.drop (f.offset-o)).take (P.cellsOf f.type)))/\VRs w V ds ((cs.drop o).take (n-o))
 | [],o,C,_=>by
  simp[layout]at C;subst C
  exact⟨[],0,bf _,by simp,fun f hf=>by simp at hf,by simp,fun v z=>by simp at z,fun M _ j v u h=>by simp at h⟩
 |f::r,o,C,h=>by
  simp[layout]at C;obtain⟨F,C⟩:=C;obtain⟨m,M1,h1,h2,I⟩:=h f (by simp);obtain⟨ds,Z,h4,h5,h6,O⟩:=fields r _ C fun D q=>h D (by simp[q])
  refine⟨m++ds,max M1 Z,by omega,by simp;omega,fun D q=> ?_,?_,?_,?_⟩
  ·rcases bK.1 q with rfl|q
   ·refine⟨by omega,?_⟩
    rw[F,nw,gD,<-h1,NZ (bf _),fG];exact h2
   ·obtain⟨h8,h9⟩:=h6 D q
    refine⟨by omega,?_⟩;have:(m++ds).drop (D.offset-o)=ds.drop (D.offset-(o+P.cellsOf f.type)):=by rw[show D.offset-o=m.length+(D.offset-(o+P.cellsOf f.type))by omega,uy];simp
    rw[this];exact h9
  ·have q1:=I.1
   have q2:=O.1;simp at q1 q2⊢
   omega
  ·intro v z
   rcases bC.1 z with z|z
   ·exact I.2.1 v z
   ·exact O.2.1 v z
  ·intro M Y j v u G y
   have R:M1<=M:=cT (jI _ _) Y;have J:Z<=M:=cT (gT _ _) Y;rcases eN j m.length with W|X
   ·rw[cf W]at G
    refine I.2.2 M R j v u G ?_;rw[eY]at y⊢
    rw[F];split at y
    ·rw[aw (by omega)];exact y
    ·simp at y
   ·rw[cF X]at G
    refine O.2.2 M J (j-m.length) v u G ?_;rw[eY]at y⊢
    split at y
    ·rw[aw (by omega),gP]
     rw[gP]at y;rw[show o+P.cellsOf f.type+(j-m.length)=o+j by omega];exact y
    ·simp at y
theorem qAF{base:Nat}{a:Addr}{cs:bW}(h:w.cells? base a n=some cs):cs.length=n/\∀j,j<n->w.cell? (a.add j)=cs[j]?:=by
 unfold World.cells? at h;split at h
 ·have m:=mapM_some_length h
  simp at m;refine⟨m,fun j q=> ?_⟩;have:=mapM_some_get h j j (by simp[q]);exact this
 ·simp at h
theorem qAi{ds:al}(m:Shape P t ds)(hc:∀v:DV,v∈ds->v.isCell=true):(d_ P t ds).cells=ds:=by
 cases m with
 |struct h q y=>simp[d_,h,DV.cells]
 |int h j=>simp[d_,h,DV.cells]
 |bool h=>simp[d_,h,DV.cells]
 |str h j=>simp[d_,h,DV.cells]
 |nil h=>simp[d_,h,DV.cells]
 |row h _ _ _=>simp[d_,h,DV.cells]
theorem Gc{enc:TypeId×Value->H}(hS:∀t,t∈S->nY P S t=true):
 ∀(fuel:Nat) (t:TypeId) (cs:bW) (x:DataW H×List MemPlace),t∈S->DataW.trod enc P w 0 sp held fuel t cs=some x->
  ∃(ds:al) (V:Nat),ds.length=P.cellsOf t/\Shape P t ds/\VRs w V ds cs
 |0,t,cs,x,_,h=>by simp[DataW.trod]at h
 |fuel+1,t,cs,x,ht,h=>by
  have m:=hS t ht;unfold nY at m;split at m
  ·rename_i k C
   obtain⟨n,rfl,_,hw⟩:=DataW.trod_int C h;simp at m;exact⟨[.int k n],0,by simp[m],.int C hw,.one rfl fun _ _=> .int k n⟩
  ·rename_i C
   obtain⟨b,rfl,_⟩:=DataW.trod_bool C h;simp at m;exact⟨[.bool b],0,by simp[m],.bool C,.one rfl fun _ _=> .bool b⟩
  ·rename_i C
   obtain⟨s,rfl,_,hw⟩:=DataW.trod_string C h;simp at m;exact⟨[.str s],0,by simp[m],.str C hw,.one rfl fun _ _=> .str s⟩
  ·rename_i e C
   simp at m;obtain⟨he,h1⟩:=m;rcases DataW.trod_slice C h with⟨rfl,_⟩|⟨a,len,cap,elems,rest,n,hn,rfl,_,_,hl,hm,x2,c2,_,_⟩
   ·exact⟨[.sl .nil []],0,by simp[h1],.nil C,.one rfl fun _ _=> .nil⟩
   ·obtain rfl:fuel=n:=by omega
    have G:∀i,i<len->∃(ds:al) (V:Nat) (R:bW),ds.length=P.cellsOf e/\Shape P e ds/\VRs w V ds R/\∀j,j<P.cellsOf e->w.cell? ((a.add (i*P.cellsOf e)).add j)=R[j]?:=by
     intro i hi;have y:=c2 i hi;have h3:elems[i]?=some elems[i]:=by simp[x2,hi]
     rw[h3]at y;obtain⟨R,h4,h5⟩:=az.1 y;obtain⟨h6,h7⟩:=qAF h4;obtain⟨ds,V,q1,q2,q3⟩:=Gc hS fuel e R _ he h5;exact⟨ds,V,R,q1,q2,q3,h7⟩
    have:∃(D:Nat->al) (Mf:Nat->Nat) (Uf:Nat->bW),∀i,i<len->(D i).length=P.cellsOf e/\Shape P e (D i)/\VRs w (Mf i) (D i) (Uf i)/\∀j,j<P.cellsOf e->w.cell? ((a.add (i*P.cellsOf e)).add j)=(Uf i)[j]?:=by refine⟨fun i=>if hi:i<len then(G i hi).choose else [],fun i=>if hi:i<len then(G i hi).choose_spec.choose else 0,fun i=>if hi:i<len then(G i hi).choose_spec.choose_spec.choose else [],fun i hi=> ?_⟩;simp only[hi,dite_true];exact(G i hi).choose_spec.choose_spec.choose_spec
    obtain⟨D,Mf,Uf,Y⟩:=this;obtain⟨M1,a3⟩:=bound Mf len;have q:∀i,i<len->(d_ P e (D i)).cells=D i:=fun i hi=>qAi (Y i hi).2.1 (Y i hi).2.2.1.2.1
    have x3:0<len*P.cellsOf e->a.spot=none:=by
     intro J;have Z:0<P.cellsOf e:=by
      rcases kY (P.cellsOf e)with z|z
      ·rw[z]at J;simp at J
      ·exact z
     have a2:0<len:=by
      rcases kY len with z|z
      ·rw[z]at J;simp at J
      ·exact z
     obtain⟨d1,d2,d3,d4⟩:=Y 0 a2;have O:=d4 0 Z;have a1:(Uf 0).length=P.cellsOf e:=by rw[<-d3.1];exact d1
     rw[eJ (by omega)]at O;have e1:(a.add (0*P.cellsOf e)).add 0=a:=by simp[Addr.add]
     rw[e1]at O;unfold World.cell? at O;split at O
     ·split at O
      ·simp at O
      ·rename_i hh;simpa using hh
     ·simp at O
    have F:∀k,k<len*P.cellsOf e->a.spot=none/\∃u,w.cell? (a.add k)=some u/\(Uf (k/P.cellsOf e))[k%P.cellsOf e]?=some u:=by
     intro k J;have Z:0<P.cellsOf e:=by
      rcases kY (P.cellsOf e)with z|z
      ·rw[z]at J;simp at J
      ·exact z
     have hi:k/P.cellsOf e<len:=FQ (by rw[mK];exact J);have hj:k%P.cellsOf e<P.cellsOf e:=Nat.mod_lt _ Z;obtain⟨d1,d2,d3,d4⟩:=Y _ hi;have O:=d4 _ hj;have a1:(Uf (k/P.cellsOf e)).length=P.cellsOf e:=by rw[<-d3.1];exact d1
     rw[eJ (by omega)]at O;have W:a.spot=none:=x3 (by omega);rw[add_add _ _ _ W,mK,Cs]at O;exact⟨W,_,O,by rw[eJ (by omega)]⟩
    refine⟨[.sl .sub ((List.range len).map fun i=>d_ P e (D i))],max M1 (a.off+len*P.cellsOf e),by simp[h1],?_,.one rfl fun M hM=> ?_⟩
    ·refine .row C (by simp;omega) (fun x I=> ?_) (fun x I=> ?_)
     ·simp only[cw,f_]at I
      obtain⟨i,hi,rfl⟩:=I;rw[q i hi]
     ·simp only[cw,f_]at I
      obtain⟨i,hi,rfl⟩:=I;rw[q i hi];exact(Y i hi).2.1
    ·have key:VR (start w M) w (.sl .sub ((List.range len).map fun i=>d_ P e (D i))) (.slice (some a) ((List.range len).map fun i=>d_ P e (D i)).length cap):=by
      refine .row .sub _ a cap (P.cellsOf e) (fun k=>(w.cell? (a.add k)).getD undef) (by simp) (by simpa using hl) hm (fun k J=> ?_) ?_ (fun i x I=> ?_) (fun i x j v I hj=> ?_) (by simp)
      ·simp at J
       obtain⟨_,u,y,_⟩:=F k J;rw[y];rfl
      ·simp only[eo,FO]
       rcases kY (len*P.cellsOf e)with z|z
       ·exact .inl z
       ·right
        obtain⟨W,u,y,_⟩:=F 0 z;have hb:a.block<w.heap.size:=by
         unfold World.cell? at y;rw[add_block]at y;split at y
         ·rename_i hh
          exact(d9.1 hh).1
         ·simp at y
        simp only[start,hb,if_true];exact cT (gT _ _) hM
      ·simp only[c7]at I
       obtain⟨X,y,rfl⟩:=ay.1 I;have hi:i<len:=by have:=(aU.1 y).1;simpa using this
       have:X=i:=by have:=(aU.1 y).2;simp at this;omega
       subst this;rw[q _ hi];exact⟨(Y _ hi).1,(Y _ hi).2.2.1.2.1⟩
      ·simp only[c7]at I
       obtain⟨X,y,rfl⟩:=ay.1 I;have hi:i<len:=by have:=(aU.1 y).1;simpa using this
       have:X=i:=by have:=(aU.1 y).2;simp at this;omega
       subst this;rw[q _ hi]at hj;obtain⟨d1,d2,d3,d4⟩:=Y _ hi;have x1:j<P.cellsOf e:=by rw[<-d1];exact(aU.1 hj).1
       have J:X*P.cellsOf e+j<len*P.cellsOf e:=by have:=fP (P.cellsOf e) (show X+1<=len by omega);rw[dF]at this;omega
       obtain⟨W,u,h3,h4⟩:=F _ J;rw[h3];have e1:(X*P.cellsOf e+j)/P.cellsOf e=X:=by rw[mK,Nat.mul_add_div (by omega),Nat.div_eq_of_lt x1];rfl
       have e2:(X*P.cellsOf e+j)%P.cellsOf e=j:=by rw[mK,Nat.mul_add_mod,Gi x1]
       rw[e1,e2]at h4;exact d3.2.2 M (cT (a3 _ hi) (cT (jI _ _) hM)) j v u hj h4
     simpa using key
  ·rename_i fs C
   simp only[aQ,bB]at m;obtain⟨h1,y⟩:=m;obtain⟨xs,n,hn,_,hl,b1,I⟩:=DataW.trod_struct C h;obtain rfl:fuel=n:=by omega
   obtain⟨ds,V,_,q1,q2,q3⟩:=fields (w:=w) (cs:=cs) fs.toList 0 y fun f hf=>by
    obtain⟨i,hi⟩:=Array.mem_iff_getElem?.1 (xA.1 hf);have h4:=I i f hi;have h5:i<xs.length:=by rw[b1];exact(d9.1 hi).1
    rw[eJ h5]at h4;obtain⟨b2,V,r1,r2,r3⟩:=Gc hS fuel f.type _ _ (by simpa using h1 f hf) h4;exact⟨b2,V,r1,r2,r3⟩
   refine⟨ds,V,by simpa using q1,.struct C (by simpa using q1) (fun f hf=>by simpa using (q2 f hf).2),?_⟩;rw[gD,lq,<-hl,fG]at q3;exact q3
  ·simp at m
theorem Wc{enc:TypeId×Value->H}(X:S.all (nY P S)=true){v:Value}{d:DataW H}{ps:List MemPlace}(I:S.contains t=true)
 {r:Go.Reach}(q:Value.okWide P w r b0 t v) (h:DataW.Trod enc P w 0 sp held t v d ps):
 ∃(ds:al) (G:Nat),ds.length=P.cellsOf t/\Shape P t ds/\∀M,G<=M->VR (start w M) w (d_ P t ds) v:=by
 obtain⟨fuel,h⟩:=h;have C:∀t,t∈S->nY P S t=true:=fun t I=>bB.1 X t I
 have D:t∈S:=by simpa using I
 obtain⟨ds,G,z,V,F⟩:=Gc C fuel t _ _ D h;refine⟨ds,G,z,V,fun M R=> ?_⟩;have m:=C t D;have one:∀(x:DV),v.cells= #[v]->ds=[x]->VR (start w M) w x v:=by intro x J Y;subst Y;exact F.2.2 M R 0 x v rfl (by rw[J];rfl)
 unfold nY at m;split at m
 ·rename_i k y
  obtain⟨n,rfl⟩:=okWide_int y q;simp at m;obtain⟨x,rfl⟩:=oY.1 (z.trans m);simpa[d_,y]using one x rfl rfl
 ·rename_i y
  obtain⟨n,rfl⟩:=okWide_bool y q;simp at m;obtain⟨x,rfl⟩:=oY.1 (z.trans m);simpa[d_,y]using one x rfl rfl
 ·rename_i y
  obtain⟨n,rfl⟩:=okWide_string y q;simp at m;obtain⟨x,rfl⟩:=oY.1 (z.trans m);simpa[d_,y]using one x rfl rfl
 ·rename_i e y
  obtain⟨a,len,cap,rfl⟩:=okWide_slice y q;simp at m;obtain⟨x,rfl⟩:=oY.1 (z.trans m.2);simpa[d_,y]using one x rfl rfl
 ·rename_i fs y
  simp only[Value.okWide,y]at q;obtain⟨cs,rfl,J,_⟩:=q;simp only[d_,y];refine .agg ds cs (by rw[J,z]) F.2.1 fun j x u W O=>F.2.2 M R j x u W ?_
  simpa[Value.cells]using O
 ·simp at m
end
section
open Go.ChangeShapes Go.WideShapes Go.ChangeAt Go.RowKit
def pK(P:Program):ot->List al->Prop
 | [],[]=>True
 |t::ts,x::xs=>(x.length=P.cellsOf t/\Shape P t x)/\pK P ts xs
 |_,_=>False
def j7(P:Program):ot->List al->aA
 |t::ts,x::xs=> .d (d_ P t x)::j7 P ts xs
 |_,_=>[]
variable {P:Program} {fid:Nat->FuncId}
theorem Ls:∀{ts:ot} {xs:List al},pK P ts xs->(j7 P ts xs).length=ts.length
 | [],[],_=>rfl
 |t::ts,x::xs,h=>by simp[j7,Ls h.2]
 | [],_::_,h=>h.elim
 |_::_,[],h=>h.elim
theorem NW{enc:TypeId×Value->H}(D:S.all (nY P S)=true){r:Go.Reach}:
 ∀(ts:ot) (vs:bW) (ds:List (DataW H)) (ps:List MemPlace),ts.all (S.contains ·)=true->DataW.TrodAll enc P w 0 sp held ts vs ds ps->(∀(j:Nat) t v,ts[j]?=some t->vs[j]?=some v->Value.okWide P w r b0 t v)->
  ∃(xs:List al) (Y:Nat),pK P ts xs/\vs.length=ts.length/\ds.length=ts.length/\∀M,Y<=M->∀(j:Nat) (v:AV) (u:Value),(j7 P ts xs)[j]?=some v->vs[j]?=some u->AVR fid (start w M) w v u
 | [],[],[],ps,_,_,_=>⟨[],0,trivial,rfl,rfl,fun M _ j v u h=>by simp[j7]at h⟩
 |t::ts,v::vs,d::ds,ps,m,h,F=>by
  obtain⟨p,q,O,X,rfl⟩:=h;simp only[gF,aQ]at m;obtain⟨x,M1,J,x2,x3⟩:=Wc D m.1 (F 0 t v rfl rfl) O;obtain⟨xs,Z,W,y2,V,I⟩:=NW D ts vs ds q m.2 X fun j t v G R=>F (j+1) t v G R
  refine⟨x::xs,max M1 Z,⟨⟨J,x2⟩,W⟩,by simp[y2],by simp[V],fun M C j a u z y=> ?_⟩;cases j with
  |zero=>
   simp[j7]at z y;subst z;subst y
   exact .d _ _ (x3 M (cT (jI _ _) C))
  |succ j=>simp[j7]at z y;exact I M (cT (gT _ _) C) j a u z y
 | [],_::_,_,_,_,h,_=>h.elim
 | [],[],_::_,_,_,h,_=>h.elim
 |_::_,[],_,_,_,h,_=>h.elim
 |_::_,_::_,[],_,_,h,_=>h.elim
theorem Is{enc:TypeId×Value->H}(y:laidOutB P=true){W z:World}(C:Below W.heap.size W z):
 ∀(ts:ot) (vs:bW) (ds:List (DataW H)) (ps:List MemPlace),ts.all (fun t=>P.readableRec t&&decide (t<P.types.size))=true->DataW.TrodAll enc P W 0 (fun _=>true) true ts vs ds ps->
  DataW.TrodAll enc P z 0 (fun b=>decide (b<W.heap.size)) true ts vs ds ps
 | [],[],[],ps,_,h=>h
 |t::ts,v::vs,d::ds,ps,j,h=>by have m:=DataW.TrodAll.lt h;obtain⟨p,q,F,D,rfl⟩:=h;simp only[gF,aQ,bu]at j;exact⟨p,q,Below.trod y j.1.1 j.1.2 F C fun x G=>m x (lw _ G),Is y C ts vs ds q j.2 D,rfl⟩
 | [],_::_,_,_,_,h=>h.elim
 | [],[],_::_,_,_,h=>h.elim
 |_::_,[],_,_,_,h=>h.elim
 |_::_,_::_,[],_,_,h=>h.elim
theorem Px{enc:TypeId×Value->H}{C:Checked}{os:Os}{s:ChangeSpec}{y:List PathCond}{E:Env}{tb:TypeId}
 (hE:EnvOK C.prog fid E) (own:ownKnob C.prog.godebug=none) (started:os.Started) (D:laidOutB C.prog=true) (hk:fid k=f) (z:C.prog.inits.idxOf? f=none) (X:C.prog.funcs[f]?=some fn)
 (m:s.vars=[]) (hS:S.all (nY C.prog S)=true) (Y:fn.params.toList.all (S.contains ·)=true) (R:fn.params.toList.all (fun t=>C.prog.readableRec t&&decide (t<C.prog.types.size))=true)
 (J:fn.resultTypes= #[tb]) (hb:C.prog.underlying tb=some .bool) (G:∀ds:List (DataW H),ds.length=fn.params.size->s.fn H ds={results:=[.lit (.bool true)],args:=ds})
 (witness:∃(w:World) (tape:Tape) (i:Input),w.os=os/\(w.forCall tape i).Shaped C.prog/\i.vars=[]/\Input.okWide C.prog (w.forCall tape i) .any w.heap.size f i/\
  s.pre6 enc C.prog fn y false (w.forCall tape i).memory i.args/\({}:Assume).holds C.prog (lone (Frame.enter C.prog f i.args .normal) [] (w.forCall tape i)))
 (plain:∀xs:List al,pK C.prog fn.params.toList xs->∃A B,qo E [] k (j7 C.prog fn.params.toList xs) [] Ids.none=some ⟨ax true,A,B⟩):
 ReturnsInHanded {} C os f .any (s.pre6 enc C.prog fn y false) (s.post enc C.prog fn false true false false):=by
 refine returnsInHanded_of_change_sized own started z X witness ?_;intro W base args ds gs before I hW h4 h5 _;have h3:=hW;obtain⟨p,q,hA,hV,rfl,x2,x1⟩:=hW;rw[m]at hV;obtain⟨rfl,rfl⟩:=trodVars_none hV;obtain⟨xs,M,a1,a2,a3,a4⟩:=NW (fid:=fid) hS fn.params.toList args.toList ds p Y hA (fun j t v Z V=>I j t v (by simpa using Z) (by simpa using V));obtain⟨A,B,key⟩:=plain xs a1;obtain⟨_,hc⟩:=SY hE _ _ _ _ _ _ key;rw[hk]at hc;refine(hc (start W M) W args (by rw[Ls a1];simpa using a2) (fun j v u Z V=>a4 M (bf _) j v u Z (by simpa using V)) (PI W M) (Yi W M [])).mono fun e W' ⟨u,g',he,hp⟩=> ?_
 have hu:u= .bool true:=jq hp.val;have O:=qzy hp;subst he;subst hu
 have F:s.fn H (ds++[])={results:=[.lit (.bool true)],args:=ds}:=by rw[dB];exact G ds (by simpa using a3)
 refine⟨_,rfl,ds,[],_,[],p,[],h3,?_,?_,?_,O.frame _,fun h=>by cases h⟩
 ·rw[F,J]
  exact trodAll_mk1 (shut_bool hb _)
 ·rw[F]
  exact Is D O _ _ _ _ R hA
 ·rw[F,m]
  rfl
theorem Zp{k:IntKind}{x:al}(j:P.underlying t=some (.int k))(h:Shape P t x):∃n,x=[.int k n]/\(Lit.int k n).wf=true:=by
 cases h with
 |int h m=>rw[j]at h;simp at h;subst h;exact⟨_,rfl,m⟩
 |bool h=>rw[j]at h;simp at h
 |str h=>rw[j]at h;simp at h
 |nil h=>rw[j]at h;simp at h
 |row h=>rw[j]at h;simp at h
 |struct h=>rw[j]at h;simp at h
theorem qtv{x:al}(j:P.underlying t=some (.slice e))(h:Shape P t x):∃g xs,x=[.sl g xs]/\xs.length<=maxLen/\(g= .nil->xs=[])/\(∀y:DV,y∈xs->y=d_ P e y.cells)/\∀y:DV,y∈xs->Shape P e y.cells:=by
 cases h with
 |int h m=>rw[j]at h;simp at h
 |bool h=>rw[j]at h;simp at h
 |str h m=>rw[j]at h;simp at h
 |nil h=>exact⟨.nil,[],rfl,by simp,fun _=>rfl,by simp,by simp⟩
 |row h z q C=>rw[j]at h;simp at h;subst h;exact⟨.sub,_,rfl,z,by simp,q,C⟩
 |struct h=>rw[j]at h;simp at h
end
attribute [simp] qTV qTU qTW qYQ qKw qGf T9 Zw WM Uv bo Ol Y9 QY RP qG2 qG3 Tg UQ Vh TA So QM Sb UJ Zu bh aW ba OQ qz5 bd Ny ic VT gJ Ir Z3 O7 SS QK qHH VF qz6 U6 WG
def fW(s:ByteArray)(i:Nat):Int:=((s[i]?).map fun b=>(b.toNat:Int)).getD 0
theorem uK{s:ByteArray}(h:i<s.size):ng s i=some (fW s i):=by simp[ng,fW,h]
@[simp] theorem qY0(A:Ids):Ids.or Ids.none A=A:=by funext x;simp[Ids.or,Ids.none]
theorem Bu(h:n<9223372036854775808):IntKind.i64.wrap (n:Int)=n:=wrap_i64 (by omega) (by omega)
theorem bE(h:n+1<9223372036854775808):IntKind.i64.wrap ((n:Int)+1)=((n+1:Nat):Int):=by have:=Bu h;rw[<-this];congr 1
def CO(h:al):aA:=(flat h).map .d
theorem LW:∀(l:al),aV (l.map .d)=some l
 | []=>rfl
 |v::r=>by simp[aV,LW r]
theorem YO(h:al):aV (CO h)=some (flat h):=LW _
def Kd(agg:Bool)(sz:Nat)(x:DV):Prop:=x.cells.length=sz/\x.cells.all DV.isCell=true/\(agg=true->∃cs,x= .agg cs)/\(agg=false->x.cells=[x])
theorem Ig{agg:Bool}:∀(q:al),(∀x:DV,x∈q->Kd agg sz x)->chunks agg sz q.length (flat q)=some q
 | [],_=>rfl
 |x::r,h=>by
  obtain⟨m,C,F,D⟩:=h x (by simp);have G:=Ig r fun y I=>h y (by simp[I])
  have z:flat (x::r)=x.cells++flat r:=rfl;have j:cut agg sz (flat (x::r))=some x:=by
   rw[z];cases agg with
   |true=>
    obtain⟨cs,rfl⟩:=F rfl;simp only[DV.cells]at m⊢
    simp[cut,<-m]
   |false=>have:=D rfl;rw[this];simp[cut]
  have J:(flat (x::r)).drop sz=flat r:=by rw[z,<-m];simp
  simp only[de,chunks,j,a9,m,C,re,if_true,J,G,bH]
variable {P:Program}
structure SymL where
 name:ByteArray
 arity:Int
 ac:Bool
abbrev aF:=List SymL
def SymL.cells(s:SymL):al:=[.str s.name,.int .i64 s.arity,.bool s.ac]
def SymL.enc(s:SymL):DV:= .agg s.cells
def SymL.ok(s:SymL):Prop:=s.name.size<=maxLen/\-9223372036854775808<=s.arity/\s.arity<=9223372036854775807
inductive TT where
 |node (f v:Int) (g:Tag) (kids:List TT)
mutual
def TT.cells:TT->al
 | .node f v g ks=>[.int .i64 f,.int .i64 v,.sl g (TT.encs ks)]
def TT.encs:List TT->al
 | []=>[]
 |t::r=> .agg t.cells::TT.encs r
end
def TT.enc(t:TT):DV:= .agg t.cells
theorem TT.qeG:∀l:List TT,TT.encs l=l.map TT.enc
 | []=>by unfold TT.encs;rfl
 |t::r=>by unfold TT.encs;simp[TT.enc,TT.qeG r]
mutual
def TT.ok:TT->Prop
 | .node f v g ks=>(-9223372036854775808<=f/\f<=9223372036854775807)/\(-9223372036854775808<=v/\v<=9223372036854775807)/\ks.length<=maxLen/\TT.oks ks
def TT.oks:List TT->Prop
 | []=>True
 |t::r=>t.ok/\TT.oks r
end
end Go.Proofs.YtpcoohnjllclnaaGreat.VS
