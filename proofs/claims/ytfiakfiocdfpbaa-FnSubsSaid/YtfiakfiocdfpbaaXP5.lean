/- Contracts of the program's functions on the evaluator without names, and plain lemmas: part 5. -/
import Derived.Test.YtfiakfiocdfpbaaXP4
import Derived.Test.YtfiakfiocdfpbaaNat1
import Derived.Test.YtfiakfiocdfpbaaEngC
import Derived.Shelf.Spec.SlicesInsertGrow
import Derived.Laws.AppendOwn
set_option linter.unusedSimpArgs false
set_option linter.unusedVariables false
namespace Go.Proofs.Ytfiakfiocdfpbaa.VS
theorem qoM{l:List SymL}{f:Int}(h:qbE l f=true):f≠-1:=by
 unfold qbE at h;simp only[Bool.and_eq_true]at h;have:=(qcZ h.1).1;omega
mutual
def T.full(l:List SymL):T->Prop
 | .node f v ks=>(qbE l f=true->ks≠[])/\T.fulls l ks
def T.fulls(l:List SymL):List T->Prop
 | []=>True
 |t::r=>t.full l/\T.fulls l r
end
mutual
theorem quN(l:List SymL):∀t:T,T.form l t=true->t.full l/\∀x,x∈t.nodes->x.f= -1->x.kids=[]
 | .node f v ks,h=>by
  simp only[T.form]at h
  by_cases hf:f= -1
  ·rw[if_pos hf]at h
   have hk:ks=[]:=by
    simp only[Bool.and_eq_true,decide_eq_true_eq]at h;exact List.eq_nil_of_length_eq_zero h.2
   subst hk;refine⟨⟨fun hb=>absurd hf (qoM hb),trivial⟩,fun x hx _=> ?_⟩;simp only[T.nodes,T.nodess,List.mem_cons,List.not_mem_nil,or_false]at hx;subst hx;rfl
  ·rw[if_neg hf]at h
   split at h
   ·simp at h
   ·rename_i hh
    have hq:=qen _ _ h;have hat:∀i,i<ks.length->T.form l (tAt ks i)=true:=fun i hi=>by
     have:=hq i hi;rw[T.qoR l ks i hi]at this;simp at this;exact this.1
    obtain⟨h1,h2⟩:=qqC l ks hat;refine⟨⟨fun hb hn=>hh ?_,h1⟩,fun x hx hxf=> ?_⟩
    ·subst hn
     have hb':=hb;unfold qbE at hb';simp only[Bool.and_eq_true]at hb';unfold qdW;rw[if_pos hb'.1];split
     ·rw[if_pos hb'.2];simp
     ·rfl
    ·simp only[T.nodes,List.mem_cons]at hx
     rcases hx with rfl|hx
     ·exact absurd hxf hf
     ·exact h2 x hx hxf
theorem qqC(l:List SymL):∀ks:List T,(∀i,i<ks.length->T.form l (tAt ks i)=true)->T.fulls l ks/\∀x,x∈T.nodess ks->x.f= -1->x.kids=[]
 | [],_=>⟨trivial,fun x hx=>by simp[T.nodess]at hx⟩
 |t::r,h=>by
  obtain⟨h1,h2⟩:=quN l t (by have:=h 0 (by simp);simpa[tAt]using this);obtain⟨h3,h4⟩:=qqC l r fun i hi=>by have:=h (i+1) (by simpa using hi);simpa[tAt]using this
  refine⟨⟨h1,h3⟩,fun x hx hxf=> ?_⟩;simp only[T.nodess,List.mem_append]at hx;rcases hx with hx|hx
  ·exact h2 x hx hxf
  ·exact h4 x hx hxf
end
end Go.Proofs.Ytfiakfiocdfpbaa.VS
namespace Go.Proofs.Ytfiakfiocdfpbaa.VS
theorem qvy{l:List SymL}{u:List Bd}(h:qgu l u=true):∀i,i<u.length->qdA l (bAt u i).t=true:=fun i hi=>by
 have h1:=qen _ _ h i hi;unfold qtf at h1;simp only[Bool.or_eq_false_iff]at h1;have h2:=h1.1;unfold qtg at h2;simp only[Bool.or_eq_false_iff]at h2;simpa using h2.2
theorem qo9{l:List SymL}{t:T}(h:qdA l t=true):t.inner<=59/\t.full l/\∀x,x∈t.nodes->x.f= -1->x.kids=[]:=by
 unfold qdA at h;simp only[Bool.and_eq_true,decide_eq_true_eq]at h;obtain⟨h1,h2⟩:=quN l t h.2.2;exact⟨by omega,h1,h2⟩
theorem count_le(t:T)(n:Int):0<=T.sum (wC n) t/\T.sum (wC n) t<=(t.inner:Int)+1:=by
 have h:=qCc t [n] (List.pairwise_singleton _ _);simp only[List.map_cons,List.map_nil,List.sum_cons,List.sum_nil]at h;have h2:=qfA (wC n) t;have h3:=qGa (l:=t.nodes) (w:=wC n) (fun x _=>qLO n x);have h4:=qrN t;omega
theorem qCd(t:T)(n:Int)(h:t.inner<=1099511627776):qOF t n=T.sum (wC n) t:=by
 have:=count_le t n;exact wrap_i64 (by omega) (by omega)
end Go.Proofs.Ytfiakfiocdfpbaa.VS
namespace Go.Proofs.Ytfiakfiocdfpbaa.VS
end Go.Proofs.Ytfiakfiocdfpbaa.VS
namespace Go.Proofs.Ytfiakfiocdfpbaa.VS
theorem qrW:∀i,i<qcd.length->(qaw qcd i).name.size<=1099511627776:=fun i hi=>by have:=qGc.nm 9 (by omega) i hi;omega
end Go.Proofs.Ytfiakfiocdfpbaa.VS
namespace Go.Proofs.Ytfiakfiocdfpbaa.VS
theorem qmu{u:List Bd}(h:∀b,b∈u->BdD b):∀i,i<u.length->(bAt u i).t.inner<=1099511627776:=fun i hi=>by have:=(h _ (qcF hi)).inner;omega
end Go.Proofs.Ytfiakfiocdfpbaa.VS
namespace Go.Proofs.Ytfiakfiocdfpbaa.VS
theorem qwK(s:List SymL)(f:Int){a b:List T}(h:a.Perm b):(flatK s f a).Perm (flatK s f b):=by
 induction h with
 |nil=>exact .refl _
 |cons x _ ih=>rw[qbM,qbM];exact ih.append_left _
 |swap x y l=>
  rw[qbM,qbM,qbM,qbM,<-List.append_assoc,<-List.append_assoc];exact List.perm_append_comm.append_right _
 |trans _ _ h1 h2=>exact h1.trans h2
theorem qhu{a b:List T}(h:a.Perm b):qd6 a=qd6 b:=quI ((qcT a).trans h) (qqu a)
end Go.Proofs.Ytfiakfiocdfpbaa.VS
namespace Go.Proofs.Ytfiakfiocdfpbaa.VS
def qd7(s:List SymL)(u:List Bd)(t:T):T:=(qbu u t).norm s
theorem qoA(u:List Bd)(v:Int):qbu u (.node (-1) v [])=qeN u v:=by simp[qbu]
theorem qfW(u:List Bd){f v:Int}{ks:List T}(h:¬(f= -1/\ks.length=0)):qbu u (.node f v ks)= .node f v (qaT u ks):=by simp only[qbu];rw[if_neg h]
theorem qqO(s:List SymL)(u:List Bd){f v:Int}{ks:List T}(h:¬(f= -1/\ks.length=0))(hb:¬qbE s f=true):qd7 s u (.node f v ks)= .node f v (ks.map (qd7 s u)):=by
 unfold qd7;rw[qfW u h];simp only[T.norm];rw[if_neg hb,qfS s f hb,T.norms_map,qcb,List.map_map];rfl
theorem qgT(s:List SymL)(u:List Bd){f v:Int}{ks:List T}(hb:qbE s f=true):qd7 s u (.node f v ks)= .node f v (qd6 (flatK s f (ks.map (qd7 s u)))):=by
 unfold qd7;rw[qfW u (fun h=>qoM hb h.1)];simp only[T.norm];rw[if_pos hb,T.norms_map,qcb,List.map_map];rfl
theorem qnn{s:List SymL}{f v:Int}{ks:List T}(hb:qbE s f=true):qno s f (.node f v ks)=ks:=by simp[qno,hb]
theorem qFX{s:List SymL}{f:Int}{k:T}(h:k.f≠f):qno s f k=[k]:=by
 have:(k.f==f)=false:=by simpa using h
 simp[qno,this]
theorem qFl(s:List SymL)(u:List Bd)(f:Int)(hb:qbE s f=true)(k:T):(flatK s f ((qno s f k).map (qd7 s u))).Perm (qno s f (qd7 s u k)):=by
 by_cases h:k.f=f
 ·obtain⟨f',v,ks⟩:=k
  simp only[T.qcj]at h;subst h;rw[qnn hb,qgT s u hb,qnn hb];exact(qcT _).symm
 ·rw[qFX h]
  simp[flatK]
theorem qqI(s:List SymL)(u:List Bd)(f:Int)(hb:qbE s f=true):∀l:List T,(flatK s f ((flatK s f l).map (qd7 s u))).Perm (flatK s f (l.map (qd7 s u)))
 | []=> .refl _
 |k::l=>by
  rw[qbM,List.map_append,qjn,List.map_cons,qbM];exact(qFl s u f hb k).append (qqI s u f hb l)
mutual
theorem qgE(s:List SymL)(u:List Bd):∀t:T,qd7 s u (t.norm s)=qd7 s u t
 | .node f v ks=>by
  have ih:=qfr s u ks
  by_cases hv:f= -1/\ks.length=0
  ·obtain⟨rfl,h0⟩:=hv
   have:ks=[]:=List.eq_nil_of_length_eq_zero h0;subst this;have hb:¬qbE s (-1)=true:=fun h=>qoM h rfl
   simp only[T.norm];rw[if_neg hb,qfS s _ hb];rfl
  ·by_cases hb:qbE s f=true
   ·simp only[T.norm]
    rw[if_pos hb,qgT s u hb,qgT s u hb,T.norms_map];rw[qhu (qwK s f ((qcT (flatK s f (ks.map (T.norm s)))).map (qd7 s u)))];rw[qhu (qqI s u f hb (ks.map (T.norm s)))];rw[List.map_map,show ks.map (qd7 s u∘T.norm s)=ks.map (qd7 s u)from List.map_congr_left ih]
   ·simp only[T.norm]
    rw[if_neg hb,qfS s f hb,T.norms_map,qqO s u (by simpa using hv) hb,qqO s u hv hb,List.map_map];rw[show ks.map (qd7 s u∘T.norm s)=ks.map (qd7 s u)from List.map_congr_left ih]
theorem qfr(s:List SymL)(u:List Bd):∀(l:List T) (t:T),t∈l->qd7 s u (t.norm s)=qd7 s u t
 | [],t,h=>by simp at h
 |a::l,t,h=>by
  rcases List.mem_cons.1 h with h|h
  ·rw[h];exact qgE s u a
  ·exact qfr s u l t h
end
mutual
theorem qqM(u:List Bd):∀t:T,(∀x,x∈t.nodes->x.f= -1->qdX u x.v=none)->qbu u t=t
 | .node f v ks,h=>by
  by_cases hv:f= -1/\ks.length=0
  ·obtain⟨rfl,h0⟩:=hv
   have hk:ks=[]:=List.eq_nil_of_length_eq_zero h0;subst hk;have:=h (.node (-1) v []) (by simp[T.nodes]) rfl;simp only[T.qcV]at this;rw[qoA];unfold qeN;rw[this]
  ·rw[qfW u hv,qm6 u ks (fun x hx=>h x (by simp[T.nodes,hx]))]
theorem qm6(u:List Bd):∀ks:List T,(∀x,x∈T.nodess ks->x.f= -1->qdX u x.v=none)->qaT u ks=ks
 | [],_=>rfl
 |t::r,h=>by
  simp only[qaT];rw[qqM u t (fun x hx=>h x (by simp[T.nodess,hx])),qm6 u r (fun x hx=>h x (by simp[T.nodess,hx]))]
end
def qOX(u:List Bd):Prop:=∀i,i<u.length->qbu u (bAt u i).t=(bAt u i).t
theorem qE4{u:List Bd}(h:qOX u)(v:Int):qbu u (qeN u v)=qeN u v:=by
 unfold qeN;cases hf:qdX u v with
 |none=>simp only;rw[qoA];unfold qeN;rw[hf]
 |some i=>
  simp only;unfold qdX at hf;exact h i (by have:=(qb2 _ _ _ _ hf).2.1;omega)
mutual
theorem qqN{u:List Bd}(h:qOX u):∀t:T,qbu u (qbu u t)=qbu u t
 | .node f v ks=>by
  by_cases hv:f= -1/\ks.length=0
  ·obtain⟨rfl,h0⟩:=hv
   have hk:ks=[]:=List.eq_nil_of_length_eq_zero h0;subst hk;rw[qoA,qE4 h]
  ·have hv':¬(f= -1/\(qaT u ks).length=0):=by rw[qcb,List.length_map];exact hv
   rw[qfW u hv,qfW u hv',qlK h ks]
theorem qlK{u:List Bd}(h:qOX u):∀l:List T,qaT u (qaT u l)=qaT u l
 | []=>rfl
 |t::r=>by simp only[qaT];rw[qqN h t,qlK h r]
end
theorem qth(s:List SymL){u:List Bd}(h:qOX u)(t:T):qbR s u (qbR s u t)=qbR s u t:=by
 show qd7 s u ((qbu u t).norm s)=qd7 s u t;rw[qgE];unfold qd7;rw[qqN h]
theorem qyZ{w:T->Int}:∀{l:List T},(∀x,x∈l->0<=w x)->∀x,x∈l->w x<=(l.map w).sum
 | [],_,x,h=>by simp at h
 |a::l,h0,x,h=>by
  have h1:=h0 a (by simp);have h2:=qGa (l:=l) (w:=w) (fun y hy=>h0 y (by simp[hy]));simp only[List.map_cons,List.sum_cons];rcases List.mem_cons.1 h with h|h
  ·subst h;omega
  ·have:=qyZ (fun y hy=>h0 y (by simp[hy])) x h;omega
theorem qvx{l:List SymL}{u:List Bd}(h:qgu l u=true):qOX u:=fun i hi=>by
 have hok:=(qo9 (qvy h i hi)).1;rw[qy2]at h;have h1:=qen _ _ h i hi;unfold qte at h1;simp only[Bool.or_eq_false_iff]at h1;have h2:=qel.1 h1.2;refine qqM u _ fun x hx hf=> ?_
 cases hq:qdX u x.v with
 |none=>rfl
 |some j=>
  exfalso;unfold qdX at hq;obtain⟨_,g2,g3⟩:=qb2 _ _ _ _ hq;have hj:=h2 j (by omega);unfold qxE at hj;have hv:(bAt u j).v=x.v:=by simpa using g3
  rw[hv]at hj;have e:cnt (bAt u i).t x.v=T.sum (wC x.v) (bAt u i).t:=qCd _ _ (by omega);rw[e,qfA]at hj;have:=qyZ (w:=wC x.v) (fun y _=>qLO _ y) x hx;have hw:wC x.v x=1:=by unfold wC;rw[if_pos ⟨hf,rfl⟩]
  simp only[decide_eq_false_iff_not]at hj;omega
theorem qJr(L:List Bd)(v:Int)(t:T)(h1:∀b,b∈L->b.v=v->b.t=t)(h2:∃b,b∈L/\b.v=v):qeN L v=t:=by
 unfold qeN;cases hf:qdX L v with
 |none=>
  exfalso;obtain⟨b,hb,hv⟩:=h2;obtain⟨i,hi,rfl⟩:=List.getElem_of_mem hb;unfold qdX at hf;have:=qen _ _ (by rw[hf];rfl) i hi;rw[qaP hi]at hv;simp only[beq_eq_false_iff_ne,ne_eq]at this;exact this hv
 |some i=>
  unfold qdX at hf;obtain⟨_,g2,g3⟩:=qb2 _ _ _ _ hf;exact h1 _ (qcF (by omega)) (by simpa using g3)
theorem qHK(l:List SymL)(u:List Bd)(v:Int)(t:T):∀i,∀b,b∈qiF l u v t i->b.v=v->b.t=t
 |0,b,h,_=>by simp[qiF]at h
 |i+1,b,h,hv=>by
  simp only[qiF]at h;rcases List.mem_append.1 h with h|h
  ·exact qHK l u v t i b h hv
  ·unfold qC6 at h
   rcases List.mem_append.1 h with h|h
   ·split at h
    ·simp at h;subst h;rfl
    ·simp at h
   ·split at h
    ·simp at h
    ·rename_i hc
     simp at h;subst h
     simp only at hv;exact absurd (by simpa using hv) hc
theorem qCV(l:List SymL)(u:List Bd)(v:Int)(t:T)(j:Nat)(hj:atB u v j=true):∀i,j<i->(⟨v,t⟩:Bd)∈qiF l u v t i
 |0,h=>by omega
 |i+1,h=>by
  simp only[qiF]
  by_cases c:j=i
  ·subst c
   refine List.mem_append_right _ ?_;unfold qC6;rw[if_pos hj];simp
  ·exact List.mem_append_left _ (qCV l u v t j hj i (by omega))
theorem qsE(l:List SymL)(u:List Bd)(v:Int)(t:T):qeN (qbC l u v t) v=t:=by
 refine qJr _ v t (fun b hb hv=> ?_) ?_
 ·unfold qbC at hb
  rcases List.mem_append.1 hb with h|h
  ·exact qHK l u v t _ b h hv
  ·split at h
   ·simp at h
   ·simp at h;subst h;rfl
 ·unfold qbC
  cases hp:qdS u v with
  |none=>exact⟨⟨v,t⟩,by simp,rfl⟩
  |some j=>
   have hj:j<u.length:=by unfold qdS at hp;have:=(qb2 _ _ _ _ hp).2.1;omega
   refine⟨⟨v,t⟩,List.mem_append_left _ (qCV l u v t j (by unfold atB;simp[hp]) _ hj),rfl⟩
end Go.Proofs.Ytfiakfiocdfpbaa.VS
namespace Go.Proofs.Ytfiakfiocdfpbaa.VS
def qHx(u w:List Bd)(i:Nat):Bool:= !((bAt u i).v==(bAt w i).v&&T.cmp (bAt u i).t (bAt w i).t==0)
def qEn(u w:List Bd):Bool:=decide (u.length=w.length)&&(qaD (qHx u w) u.length 0).isNone
theorem qLQ(t:T):DV.agg [.int .i64 t.f,.int .i64 t.v,qaj .sub t.kids]=t.enc .sub:=by rw[T.qbF]
theorem qvH(u w:List Bd)(hu:u.length<=1099511627776)(hw:w.length<=1099511627776)(bu:∀i,i<u.length->(bAt u i).t.inner<=1099511627776)(bw:∀i,i<w.length->(bAt w i).t.inner<=1099511627776):
 qaf XV 143 [.d (binds .sub u),.d (binds .sub w)] []=some (.d (.bool (qEn u w)),[]):=by
 rw[qap XV _ _ _ qIt rfl qyu rfl];unfold qEn
 by_cases hl:u.length=w.length
 ·have hloop:=qat (X:=XV) (T:=XV.lin 143) (L:=0) (live:=[0,1,5]) (b:=qnk) (n:=u.length) (γ:=Nat) (st:=fun(_:Unit) i=>⟨[(0,.d (binds .sub u)),(1,.d (binds .sub w)),(5,.d (.int .i64 i))],[]⟩) (step:=qcD (qHx u w))
   (F:=fun _=>(.exit 0,⟨[(0,.d (binds .sub u)),(1,.d (binds .sub w)),(5,.d (.int .i64 u.length)),(14,.d (.bool false))],[]⟩)) (R:=fun _=>(.ret,⟨[(4,.d (.bool false))],[]⟩))
   (fun _=>⟨by simp,by simp[qnk,qlg,qlf,qle,qld,qmU,qq2,qmS,qmT,qlc]⟩)
   (fun _ i hi=>by
    have hi':i<w.length:=by omega
    have hwr:=qao (n:=i) (by omega);have hc:=qgN (bAt u i).t (bAt w i).t (bu i hi) (bw i hi');unfold qcD;cases hq:qHx u w i with
    |true=>
     simp only[if_true];refine⟨by simp,?_⟩;unfold qHx at hq
     by_cases e:(bAt u i).v=(bAt w i).v
     ·have e2:(T.cmp (bAt u i).t (bAt w i).t==0)=false:=by
       have e1:((bAt u i).v==(bAt w i).v)=true:=by simpa using e
       rw[e1]at hq;simpa using hq
      rw[e2]at hc;simp[qnk,qlg,qlf,qle,qld,qmU,qq2,qmS,qmT,qlc,hi,hi',cut,qaP hi,qaP hi',e,qLQ,hc]
     ·have e1:((bAt u i).v==(bAt w i).v)=false:=by simpa using e
      have e3:((bAt u i).v !=(bAt w i).v)=true:=by simpa using e
      simp[qnk,qlg,qlf,qle,qld,qmU,qq2,qmS,qmT,qlc,hi,hi',cut,qaP hi,qaP hi',e3]
    |false=>
     simp only[Bool.false_eq_true,if_false];unfold qHx at hq;simp only[Bool.not_eq_false',Bool.and_eq_true,beq_iff_eq]at hq;have e2:(T.cmp (bAt u i).t (bAt w i).t==0)=true:=by simpa using hq.2
     rw[e2]at hc;refine⟨_,by simp[qnk,qlg,qlf,qle,qld,qmU,qq2,qmS,qmT,qlc,hi,hi',hwr,cut,qaP hi,qaP hi',hq.1,qLQ,hc];rfl,by simp[qag,qad]⟩)
   u.length () 0 ⟨[(0,.d (binds .sub u)),(1,.d (binds .sub w)),(5,.d (.int .i64 0))],[]⟩ (by omega) (by simp[qag,qad])
  rw[qr0]at hloop;have hlI:(u.length:Int)=w.length:=by omega
  have e0:decide (u.length=w.length)=true:=by simpa using hl
  rw[e0];simp only[qJJ]at hloop;simp[qIt,qlg,qlf,qle,qld,hlI];simp only[binds]at hloop;rw[hloop];cases qaD (qHx u w) u.length 0 with
  |none=>simp[qlc]
  |some j=>simp
 ·have e0:decide (u.length=w.length)=false:=by simpa using hl
  have hlI:¬(u.length:Int)=w.length:=by omega
  have h3:((u.length:Int) !=w.length)=true:=by simpa using hlI
  rw[e0];simp[qIt,qlg,qlf,qle,qld,qmU,qq2,qmS,qmT,qlc,h3]
theorem qvI(u:List Bd):qEn u u=true:=by
 unfold qEn;simp only[decide_true,Bool.true_and];cases hf:qaD (qHx u u) u.length 0 with
 |none=>rfl
 |some j=>
  have:=(qb2 _ _ _ _ hf).2.2;unfold qHx at this;have h0:=qiy (bAt u j).t (bAt u j).t;have h1:T.cmp (bAt u j).t (bAt u j).t=0:=by omega
  rw[h1]at this;simp at this
end Go.Proofs.Ytfiakfiocdfpbaa.VS
namespace Go.Proofs.Ytfiakfiocdfpbaa.VS
def qfw:ByteArray:=⟨#[59]⟩
def qwQ:ByteArray:=⟨#[61]⟩
def qmf(l:List SymL)(s:List Bd)(i:Nat):ByteArray:=xB++digits (bAt s i).v++qwQ++T.text l (bAt s i).t
theorem qy1(l:List SymL)(hn:∀i,i<l.length->(qaw l i).name.size<=1048576)(s:List Bd)(hso:∀b,b∈s->b.ok)(hr:∀b,b∈s->b.t.rng)(i:Nat)(hi:i<s.length):(qmf l s i).size+1<=1048604*((bAt s i).t.inner+1)+24:=by
 have h1:=qeD l hn (bAt s i).t (hr _ (qcF hi));have hb:=(hso _ (qcF hi)).1;have h2:=qcx hb.1 hb.2;have e1:xB.size=1:=rfl;have e2:qwQ.size=1:=rfl;unfold qmf;simp only[ByteArray.size_append];omega
theorem qg4(w:Nat->Nat):∀(k i:Nat),qtv w i (k+1)=qtv w i k+w (i+k)
 |0,i=>by simp[qtv]
 |k+1,i=>by
  rw[qtv,qg4 w k (i+1),qtv];rw[show i+1+k=i+(k+1)by omega];omega
theorem qIx(w:Nat->Nat)(i:Nat):∀(k m:Nat),k<=m->qtv w i k<=qtv w i m:=by
 intro k m h
 induction m with
 |zero=>obtain rfl:k=0:=by omega
        exact Nat.le_refl _
 |succ m ih=>
  rcases Nat.eq_or_lt_of_le h with rfl|h
  ·exact Nat.le_refl _
  ·rw[qg4];have:=ih (by omega);omega
theorem qpe(l:List SymL)(hn:∀i,i<l.length->(qaw l i).name.size<=1048576)(s:List Bd)(hso:∀b,b∈s->b.ok)(hr:∀b,b∈s->b.t.rng):∀k,k<=s.length->(txt (qmf l s) qfw k).size<=1048604*qtv (fun i=>(bAt s i).t.inner) 0 k+1048628*k
 |0,_=>by simp[txt]
 |k+1,h=>by
  have ih:=qpe l hn s hso hr k (by omega);have h1:=qy1 l hn s hso hr k (by omega);have hc:qfw.size=1:=rfl;rw[qg4];simp only[Nat.zero_add];unfold txt;split<;>simp only[ByteArray.size_append]<;>omega
theorem qtw(l:List SymL)(hn:∀i,i<l.length->(qaw l i).name.size<=1048576)(s:List Bd)(hso:∀b,b∈s->b.ok)(hr:∀b,b∈s->b.t.rng)(hb:qcJ s<=1048576)(k:Nat)(hk:k<=s.length):(txt (qmf l s) qfw k).size<=1099567000000:=by
 have h:=qpe l hn s hso hr k hk;have h2:=qIx (fun i=>(bAt s i).t.inner) 0 k s.length hk;unfold qcJ at hb;omega
theorem qmo(l:List SymL)(s:List Bd)(hs:l.length<=1048576)(hn:∀i,i<l.length->(qaw l i).name.size<=1048576)(hso:∀b,b∈s->b.ok)(hr:∀b,b∈s->b.t.rng)(hbs:qcJ s<=1048576):
 qaf XV 91 [.d (sg l),.d (binds .sub s)] []=some (.d (.str (txt (qmf l s) qfw s.length)),[]):=by
 rw[qap XV _ _ _ v91 rfl qDl rfl];have hl:s.length<=1048576:=by unfold qcJ at hbs;omega
 have h:=qat (X:=XV) (T:=XV.lin 91) (L:=0) (live:=[0,5,9,10,11]) (b:=qFP) (n:=s.length) (γ:=Unit) (st:=fun(_:Unit) i=>⟨[(0,.d (sg l)),(5,.d (.sl U (strs (qmf l s) i))),(9,.d (binds .sub s)),(10,.d (.int .i64 s.length)),(11,.d (.int .i64 i))],[]⟩) (step:=fun _ _=> .inl ())
  (F:=fun _=>(.exit 0,⟨[(0,.d (sg l)),(5,.d (.sl U (strs (qmf l s) s.length))),(9,.d (binds .sub s)),(10,.d (.int .i64 s.length)),(11,.d (.int .i64 s.length)),(12,.d (.bool false))],[]⟩)) (R:=fun _=>(.ret,⟨[],[]⟩))
  (fun _=>⟨by simp,by simp[qFP,qzx,qzw,qzv,qzu,qzt,qFt,qzs,qzr]⟩)
  (fun _ i hi=>by
   have hw:=qao (n:=i) (by omega);have hb:=(hso _ (qcF hi)).1;have hd:=qhx (bAt s i).v hb.1 hb.2;have hds:=qcx hb.1 hb.2;have hti:=qCw s i hi;have ht:=qlE l hs hn (bAt s i).t (by omega) (hr _ (qcF hi));have hts:=qeD l hn (bAt s i).t (hr _ (qcF hi));have e1:xB.size=1:=rfl;have e2:qwQ.size=1:=rfl;have a1:qbG .add (.str ⟨#[88]⟩) (.str (digits (bAt s i).v))=some (.str (xB++digits (bAt s i).v)):=qaO (a:=xB) (by omega);have a2:qbG .add (.str (xB++digits (bAt s i).v)) (.str ⟨#[61]⟩)=some (.str (xB++digits (bAt s i).v++qwQ)):=qaO (b:=qwQ) (by simp only[ByteArray.size_append];omega);have a3:qbG .add (.str (xB++digits (bAt s i).v++qwQ)) (.str (T.text l (bAt s i).t))=some (.str (xB++digits (bAt s i).v++qwQ++T.text l (bAt s i).t)):=qaO (by simp only[ByteArray.size_append];omega);have ha:=fun g=>qHJ (qmf l s) i g (by omega)
   simp only[qmf]at ha;refine⟨_,by simp[qFP,qzx,qzw,qzv,qzu,qzt,qFt,qzs,qzr,splice,qae,qaa,qab,qac,qai,hi,hw,cut,qaP hi,hd,ht,ha,a1,a2,a3,qay,List.replicate];rfl,by simp[qag,qad]⟩)
  s.length () 0 ⟨[(0,.d (sg l)),(5,.d (.sl U [])),(9,.d (binds .sub s)),(10,.d (.int .i64 s.length)),(11,.d (.int .i64 0))],[]⟩ (by omega) (by simp[qag,qad,strs])
 rw[qg7]at h;simp only[qNO]at h;have hj0:∀B,qaf XV 93 [.d (.sl .sub (strs (qmf l s) s.length)),.d (.str ⟨#[59]⟩)] B=some (.d (.str (txt (qmf l s) qfw s.length)),B):=fun B=>qBc (qmf l s) qfw s.length .sub B (by omega) (by have:=qtw l hn s hso hr hbs s.length (by omega);omega)
 simp[v91,qzx,qzw,qzv,qzu,qzt,qFt,qzs,qzr,qay,List.replicate];rw[h];simp[v91,qzx,qzw,qzv,qzu,qzt,qFt,qzs,qzr,hj0]
theorem qmm(l:List SymL)(s:List Bd)(hs:l.length<=1048576)(hn:∀i,i<l.length->(qaw l i).name.size<=1048576)(hso:∀b,b∈s->b.ok)(hr:∀b,b∈s->b.t.rng)(hbs:qcJ s<=1048576):
 qaf XV 90 [.d (sg l),.d (binds .sub s)] []=some (.d (.str (txt (qmf l s) qfw s.length)),[]):=by
 rw[qap XV _ _ _ v90 rfl qDm rfl];have hl:s.length<=1048576:=by unfold qcJ at hbs;omega
 have h:=qho (X:=XV) (T:=[]) (L:=0) (live:=[0,1,5,6]) (b:=qCD) (n:=s.length) (γ:=Unit) (st:=fun(t:ByteArray) i=>⟨[(0,.d (sg l)),(1,.d (binds .sub s)),(5,.d (.str t)),(6,.d (.int .i64 i))],[]⟩) (step:=qy7 (qmf l s) qfw)
  (F:=fun t=>(.exit 0,⟨[(0,.d (sg l)),(1,.d (binds .sub s)),(5,.d (.str t)),(6,.d (.int .i64 s.length)),(10,.d (.bool false))],[]⟩)) (R:=fun _=>(.ret,⟨[],[]⟩))
  (fun t i=>t=txt (qmf l s) qfw i)
  (fun _ _=>⟨by simp,by simp[qCD,qvU,qvT,qvS,qvR,qvP,qvO,qB3,qvQ,qvN]⟩)
  (fun t i hi ht=>by
   subst ht;have hw:=qao (n:=i) (by omega);have hb:=(hso _ (qcF hi)).1;have hd:=qg5 (bAt s i).v hb.1 hb.2;have hds:=qcx hb.1 hb.2;have hti:=qCw s i hi;have ht:=qko l hs hn (bAt s i).t (by omega) (hr _ (qcF hi));have hts:=qeD l hn (bAt s i).t (hr _ (qcF hi));have e1:xB.size=1:=rfl;have e2:qwQ.size=1:=rfl;have e3:qfw.size=1:=rfl;have hsz:=qtw l hn s hso hr hbs i (by omega);refine⟨?_,fun a' h=>by simp only[qy7,Sum.inl.injEq]at h;rw[<-h];rfl⟩;unfold qy7;generalize txt (qmf l s) qfw i=t0 at*
   have a0:qbG .add (.str t0) (.str ⟨#[59]⟩)=some (.str (t0++qfw)):=qaO (b:=qfw) (by omega);obtain⟨t1,ht1,hz⟩:∃t1,t1=(if 0<i then t0++qfw else t0)/\t1.size<=t0.size+1:=⟨_,rfl,by split<;>(try simp only[ByteArray.size_append])<;>omega⟩;rw[<-ht1];have a1:qbG .add (.str t1) (.str ⟨#[88]⟩)=some (.str (t1++xB)):=qaO (b:=xB) (by omega);have a2:qbG .add (.str (t1++xB)) (.str (digits (bAt s i).v))=some (.str (t1++xB++digits (bAt s i).v)):=qaO (by simp only[ByteArray.size_append];omega);have a3:qbG .add (.str (t1++xB++digits (bAt s i).v)) (.str ⟨#[61]⟩)=some (.str (t1++xB++digits (bAt s i).v++qwQ)):=qaO (b:=qwQ) (by simp only[ByteArray.size_append];omega);have a4:qbG .add (.str (t1++xB++digits (bAt s i).v++qwQ)) (.str (T.text l (bAt s i).t))=some (.str (t1++xB++digits (bAt s i).v++qwQ++T.text l (bAt s i).t)):=qaO (by simp only[ByteArray.size_append];omega);have hp:t1++qmf l s i=t1++xB++digits (bAt s i).v++qwQ++T.text l (bAt s i).t:=by simp[qmf,ByteArray.append_assoc]
   rw[hp]
   by_cases c0:0<i
   ·rw[if_pos c0]at ht1
    subst ht1;refine⟨_,by simp[qCD,qvU,qvT,qvS,qvR,qvP,qvO,qB3,qvQ,qvN,hi,hw,cut,qaP hi,hd,ht,c0,a0,a1,a2,a3,a4];rfl,by simp[qag,qad]⟩
   ·rw[if_neg c0]at ht1
    subst ht1;refine⟨_,by simp[qCD,qvU,qvT,qvS,qvR,qvP,qvO,qB3,qvQ,qvN,hi,hw,cut,qaP hi,hd,ht,c0,a1,a2,a3,a4];rfl,by simp[qag,qad]⟩)
  s.length ByteArray.empty 0 ⟨[(0,.d (sg l)),(1,.d (binds .sub s)),(5,.d (.str ByteArray.empty)),(6,.d (.int .i64 0))],[]⟩ (by omega) rfl (by simp[qag,qad])
 have hr2:=qSY (qmf l s) qfw s.length 0;rw[Nat.zero_add]at hr2;rw[show ByteArray.empty=txt (qmf l s) qfw 0 from rfl,hr2]at h;simp[v90,qvU,qvT,qvS,qvR,qvP,qvO,qB3,qvQ,qvN];simp only[show(⟨#[]⟩:ByteArray)=txt (qmf l s) qfw 0 from rfl,h];simp[v90,qvU,qvT,qvS,qvR,qvP,qvO,qB3,qvQ,qvN]
end Go.Proofs.Ytfiakfiocdfpbaa.VS
namespace Go.Proofs.Ytfiakfiocdfpbaa.VS
theorem qkt(t:T)(ht:t.inner<=1099511627776):qaf XV 4 [.d (t.enc .sub),.d (t.enc .sub)] []=some (.d (.bool true),[]):=by
 rw[same_eq t t ht ht];have:=qiy t t;have h:T.cmp t t=0:=by omega
 rw[h];rfl
end Go.Proofs.Ytfiakfiocdfpbaa.VS
namespace Go.Proofs.Ytfiakfiocdfpbaa.VS
theorem qmr(bs:List Int)(hl:bs.length<=1099511627776):∃(u:List Bd) (g:Tag) (ds:List DV),(u.length<=4/\(∀b,b∈u->BdD b)/\ds.map DV.clr=u.map (Bd.enc .sub))/\
 qaf XV 140 [.d (.sl .sub (bs.map (.int .u8)))] []=some (.d (.tup [.sl U (qcd.map SymL.enc),.sl g ds]),[]):=by
 obtain⟨st,h1⟩:=qhq bs hl [];obtain⟨u,g,ds,p1,s1,hu,hud,hds,hp1,hc1⟩:=qfM bs hl 0 st ⟨Int.le_refl _,by omega⟩;refine⟨u,g,ds,⟨hu,hud,hds⟩,?_⟩;have hs:=qgg;generalize hsq:qcd.map SymL.enc=sq at hs⊢
 have hqc:sq.map DV.clr=sq:=by rw[<-hsq];exact qeP _
 simp only[List.nil_append,List.length_nil]at h1;rw[qap XV _ _ _ qKY rfl qyx rfl];simp[qKY,qGW,qGV,h1,hc1,hs,hqc,qcc,qbh,splice,qaa,qab,qac,qai,qae]
mutual
theorem quw:∀t:T,t.inner<=1000000->t.ok
 | .node f v ks,h=>by
  simp only[T.inner]at h;simp only[T.ok];exact⟨by unfold maxLen;omega,qqi ks (by omega)⟩
theorem qqi:∀l:List T,T.inners l<=1000000->T.oks l
 | [],_=>trivial
 |t::r,h=>by
  simp only[T.inners]at h;exact⟨quw t (by omega),qqi r (by omega)⟩
end
theorem qmD(w:Nat->Nat)(M:Nat):∀k i,(∀j,i<=j->j<i+k->w j<=M)->qtv w i k<=M*k
 |0,i,_=>by simp[qtv]
 |k+1,i,h=>by
  have:=qmD w M k i (fun j h1 h2=>h j h1 (by omega));have:=h (i+k) (by omega) (by omega);rw[qg4,Nat.mul_succ];omega
theorem qmI{u:List Bd}(h4:u.length<=4)(h:∀b,b∈u->BdD b):qcJ u<=1048576:=by
 have:=qmD (fun i=>(bAt u i).t.inner) 14 u.length 0 (fun j _ hj=>(h _ (qcF (by omega))).inner);unfold qcJ;omega
theorem qF1(bs:List Int)(hl:bs.length<=maxLen):∃B,qaf XV 132 [.d (.sl .sub (bs.map (.int .u8)))] []=some (.d (.bool true),B):=by
 rw[qap XV _ _ _ qF8 rfl qyF rfl];have hbig:=qOQ bs
 by_cases h1:1048576<bs.length
 ·simp only[h1,decide_true]at hbig
  simp[qF8,quq,qup,qun,qum,qul,quk,quj,qui,quh,qug,qs2,qof,qs1,qoe,qs0,hbig]
 have hls:bs.length<=1099511627776:=by omega
 simp only[h1,decide_false]at hbig;obtain⟨u,g1,ds1,t,⟨hu,hud,hds1⟩,⟨ht,_⟩,d1⟩:=qqV bs hls;obtain⟨w,g2,ds2,n,y,⟨hw,hwd,hds2⟩,hy,d2⟩:=qoE bs hls;obtain⟨lu,g3,ds3,k,⟨hlu,hlud,hds3⟩,d3⟩:=qsY bs hls;obtain⟨e,g4,ds4,⟨he,hed,hds4⟩,d4⟩:=qqU bs hls;obtain⟨x,g5,ds5,⟨hx,hxd,hds5⟩,d5⟩:=qmr bs hls;have hM:∀i,i<u.length->(bAt u i).t.inner<=14:=fun i hi=>(hud _ (qcF hi)).inner
 have it:(qbu u t).inner<=300:=by
  have:=qff u 14 hM t;have:(t.inner+1)*(14+1)<=15*15:=Nat.mul_le_mul (by omega) (by omega);omega
 have ia:=qjE qcd u t;have itt:(qbu u (qbR qcd u t)).inner<=5000:=by
  have:=qff u 14 hM (qbR qcd u t);have:((qbR qcd u t).inner+1)*(14+1)<=301*15:=Nat.mul_le_mul (by omega) (by omega);omega
 have a1:=qfO qcd (by decide) u t (by omega) (qmu hud) (by omega) (by omega);obtain⟨da,a2,gd,X,rfl,hX⟩:=qiO qcd (by decide) u t (by omega) (qmu hud) (by omega) (by omega);have a3:=qfO qcd (by decide) u (qbR qcd u t) (by omega) (qmu hud) (by omega) (by omega);have s1:=qkt (qbR qcd u t) (by omega);have hf:∀i,i<w.length->(qbu [⟨n,y⟩] (bAt w i).t).inner<=300:=fun i hi=>by
  have:=qff [⟨n,y⟩] 6 (fun j hj=>by simp at hj;subst hj;exact hy) (bAt w i).t;have:=(hwd _ (qcF hi)).inner;have:((bAt w i).t.inner+1)*(6+1)<=15*7:=Nat.mul_le_mul (by omega) (by omega);omega
 have b1:=qou qcd (by decide) w n y (by omega) (qmu hwd) (by omega) (fun i hi=>by have:=hf i hi;omega);obtain⟨R,b2,hR⟩:=qnF qcd (by decide) w n y (by omega) (qmu hwd) (by omega) (fun i hi=>by have:=hf i hi;omega);have hbl:(qbC qcd w n y).length<=9:=by
  have:=qgp qcd w n y w.length;unfold qbC;rw[List.length_append];split<;>simp<;>omega
 have hbi:∀i,i<(qbC qcd w n y).length->(bAt (qbC qcd w n y) i).t.inner<=300:=fun i hi=>by
  have hm:=qcF hi;generalize bAt (qbC qcd w n y) i=b at hm⊢
  unfold qbC at hm;rcases List.mem_append.1 hm with h|h
  ·exact qvf qcd w n y 300 (by omega) (fun j hj=>by
    have:=qjE qcd [⟨n,y⟩] (bAt w j).t;have:=hf j hj;omega) _ (Nat.le_refl _) _ h
  ·split at h
   ·simp at h
   ·simp at h;subst h;simp only;omega
 have c1:=qvH (qbC qcd w n y) (qbC qcd w n y) (by omega) (by omega) (fun i hi=>by have:=hbi i hi;omega) (fun i hi=>by have:=hbi i hi;omega);rw[qvI]at c1;have c2:=qgS (qbC qcd w n y) n (by omega) (fun i hi=>by have:=hbi i hi;omega);rw[qsE]at c2;have s2:=qkt y (by omega);have l1:=qgS lu k (by omega) (qmu hlud);have l2:=qkp lu k (by omega) (qmu hlud);have hlk:=qqo lu k 14 (fun i hi=>(hlud _ (qcF hi)).inner);have s3:=qkt (qeN lu k) (by omega);have o1:=qjk qcd e (by decide) qrW (by omega) (qmu hed);have o2:=qpi qcd e (by decide) qrW (by omega) (qmu hed);have o3:=qjk qcd u (by decide) qrW (by omega) (qmu hud);have hnm:∀i,i<qcd.length->(qaw qcd i).name.size<=1048576:=fun i hi=>by have:=qGc.nm 9 (by omega) i hi;omega
 have hok:∀b,b∈x->b.ok:=fun b hb=>⟨by have:=(hxd b hb).v;omega,quw _ (by have:=(hxd b hb).inner;omega)⟩
 have x1:=qmo qcd x (by decide) hnm hok (fun b hb=>(hxd b hb).rng) (qmI hx hxd);have x2:=qmm qcd x (by decide) hnm hok (fun b hb=>(hxd b hb).rng) (qmI hx hxd);have htw:qgu qcd u=true->qbR qcd u (qbR qcd u t)=qbR qcd u t:=fun h=>qth qcd (qvx h) t
 simp only[sg,binds]at a1 a2 a3 b1 b2 c1 c2 l1 l2 o1 o2 o3 x1 x2;have hqc:(qcd.map SymL.enc).map DV.clr=qcd.map SymL.enc:=qeP _;have hu1:((qbC qcd w n y).map (Bd.enc U)).map DV.clr=(qbC qcd w n y).map (Bd.enc .sub):=by simp
 have cc:∀v:List Bd,(v.map (Bd.enc .sub)).map DV.clr=v.map (Bd.enc .sub):=fun v=>by simp
 have cu:=cc u;have cw:=cc w;have cl:=cc lu;have ce:=cc e;have cx:=cc x;have cb:=cc (qbC qcd w n y);generalize qcd.map SymL.enc=sq at*
 generalize u.map (Bd.enc .sub)=uq at*
 generalize w.map (Bd.enc .sub)=wq at*
 generalize lu.map (Bd.enc .sub)=lq at*
 generalize e.map (Bd.enc .sub)=eq at*
 generalize x.map (Bd.enc .sub)=xq at*
 generalize (qbC qcd w n y).map (Bd.enc .sub)=bq at*
 generalize (qbC qcd w n y).map (Bd.enc U)=bU at*
 generalize txt (qmf qcd x) qfw x.length=tx at*
 generalize qgu qcd e=so at*
 generalize hsu:qgu qcd u=su at*
 generalize qbR qcd u (qbR qcd u t)=m2 at*
 generalize qbR qcd u t=m at*
 generalize qeN lu k=q at*
 obtain⟨mf,mv,mk⟩:=m;obtain⟨m2f,m2v,m2k⟩:=m2;obtain⟨tf,tv,tk⟩:=t;obtain⟨yf,yv,yk⟩:=y;obtain⟨qf,qv,qk⟩:=q;have hX':X.map DV.clr=mk.map (T.enc .sub):=hX;refine⟨[],?_⟩;cases su with
 |false=>simp[qF8,quq,qup,qun,qum,qul,quk,quj,qui,quh,qug,qs2,qof,qs1,qoe,qs0,hbig,d1,d2,d3,d4,d5,hds1,hds2,hds3,hds4,hds5,a1,a2,hX',s1,b1,b2,hu1,hR,c1,c2,s2,l1,l2,s3,o1,o2,o3,x1,x2,qmF,hqc,cu,cw,cl,ce,cx,cb,splice,qaa,qab,qac,qai,qae]
 |true=>
  have htw':=htw rfl;rw[htw']at a3;simp[qF8,quq,qup,qun,qum,qul,quk,quj,qui,quh,qug,qs2,qof,qs1,qoe,qs0,hbig,d1,d2,d3,d4,d5,hds1,hds2,hds3,hds4,hds5,a1,a2,a3,hX',s1,b1,b2,hu1,hR,c1,c2,s2,l1,l2,s3,o1,o2,o3,x1,x2,qmF,hqc,cu,cw,cl,ce,cx,cb,splice,qaa,qab,qac,qai,qae]
end Go.Proofs.Ytfiakfiocdfpbaa.VS
namespace Go.Proofs.Ytfiakfiocdfpbaa.VS
mutual
def TT.erase:TT->T
 | .node f v g ks=> .node f v (TT.erases ks)
def TT.erases:List TT->List T
 | []=>[]
 |t::r=>t.erase::TT.erases r
end
mutual
theorem TT.qde:∀t:TT,DV.clrs t.cells=[.int .i64 t.erase.f,.int .i64 t.erase.v,qaj .sub t.erase.kids]
 | .node f v g ks=>by
  simp only[TT.cells,DV.clrs,DV.clr,TT.erase,T.qcj,T.qcV,T.qaQ,qaj];rw[TT.qfp ks]
theorem TT.qfp:∀l:List TT,DV.clrs (TT.encs l)=(TT.erases l).map (T.enc .sub)
 | []=>by simp[TT.encs,DV.clrs,TT.erases]
 |t::r=>by
  simp only[TT.encs,DV.clrs,DV.clr,TT.erases,List.map_cons];rw[TT.qde t,TT.qfp r,T.qbF]
end
theorem TT.qf7(t:TT):t.enc.clr=t.erase.enc .sub:=by
 simp only[TT.enc,DV.clr];rw[TT.qde,T.qbF]
theorem qwq(hX:XOK XV){k:Nat}{vs:List DV}(h:∃B,qaf XV k ((DV.clrs vs).map .d) []=some (.d (.bool true),B)):∃A B,qxn E [] k (vs.map .d) [] Ids.none=some ⟨.d (.bool true),A,B⟩:=by
 obtain⟨B,h⟩:=h;obtain⟨u,A,Bv,h1,h2⟩:=qE7 hX (DV.qcM vs) (DV.qcL vs) (d:= .bool true) (by simp[DV.clr]) h;simp only[DV.fit]at h2;subst h2
 exact⟨A,Bv,h1⟩
theorem qSO{P:Program}{a:TypeId}:∀{xs:List (List DV)},qLa P [a] xs->∃x,xs=[x]
 | [x],_=>⟨x,rfl⟩
 | [],h=>h.elim
 |_::_::_,h=>h.2.elim
end Go.Proofs.Ytfiakfiocdfpbaa.VS
namespace Go.Proofs.Ytfiakfiocdfpbaa.VS
structure L where
 p:Bool
 a:T
 b:T
def L.enc(g:Tag)(x:L):DV:= .agg [.bool x.p,.int .i64 x.a.f,.int .i64 x.a.v,qaj g x.a.kids,.int .i64 x.b.f,.int .i64 x.b.v,qaj g x.b.kids]
def L.ok(x:L):Prop:=x.a.ok/\x.b.ok
@[simp] theorem L.qrs(g:Tag)(x:L):(x.enc g).cells=[.bool x.p,.int .i64 x.a.f,.int .i64 x.a.v,qaj g x.a.kids,.int .i64 x.b.f,.int .i64 x.b.v,qaj g x.b.kids]:=rfl
@[simp] theorem L.qnu(g:Tag)(x:L):(AV.d (x.enc g)).cells=[.d (.bool x.p),.d (.int .i64 x.a.f),.d (.int .i64 x.a.v),.d (qaj g x.a.kids),.d (.int .i64 x.b.f),.d (.int .i64 x.b.v),.d (qaj g x.b.kids)]:=rfl
@[simp] theorem L.qnt(g:Tag)(x:L):(x.enc g).isCell=false:=rfl
@[simp] theorem L.qf7(g:Tag)(x:L):(x.enc g).clr=x.enc .sub:=by
 simp only[L.enc,DV.clr,DV.clrs,qaj,DV.qam,qbz]
theorem L.agg_enc(g:Tag)(x:L):DV.agg [.bool x.p,.int .i64 x.a.f,.int .i64 x.a.v,qaj g x.a.kids,.int .i64 x.b.f,.int .i64 x.b.v,qaj g x.b.kids]=x.enc g:=rfl
def L.cmp(x y:L):Int:=if !x.p&&y.p then-1 else if x.p&& !y.p then 1 else if T.cmp x.a y.a≠0 then T.cmp x.a y.a else T.cmp x.b y.b
def L.same(x y:L):Bool:=x.p==y.p&&(T.cmp x.a y.a==0)&&(T.cmp x.b y.b==0)
theorem L.cmp_zero(x y:L):(L.cmp x y==0)=L.same x y:=by
 obtain⟨p,a,b⟩:=x;obtain⟨q,a',b'⟩:=y;unfold L.cmp L.same;cases p<;>cases q<;>by_cases c:T.cmp a a'=0<;>simp[c]
end Go.Proofs.Ytfiakfiocdfpbaa.VS
namespace Go.Proofs.Ytfiakfiocdfpbaa.VS
variable {P:Program}
structure LL where
 p:Bool
 a:TT
 b:TT
def LL.cells(x:LL):List DV:= .bool x.p::(x.a.cells++x.b.cells)
def LL.enc(x:LL):DV:= .agg x.cells
def LL.ok(x:LL):Prop:=x.a.ok/\x.b.ok
def LL.erase(x:LL):L:=⟨x.p,x.a.erase,x.b.erase⟩
theorem LL.qf7(x:LL):x.enc.clr=x.erase.enc .sub:=by
 have ha:=TT.qde x.a;have hb:=TT.qde x.b;rw[DV.qam]at ha hb;simp only[LL.enc,LL.cells,DV.clr,DV.qam,List.map_cons,List.map_append,ha,hb,LL.erase,L.enc];rfl
theorem qpn{α:Type}(c:α->List DV)(ok:α->Prop){t e:TypeId}{x:List DV}(hu:P.underlying t=some (.slice e))(hE:∀y:List DV,Shape P e y->∃s:α,y=c s/\ok s)(h:Shape P t x):
 ∃(g:Tag) (l:List α),x=[.sl g (l.map fun s=>qb3 P e (c s))]/\l.length<=maxLen/\∀s,s∈l->ok s:=by
 obtain⟨g,xs,rfl,q1,q2,q3,q4⟩:=qrX hu h;have key:∀xs:List DV,(∀y:DV,y∈xs->y=qb3 P e y.cells)->(∀y:DV,y∈xs->Shape P e y.cells)->∃l:List α,xs=(l.map fun s=>qb3 P e (c s))/\∀s,s∈l->ok s:=by
  intro xs
  induction xs with
  |nil=>intro _ _;exact⟨[],rfl,by simp⟩
  |cons y r ih=>
   intro p1 p2;obtain⟨l,rfl,hl⟩:=ih (fun z hz=>p1 z (by simp[hz])) (fun z hz=>p2 z (by simp[hz]));obtain⟨s,hs,hok⟩:=hE _ (p2 y (by simp));refine⟨s::l,?_,by simpa[hok]using hl⟩;have:=p1 y (by simp);rw[hs]at this;rw[List.map_cons,<-this]
 obtain⟨l,rfl,hl⟩:=key xs q3 q4;exact⟨g,l,rfl,by simpa using q1,hl⟩
structure BB where
 v:Int
 t:TT
def BB.cells(x:BB):List DV:= .int .i64 x.v::x.t.cells
def BB.enc(x:BB):DV:= .agg x.cells
def BB.ok(x:BB):Prop:=(-9223372036854775808<=x.v/\x.v<=9223372036854775807)/\x.t.ok
def BB.erase(x:BB):Bd:=⟨x.v,x.t.erase⟩
theorem BB.qf7(x:BB):x.enc.clr=x.erase.enc .sub:=by
 have ha:=TT.qde x.t;rw[DV.qam]at ha;simp only[BB.enc,BB.cells,DV.clr,DV.qam,List.map_cons,ha,BB.erase,Bd.enc]
def qq6(g:Tag)(l:List Int):DV:= .sl g (l.map (.int .u8))
theorem qxb(g:Tag)(l:List Int):(qq6 g l).clr= .sl .sub (l.map (.int .u8)):=by
 simp only[qq6,qHE,List.map_map,Function.comp_def,qs9]
theorem qrY{t e:TypeId}{x:List DV}(hu:P.underlying t=some (.slice e))(he:P.underlying e=some (.int .u8))(h:Shape P t x):∃g l,x=[qq6 g l]/\l.length<=maxLen:=by
 obtain⟨g,l,rfl,h1,_⟩:=qpn (fun n:Int=>[DV.int .u8 n]) (fun _=>True) hu (fun y hy=>by
  obtain⟨n,rfl,_⟩:=qze he hy;exact⟨n,rfl,trivial⟩) h
 exact⟨g,l,by simp[qq6,qb3,he],h1⟩
end Go.Proofs.Ytfiakfiocdfpbaa.VS
namespace Go.Proofs.Ytfiakfiocdfpbaa.VS
open Go.RowKit
variable {P:Program} {fid:Nat->FuncId}
structure IntsAt(w:World)(base:Option Addr)(n c:Nat)(xs:List Int):Prop where
 len:xs.length=n
 cap:n<=c
 lim:(n+1)*8<=140737488355328
 capm:c<=maxLen
 nil:base=none->n=0/\c=0
 cell:∀ad,base=some ad->0<n->ad.spot=none/\∀(j:Nat) (x:Int),xs[j]?=some x->w.cell? ⟨ad.block,ad.off+j,none⟩=some (.int .i64 x)
theorem qKs{w:World}{b o:Nat}{v:Value}(h:w.cell? ⟨b,o,none⟩=some v):b<w.heap.size:=by
 unfold World.cell? at h;split at h
 ·rename_i h1;exact(Array.getElem?_eq_some_iff.1 h1).1
 ·simp at h
theorem IntsAt.lt{w:World}{base:Option Addr}{n c:Nat}{xs:List Int}(h:IntsAt w base n c xs){ad:Addr}(hb:base=some ad)(hn:0<n):ad.block<w.heap.size:=by
 have h0:xs[0]?=some xs[0]!:=by have:=h.len;cases xs with|nil=>simp at this;omega|cons a r=>simp
 exact qKs ((h.cell ad hb hn).2 0 _ h0)
end Go.Proofs.Ytfiakfiocdfpbaa.VS
