/- Contracts of the program's functions on the evaluator without names, and plain lemmas: part 3. -/
import Derived.Test.YtfiakfiocdfpbaaXP2
set_option linter.unusedSimpArgs false
set_option linter.unusedVariables false
namespace Go.Proofs.Ytfiakfiocdfpbaa.VS
theorem qkP(bs:List Int)(pos st:Int):qay (qbf bs pos st)=some [.sl .sub (bs.map (.int .u8)),.int .i64 pos,.int .i64 st]:=by simp[qbf]
end Go.Proofs.Ytfiakfiocdfpbaa.VS
namespace Go.Proofs.Ytfiakfiocdfpbaa.VS
end Go.Proofs.Ytfiakfiocdfpbaa.VS
namespace Go.Proofs.Ytfiakfiocdfpbaa.VS
end Go.Proofs.Ytfiakfiocdfpbaa.VS
namespace Go.Proofs.Ytfiakfiocdfpbaa.VS
end Go.Proofs.Ytfiakfiocdfpbaa.VS
namespace Go.Proofs.Ytfiakfiocdfpbaa.VS
end Go.Proofs.Ytfiakfiocdfpbaa.VS
namespace Go.Proofs.Ytfiakfiocdfpbaa.VS
def c00:Option (List AV):=some [.d (.int .i64 0),.d (.int .i64 0),.d (.sl U [])]
end Go.Proofs.Ytfiakfiocdfpbaa.VS
namespace Go.Proofs.Ytfiakfiocdfpbaa.VS
theorem qnf(bs:List Int)(hl:bs.length<=1099511627776):∃(l:List SymL) (g:Tag) (t:T),SigD l/\(t.inner<=14/\t.rng)/\qad XV 194 [.d (.sl .sub (bs.map (.int .u8)))] []=some (.d (.tup [.sl g (l.map SymL.enc),t.enc .sub]),[]):=by
 obtain⟨st,h1⟩:=qyB bs hl [c00];obtain⟨t,g,p1,s1,ht,hp1,hc1⟩:=qvi bs hl 0 st ⟨Int.le_refl _,by omega⟩;obtain⟨f,v,ks⟩:=t;obtain⟨b,B2,⟨p2,s2,hp2,rfl⟩,hc2⟩:=qlK bs hl [c00,some (qbf bs p1 s1),some [.d (.int .i64 f),.d (.int .i64 v),.d (qao g ks)]] 1 ⟨p1,s1,hp1,rfl⟩ 8 (by omega) (by omega);simp[c00]at h1 hc2;cases b with
 |true=>
  obtain⟨l,g',p3,s3,hD,hp3,hc3⟩:=qvj bs hl p2 s2 hp2;refine⟨l,g',.node f v ks,hD,ht,?_⟩;have hqc:(l.map SymL.enc).map DV.clr=l.map SymL.enc:=qdV _;generalize l.map SymL.enc=sq at*
  rw[qaA XV _ _ _ qzt rfl qmp rfl];simp[qzt,qud,quc,qub,qua,qAy,qAx,h1,hc1,hc2,hc3,hqc,qkP,qcV,splice,qaa,qaj,qag,qax,qae]
 |false=>
  refine⟨qfO,U,.node f v ks,qhD,ht,?_⟩;have hs:=qlR;generalize hsq:qfO.map SymL.enc=sq at hs⊢
  have hqc:sq.map DV.clr=sq:=by rw[<-hsq];exact qdV _
  rw[qaA XV _ _ _ qzt rfl qmp rfl];simp[qzt,qud,quc,qub,qua,qAy,qAx,h1,hc1,hc2,hs,hqc,qkP,qcV,splice,qaa,qaj,qag,qax,qae]
theorem ql4(bs:List Int)(hl:bs.length<=1099511627776):∃(l:List SymL) (g:Tag) (t:T),SigD l/\(t.inner<=14/\t.rng)/\qad XV 367 [.d (.sl .sub (bs.map (.int .u8)))] []=some (.d (.tup [.sl g (l.map SymL.enc),t.enc .sub]),[]):=by
 obtain⟨l,g,t,hD,ht,h⟩:=qnf bs hl;refine⟨l,g,t,hD,ht,?_⟩;obtain⟨f,v,ks⟩:=t;have hqc:(l.map SymL.enc).map DV.clr=l.map SymL.enc:=qdV _;generalize l.map SymL.enc=sq at*
 rw[qaA XV _ _ _ qDc rfl qsX rfl];simp[qDc,qzF,qzE,qGq,h,hqc,splice,qaa,qaj,qag,qax,qae]
theorem ql3(bs:List Int)(hl:bs.length<=1099511627776):∃(l:List SymL) (g:Tag) (t:T),SigD l/\(t.inner<=14/\t.rng)/\qad XV 368 [.d (.sl .sub (bs.map (.int .u8)))] []=some (.d (.tup [.sl g (l.map SymL.enc),t.enc .sub]),[]):=by
 obtain⟨l,g,t,hD,ht,h⟩:=qnf bs hl;refine⟨l,g,t,hD,ht,?_⟩;obtain⟨f,v,ks⟩:=t;have hqc:(l.map SymL.enc).map DV.clr=l.map SymL.enc:=qdV _;generalize l.map SymL.enc=sq at*
 rw[qaA XV _ _ _ qDb rfl qsW rfl];simp[qDb,qzD,qzC,qGp,h,hqc,splice,qaa,qaj,qag,qax,qae]
end Go.Proofs.Ytfiakfiocdfpbaa.VS
namespace Go.Proofs.Ytfiakfiocdfpbaa.VS
mutual
def T.nf(s:List SymL):T->Prop
 | .node f v ks=>T.nfs s ks/\(qa9 s f=true->(∀k,k∈ks->k.f≠f)/\Srt ks)
def T.nfs(s:List SymL):List T->Prop
 | []=>True
 |t::r=>t.nf s/\T.nfs s r
end
theorem qql(s:List SymL)(f:Int):∀l:List T,(∀k,k∈l->k.f≠f)->flatK s f l=l
 | [],_=>rfl
 |k::l,h=>by
  rw[qfl,qql s f l (fun x hx=>h x (by simp[hx]))];have hk:(k.f==f)=false:=by simpa using h k (by simp)
  simp[qpb,hk]
mutual
theorem qu5(s:List SymL):∀t:T,t.nf s->t.norm s=t
 | .node f v ks,h=>by
  simp only[T.nf]at h;simp only[T.norm,qnc s ks h.1]
  by_cases hb:qa9 s f=true
  ·obtain⟨h1,h2⟩:=h.2 hb
   simp only[hb,if_true];rw[qql s f ks h1,<-qqa (List.Perm.refl ks) h2]
  ·simp only[hb,Bool.false_eq_true,if_false]
   rw[qjF s f hb]
theorem qnc(s:List SymL):∀l:List T,T.nfs s l->T.norms s l=l
 | [],_=>by simp[T.norms]
 |t::r,h=>by simp only[T.norms];rw[qu5 s t h.1,qnc s r h.2]
end
theorem qks:∀l:List T,(∀i,0<i->i<l.length->¬T.cmp (tAt l i) (tAt l (i-1))<0)->Srt l
 | [],_=>List.Pairwise.nil
 | [a],_=>List.pairwise_singleton _ _
 |a::b::r,h=>by
  have ih:=qks (b::r) (fun i h0 hi=>by
   have:=h (i+1) (by omega) (by simpa using hi);have e:∀j,tAt (a::b::r) (j+1)=tAt (b::r) j:=fun j=>by simp[tAt]
   rw[e i,show i+1-1=(i-1)+1 by omega,e (i-1)]at this;exact this)
  have h0:=h 1 (by omega) (by simp);simp only[tAt,List.getElem?_cons_succ,List.getElem?_cons_zero,Option.getD_some,Nat.sub_self]at h0;have hab:tle a b:=qb9 h0;refine List.pairwise_cons.2 ⟨fun y hy=> ?_,ih⟩;rcases List.mem_cons.1 hy with rfl|hy
  ·exact hab
  ·exact qey hab ((List.pairwise_cons.1 ih).1 y hy)
theorem qqy{l:List SymL}{f:Int}(h:qa9 l f=true):(qaB l f.toNat).ac=true:=by
 unfold qa9 at h;simp only[Bool.and_eq_true]at h;exact h.2
theorem qh0(q:Nat->Bool)(n:Nat)(h:(qaY q n 0).isNone=true):∀i,i<n->q i=false:=fun i hi=>by
 have:=(qfI q n 0).2 (by simpa using h) i (by omega) (by omega);exact this
mutual
theorem qvK(l:List SymL):∀t:T,T.form l t=true->t.nf l
 | .node f v ks,h=>by
  simp only[T.form]at h;simp only[T.nf]
  by_cases hf:f= -1
  ·rw[if_pos hf]at h
   have hk:ks=[]:=by
    simp only[Bool.and_eq_true,decide_eq_true_eq]at h;exact List.eq_nil_of_length_eq_zero h.2
   subst hk;exact⟨trivial,fun _=>⟨fun k hk=>by simp at hk,List.Pairwise.nil⟩⟩
  ·rw[if_neg hf]at h
   split at h
   ·simp at h
   ·have hq:=qh0 _ _ h
    have hat:∀i,i<ks.length->T.form l (tAt ks i)=true/\qcR l f ks i=false:=fun i hi=>by
     have:=hq i hi;rw[T.qiy l ks i hi]at this;simpa using this
    refine⟨qqg l ks (fun i hi=>(hat i hi).1),fun hb=>⟨fun k hk=> ?_,qks ks fun i h0 hi=> ?_⟩⟩
    ·obtain⟨i,hi,rfl⟩:=List.getElem_of_mem hk
     have h2:=(hat i hi).2;rw[qaD hi];unfold qcR at h2;rw[if_pos (qqy hb)]at h2;intro he;rw[if_pos he]at h2;simp at h2
    ·have h2:=(hat i hi).2
     unfold qcR at h2;rw[if_pos (qqy hb)]at h2;split at h2
     ·simp at h2
     ·rw[if_neg (by omega)]at h2
      simpa using h2
theorem qqg(l:List SymL):∀ks:List T,(∀i,i<ks.length->T.form l (tAt ks i)=true)->T.nfs l ks
 | [],_=>trivial
 |t::r,h=>⟨qvK l t (by have:=h 0 (by simp);simpa[tAt]using this),qqg l r fun i hi=>by have:=h (i+1) (by simpa using hi);simpa[tAt]using this⟩
end
theorem qog(l:List SymL)(t:T)(h:qdB l t=true):t.norm l=t:=by
 unfold qdB at h;simp only[Bool.and_eq_true]at h;exact qu5 l t (qvK l t h.2.2)
end Go.Proofs.Ytfiakfiocdfpbaa.VS
namespace Go.Proofs.Ytfiakfiocdfpbaa.VS
mutual
def T.nodes:T->List T
 | .node f v ks=> .node f v ks::T.nodess ks
def T.nodess:List T->List T
 | []=>[]
 |t::r=>t.nodes++T.nodess r
end
end Go.Proofs.Ytfiakfiocdfpbaa.VS
namespace Go.Proofs.Ytfiakfiocdfpbaa.VS
def qk9(l:List SymL)(t:T):Int:=IntKind.i64.wrap (T.sum (wW l) t)
end Go.Proofs.Ytfiakfiocdfpbaa.VS
namespace Go.Proofs.Ytfiakfiocdfpbaa.VS
end Go.Proofs.Ytfiakfiocdfpbaa.VS
namespace Go.Proofs.Ytfiakfiocdfpbaa.VS
theorem qzd{l:List SymL}{f:Int}(h:qa9 l f=true):f≠-1:=by
 unfold qa9 at h;simp only[Bool.and_eq_true]at h;have:=(qd3 h.1).1;omega
mutual
def T.full(l:List SymL):T->Prop
 | .node f v ks=>(qa9 l f=true->ks≠[])/\T.fulls l ks
def T.fulls(l:List SymL):List T->Prop
 | []=>True
 |t::r=>t.full l/\T.fulls l r
end
theorem qxK{l:List SymL}{f v:Int}{ks:List T}(h:qa9 l f=true)(hp:0<ks.length):wW l (.node f v ks)=(ks.length:Int)-1:=by
 unfold wW;exact if_pos ⟨h,hp⟩
theorem qEc{l:List SymL}{f v:Int}{ks:List T}(h:¬qa9 l f=true):wW l (.node f v ks)=1:=by
 unfold wW;exact if_neg (fun hh=>h hh.1)
mutual
theorem qqh(l:List SymL):∀t:T,T.form l t=true->t.full l/\∀x,x∈t.nodes->x.f= -1->x.kids=[]
 | .node f v ks,h=>by
  simp only[T.form]at h
  by_cases hf:f= -1
  ·rw[if_pos hf]at h
   have hk:ks=[]:=by
    simp only[Bool.and_eq_true,decide_eq_true_eq]at h;exact List.eq_nil_of_length_eq_zero h.2
   subst hk;refine⟨⟨fun hb=>absurd hf (qzd hb),trivial⟩,fun x hx _=> ?_⟩;simp only[T.nodes,T.nodess,List.mem_cons,List.not_mem_nil,or_false]at hx;subst hx;rfl
  ·rw[if_neg hf]at h
   split at h
   ·simp at h
   ·rename_i hh
    have hq:=qh0 _ _ h;have hat:∀i,i<ks.length->T.form l (tAt ks i)=true:=fun i hi=>by
     have:=hq i hi;rw[T.qiy l ks i hi]at this;simp at this;exact this.1
    obtain⟨h1,h2⟩:=qno l ks hat;refine⟨⟨fun hb hn=>hh ?_,h1⟩,fun x hx hxf=> ?_⟩
    ·subst hn
     have hb':=hb;unfold qa9 at hb';simp only[Bool.and_eq_true]at hb';unfold qdk;rw[if_pos hb'.1];split
     ·rw[if_pos hb'.2];simp
     ·rfl
    ·simp only[T.nodes,List.mem_cons]at hx
     rcases hx with rfl|hx
     ·exact absurd hxf hf
     ·exact h2 x hx hxf
theorem qno(l:List SymL):∀ks:List T,(∀i,i<ks.length->T.form l (tAt ks i)=true)->T.fulls l ks/\∀x,x∈T.nodess ks->x.f= -1->x.kids=[]
 | [],_=>⟨trivial,fun x hx=>by simp[T.nodess]at hx⟩
 |t::r,h=>by
  obtain⟨h1,h2⟩:=qqh l t (by have:=h 0 (by simp);simpa[tAt]using this);obtain⟨h3,h4⟩:=qno l r fun i hi=>by have:=h (i+1) (by simpa using hi);simpa[tAt]using this
  refine⟨⟨h1,h3⟩,fun x hx hxf=> ?_⟩;simp only[T.nodess,List.mem_append]at hx;rcases hx with hx|hx
  ·exact h2 x hx hxf
  ·exact h4 x hx hxf
end
end Go.Proofs.Ytfiakfiocdfpbaa.VS
namespace Go.Proofs.Ytfiakfiocdfpbaa.VS
end Go.Proofs.Ytfiakfiocdfpbaa.VS
namespace Go.Proofs.Ytfiakfiocdfpbaa.VS
theorem qHV(l:List SymL)(x:T):0<=wW l x:=by unfold wW;split<;>omega
theorem qHW(l:List SymL)(x:T):wW l x<=(x.kids.length:Int)+1:=by unfold wW;split<;>omega
mutual
theorem qmv(l:List SymL):∀t:T,0<=T.sum (wW l) t/\T.sum (wW l) t<=2*(t.inner:Int)+1
 | .node f v ks=>by
  have h1:=qHV l (.node f v ks);have h2:=qHW l (.node f v ks);have h3:=qko l ks;simp only[T.sum,T.inner,T.qaS]at*
  omega
theorem qko(l:List SymL):∀ks:List T,0<=T.sums (wW l) ks/\T.sums (wW l) ks<=2*(T.inners ks:Int)+ks.length
 | []=>by simp[T.sums,T.inners]
 |t::r=>by
  have h1:=qmv l t;have h2:=qko l r;simp only[T.sums,T.inners,List.length_cons];omega
end
mutual
theorem qkp(l:List SymL):∀t:T,t.full l->1<=T.sum (wW l) t
 | .node f v ks,h=>by
  have h2:=qiF l ks h.2;simp only[T.sum]
  by_cases hb:qa9 l f=true
  ·have hp:0<ks.length:=List.length_pos_iff.2 (h.1 hb)
   rw[qxK hb hp];omega
  ·rw[qEc hb];omega
theorem qiF(l:List SymL):∀ks:List T,T.fulls l ks->(ks.length:Int)<=T.sums (wW l) ks
 | [],_=>by simp[T.sums]
 |t::r,h=>by
  have h1:=qkp l t h.1;have h2:=qiF l r h.2;simp only[T.sums,List.length_cons];omega
end
theorem qmx{l:List SymL}{t:T}(h:qdB l t=true):t.inner<=59/\t.full l/\∀x,x∈t.nodes->x.f= -1->x.kids=[]:=by
 unfold qdB at h;simp only[Bool.and_eq_true,decide_eq_true_eq]at h;obtain⟨h1,h2⟩:=qqh l t h.2.2;exact⟨by omega,h1,h2⟩
theorem qqV(l:List SymL)(t:T)(h:t.inner<=1099511627776):qk9 l t=T.sum (wW l) t:=by
 have:=qmv l t;exact wrap_i64 (by omega) (by omega)
end Go.Proofs.Ytfiakfiocdfpbaa.VS
namespace Go.Proofs.Ytfiakfiocdfpbaa.VS
end Go.Proofs.Ytfiakfiocdfpbaa.VS
namespace Go.Proofs.Ytfiakfiocdfpbaa.VS
end Go.Proofs.Ytfiakfiocdfpbaa.VS
namespace Go.Proofs.Ytfiakfiocdfpbaa.VS
theorem qtN(t:T)(ht:t.inner<=1099511627776):qad XV 4 [.d (t.enc .sub),.d (t.enc .sub)] []=some (.d (.bool true),[]):=by
 rw[same_eq t t ht ht];have:=qjR t t;have h:T.cmp t t=0:=by omega
 rw[h];rfl
end Go.Proofs.Ytfiakfiocdfpbaa.VS
namespace Go.Proofs.Ytfiakfiocdfpbaa.VS
def e3(t:T):List AV:=[.d (.int .i64 t.f),.d (.int .i64 t.v),.d (qao U t.kids)]
def e3'(t:T):List AV:=[.d (.int .i64 t.f),.d (.int .i64 t.v),.d (qao .sub t.kids)]
def kc(l:List T):List AV:=(l.map e3).flatten
def qDw(cs:List (List AV)):Prop:=∀c,c∈cs->c.length=3
theorem qmd(l:List T):qDw (l.map e3):=fun c hc=>by
 obtain⟨t,_,rfl⟩:=List.mem_map.1 hc;rfl
theorem qmc{cs:List (List AV)}(h:qDw cs)(p:Nat)(x:List AV)(hx:x.length=3):qDw (cs.set p x):=fun c hc=>by
 rcases List.mem_or_eq_of_mem_set hc with h1|h1
 ·exact h c h1
 ·rw[h1,hx]
theorem qeV:∀{cs:List (List AV)},qDw cs->cs.flatten.length=cs.length*3
 | [],_=>rfl
 |c::r,h=>by
  have:=qeV (cs:=r) (fun x hx=>h x (by simp[hx]));have hc:=h c (by simp);simp only[List.flatten_cons,List.length_append,List.length_cons,this,hc];omega
theorem qgy:∀{cs:List (List AV)} (_:qDw cs) (p:Nat) (hp:p<cs.length),(cs.flatten.drop (p*3)).take 3=cs[p]
 |c::r,h,0,hp=>by
  have hc:=h c (by simp);simp only[Nat.zero_mul,List.drop_zero,List.flatten_cons,List.getElem_cons_zero];rw[List.take_append_of_le_length (by omega),List.take_of_length_le (by omega)]
 |c::r,h,p+1,hp=>by
  have hc:=h c (by simp);have:=qgy (cs:=r) (fun x hx=>h x (by simp[hx])) p (by simpa using hp);simp only[List.flatten_cons,List.getElem_cons_succ];rw[List.drop_append,List.drop_of_length_le (by omega),List.nil_append,show(p+1)*3-c.length=p*3 by omega];exact this
theorem qcT:∀{cs:List (List AV)} (_:qDw cs) (p:Nat) (hp:p<cs.length) (x:List AV) (hx:x.length=3),splice cs.flatten (p*3) x=(cs.set p x).flatten
 |c::r,h,0,hp,x,hx=>by
  have hc:=h c (by simp);unfold splice;simp only[Nat.zero_mul,List.take_zero,List.nil_append,Nat.zero_add,List.flatten_cons,List.set_cons_zero];rw[hx,List.drop_append,List.drop_of_length_le (by omega),List.nil_append,show 3-c.length=0 by omega,List.drop_zero]
 |c::r,h,p+1,hp,x,hx=>by
  have hc:=h c (by simp);have:=qcT (cs:=r) (fun y hy=>h y (by simp[hy])) p (by simpa using hp) x hx;unfold splice at this⊢
  simp only[List.flatten_cons,List.set_cons_succ];rw[List.take_append,List.take_of_length_le (l:=c) (by omega),List.drop_append,List.drop_of_length_le (l:=c) (by omega),List.nil_append,show(p+1)*3-c.length=p*3 by omega,show(p+1)*3+x.length-c.length=p*3+x.length by omega,<-this];simp only[List.append_assoc]
theorem qgs(l:List T):(kc l).length=l.length*3:=by unfold kc;rw[qeV (qmd l),List.length_map]
theorem qvn:∀l:List T,kc l=qll (l.map (T.enc U))
 | []=>rfl
 |t::r=>by
  have h:=qvn r;unfold qll kc at h⊢
  simp[e3,flat]at h⊢
  exact h
def swp(l:List T)(p q:Nat):List T:=(l.set q (tAt l p)).set p (tAt l q)
theorem qfb(l:List T)(p q:Nat)(hp:p<l.length)(hq:q<l.length)(hpq:p≠q):∃c1 c2 c3:List AV,c1.length=l.length*3/\c2.length=l.length*3/\c3.length=l.length*3/\
 ((kc l).drop (p*3)).take 3=e3 (tAt l p)/\splice (kc l) (p*3) (e3' (tAt l p))=c1/\(c1.drop (q*3)).take 3=e3 (tAt l q)/\splice c1 (q*3) (e3' (tAt l q))=c2/\splice c2 (q*3) (e3 (tAt l p))=c3/\splice c3 (p*3) (e3 (tAt l q))=kc (swp l p q):=by
 have h0:=qmd l;have h1:=qmc h0 p (e3' (tAt l p)) rfl;have h2:=qmc h1 q (e3' (tAt l q)) rfl;have h3:=qmc h2 q (e3 (tAt l p)) rfl;refine⟨_,_,_,?_,?_,?_,?_,qcT h0 p (by simpa using hp) _ rfl,?_,qcT h1 q (by simpa using hq) _ rfl,qcT h2 q (by simpa using hq) _ rfl,?_⟩
 ·rw[qeV h1];simp
 ·rw[qeV h2];simp
 ·rw[qeV h3];simp
 ·unfold kc;rw[qgy h0 p (by simpa using hp)];simp[qaD hp]
 ·rw[qgy h1 q (by simpa using hq),List.getElem_set_ne hpq];simp[qaD hq]
 ·rw[qcT h3 p (by simpa using hp) _ rfl]
  unfold kc swp
  congr 1
  rw[List.map_set,List.map_set];apply List.ext_getElem (by simp);intro k k1 k2;simp only[List.getElem_set,List.getElem_map]
  by_cases e1:p=k
  ·subst e1;simp
  ·by_cases e2:q=k
   ·subst e2;simp[e1]
   ·simp[e1,e2]
theorem qh3(t:T):e3 t=[.d (.int .i64 t.f),.d (.int .i64 t.v),.d (qao U t.kids)]:=rfl
theorem ql2(t:T):e3' t=[.d (.int .i64 t.f),.d (.int .i64 t.v),.d (qao .sub t.kids)]:=rfl
theorem qBs(l:List T)(i:Nat)(hn:l.length<=1099511627776)(hl:i+1<l.length)(x1 x2 x3 x8:AV)(h1:x1.clr=x1)(h2:x2.clr=x2):
 qau XV [46,50] (.region true 0 [0,1,2,3,8,9] qpG) ⟨[(0,.tsl true 0 3 l.length),(1,x1),(2,x2),(3,x3),(8,x8),(9,.d (.int .i64 ((i+1:Nat):Int))),(34,.d (.bool true))],[some (kc l)]⟩=some (.normal,⟨[(0,.tsl true 0 3 l.length),(1,x1),(2,x2),(3,x3),(8,x8),(9,.d (.int .i64 ((i+1:Nat):Int)))],[some (kc (swp l i (i+1)))]⟩):=by
 have hw:IntKind.i64.wrap (((i+1:Nat):Int)-1)=(i:Int):=by rw[show((i+1:Nat):Int)-1=(i:Int)by omega];exact wrap_i64 (by omega) (by omega)
 obtain⟨c1,c2,c3,l1,l2,l3,f1,f2,f3,f4,f5,f6⟩:=qfb l i (i+1) (by omega) hl (by omega);have l0:=qgs l;generalize kc (swp l i (i+1))=c4 at f6⊢
 generalize kc l=c0 at f1 f2 l0⊢
 generalize hn':l.length=n at*
 have hj0:(0:Int)<=((i+1:Nat):Int)/\((i+1:Nat):Int)<n:=⟨by omega,by omega⟩;have hjn:((i+1:Nat):Int).toNat=i+1:=rfl;have hi0:(i:Int)<n:=by omega
 have le0:i*3+3<=n*3:=by omega
 have le1:(i+1)*3+3<=n*3:=by omega
 generalize ((i+1:Nat):Int)=J at hw hj0 hjn⊢
 simp only[qh3,ql2,qao]at f1 f2 f3 f4 f5 f6;have hcls:∀x y z:AV,AV.clrs [x,y,z]=[x.clr,y.clr,z.clr]:=fun x y z=>by simp only[AV.clrs]
 simp[qAz,hw,hj0,hjn,hi0,l0,l1,l2,l3,f1,f2,f3,f4,f5,f6,le0,le1,hcls,qag,qaa,qaj,qax]
end Go.Proofs.Ytfiakfiocdfpbaa.VS
namespace Go.Proofs.Ytfiakfiocdfpbaa.VS
theorem qo3(a b c d e f:Int)(B:qak)(hB:B.length=3):
 qbq XV [] 3 [2,3,26,27,28] qss ⟨[(2,.ptr 1 0),(3,.ptr 2 0),(26,.d (.sl .sub (qr6 a b c d e f))),(27,.d (.int .i64 3)),(28,.d (.int .i64 0))],B⟩=
  some (match runN (qiJ a b c d e f) 3 () 0 with
   | .inl _=>(.exit 0,⟨[(2,.ptr 1 0),(3,.ptr 2 0),(26,.d (.sl .sub (qr6 a b c d e f))),(27,.d (.int .i64 3)),(28,.d (.int .i64 3)),(29,.d (.bool false))],B⟩)
   | .inr r=>(.ret,⟨[(4,.d (.int .i64 r.1))],B++[some [.d (.int .i64 r.2.1),.d (.int .i64 r.2.2)]]⟩)):=by
 obtain⟨z,x0,x1,rfl⟩:∃z x0 x1,B=[z,x0,x1]:=by
  match B,hB with
  | [z,x0,x1],_=>exact⟨z,x0,x1,rfl⟩
 have key:=qaJ (X:=XV) (T:=[]) (L:=3) (live:=[2,3,26,27,28]) (b:=qss) (n:=3) (γ:=Int×(Int×Int)) (st:=fun(_:Unit) i=>⟨[(2,.ptr 1 0),(3,.ptr 2 0),(26,.d (.sl .sub (qr6 a b c d e f))),(27,.d (.int .i64 3)),(28,.d (.int .i64 i))],[z,x0,x1]⟩) (step:=qiJ a b c d e f)
  (F:=fun _=>(.exit 0,⟨[(2,.ptr 1 0),(3,.ptr 2 0),(26,.d (.sl .sub (qr6 a b c d e f))),(27,.d (.int .i64 3)),(28,.d (.int .i64 3)),(29,.d (.bool false))],[z,x0,x1]⟩)) (R:=fun r=>(.ret,⟨[(4,.d (.int .i64 r.1))],[z,x0,x1]++[some [.d (.int .i64 r.2.1),.d (.int .i64 r.2.2)]]⟩))
  (fun _=>⟨by simp,by simp[qss,qym]⟩)
  (fun _ i hi=>by
   have hw:=qaw (n:=i) (by omega);have hi':(i:Int)<3:=by omega
   have hb:=qqu a b c d e f i hi;unfold qiJ;generalize qeP a b c d e f i=q at hb;obtain⟨x,y⟩:=q;simp only at hb⊢
   by_cases h1:x<y
   ·rw[if_pos h1]
    refine⟨by simp,?_⟩;simp[qss,qym,qBP,qBO,qBN,hi',hb,cut,h1,qaa,splice,qae,qag,qax]
   ·rw[if_neg h1]
    by_cases h2:x>y
    ·rw[if_pos h2]
     refine⟨by simp,?_⟩;simp[qss,qym,qBP,qBO,qBN,qEp,qEo,hi',hb,cut,h1,h2,qaa,splice,qae,qag,qax]
    ·rw[if_neg h2]
     refine⟨_,by simp[qss,qym,qBP,qBO,qBN,qEp,qEo,qHZ,hi',hb,cut,h1,h2,hw,qaa,splice,qae,qag,qax];rfl,?_⟩;simp[qaf,qac])
  3 () 0 ⟨[(2,.ptr 1 0),(3,.ptr 2 0),(26,.d (.sl .sub (qr6 a b c d e f))),(27,.d (.int .i64 3)),(28,.d (.int .i64 0))],[z,x0,x1]⟩ (by omega) (by simp[qaf,qac])
 rw[key];cases runN (qiJ a b c d e f) 3 () 0<;>rfl
theorem qo2(z:Option (List AV))(f v:Int)(ks:List T)(f' v':Int)(ks':List T)(hl:ks.length<=1099511627776)(hlen:ks.length=ks'.length)
 (hrec:∀s s',s∈ks->s'∈ks'->qad XV 6 [.d (s.enc .sub),.d (s'.enc .sub)] []=some (.d (.int .i64 (T.cmp s s')),[])):
 qbq XV [] 3 [2,3,47,48] qwK ⟨[(2,.ptr 1 0),(3,.ptr 2 0),(47,.d (.int .i64 ks.length)),(48,.d (.int .i64 0))],z::qdW f v ks f' v' ks'⟩=
  some (if T.cmps ks ks'=0 then(.exit 3,⟨[(2,.ptr 1 0),(3,.ptr 2 0),(47,.d (.int .i64 ks.length)),(48,.d (.int .i64 ks.length)),(49,.d (.bool false))],z::qdW f v ks f' v' ks'⟩)else(.ret,⟨[(4,.d (.int .i64 (T.cmps ks ks')))],z::qdW f v ks f' v' ks'⟩)):=by
 have h:=qaJ (X:=XV) (T:=[]) (L:=3) (live:=[2,3,47,48]) (b:=qwK) (n:=ks.length) (γ:=Int) (st:=fun(_:Unit) i=>⟨[(2,.ptr 1 0),(3,.ptr 2 0),(47,.d (.int .i64 ks.length)),(48,.d (.int .i64 i))],z::qdW f v ks f' v' ks'⟩) (step:=qkd ks ks')
  (F:=fun _=>(.exit 3,⟨[(2,.ptr 1 0),(3,.ptr 2 0),(47,.d (.int .i64 ks.length)),(48,.d (.int .i64 ks.length)),(49,.d (.bool false))],z::qdW f v ks f' v' ks'⟩)) (R:=fun r=>(.ret,⟨[(4,.d (.int .i64 r))],z::qdW f v ks f' v' ks'⟩))
  (fun _=>⟨by simp,by simp[qwK,qot]⟩)
  (fun _ i hi=>by
   have hw:=qaw (n:=i) (by omega);have hi2:i<ks'.length:=by omega
   have hc:=hrec _ _ (qaM hi) (qaM hi2);unfold qkd qdW
   by_cases h0:T.cmp (tAt ks i) (tAt ks' i)=0
   ·rw[h0]at hc⊢
    simp only[ne_eq,not_true_eq_false,if_false];refine⟨_,by simp[qwK,qot,qt3,qyV,qt2,qt1,qt0,hi,hi2,hw,cut,qaD hi,qaD hi2,hc,qae];rfl,?_⟩;simp[qaf,qac]
   ·simp only[ne_eq,h0,not_false_eq_true,if_true]
    have h0':(T.cmp (tAt ks i) (tAt ks' i) !=0)=true:=by simp[h0]
    refine⟨by simp,?_⟩;simp[qwK,qot,qt3,qyV,qt2,qt1,qt0,hi,hi2,hw,cut,qaD hi,qaD hi2,hc,qae,h0'])
  ks.length () 0 ⟨[(2,.ptr 1 0),(3,.ptr 2 0),(47,.d (.int .i64 ks.length)),(48,.d (.int .i64 0))],z::qdW f v ks f' v' ks'⟩ (by omega) (by simp[qaf,qac,qdW])
 rw[qEh ks ks' hlen _ _ (by omega)]at h;simp only[List.drop_zero]at h;rw[h]
 by_cases h0:T.cmps ks ks'=0<;>simp[h0]
theorem qo1(z:Option (List AV))(f v:Int)(ks:List T)(f' v':Int)(ks':List T)(hl:ks.length<=1099511627776)(hl':ks'.length<=1099511627776)
 (hrec:∀s s',s∈ks->s'∈ks'->qad XV 6 [.d (s.enc .sub),.d (s'.enc .sub)] []=some (.d (.int .i64 (T.cmp s s')),[])):
 qad XV 6 [.d ((T.node f v ks).enc .sub),.d ((T.node f' v' ks').enc .sub)] [z]=some (.d (.int .i64 (T.cmp (.node f v ks) (.node f' v' ks'))),[z]):=by
 rw[qaA XV _ _ _ v6 rfl qsV rfl];have h1:=qo3 f f' v v' ks.length ks'.length (z::qdW f v ks f' v' ks') rfl;simp[v6,qH1,qH0,qaa,qaj,qag,qax,splice,qae,qaC,List.replicate];simp only[qr6,qdW]at h1;rw[h1,qiu];rcases qJR f f' v v' ks.length ks'.length with⟨h3,e1,e2,e3⟩|⟨r,h3,h4⟩
 ·rw[h3]
  have hlen:ks.length=ks'.length:=by omega
  have h2:=qo2 z f v ks f' v' ks' hl hlen hrec;simp only[qdW]at h2;subst e1;subst e2
  simp[qHY,qae];rw[h2];have h5:qnF f f v v ks.length ks'.length (T.cmps ks ks')=T.cmps ks ks':=by simp[qnF,hlen]
  rw[h5]
  by_cases c7:T.cmps ks ks'=0
  ·simp[c7,qBQ]
  ·simp[c7]
 ·rw[h3,h4];simp
theorem qel(z:Option (List AV))(a b:T)(ha:a.inner<=1099511627776)(hb:b.inner<=1099511627776):qad XV 6 [.d (a.enc .sub),.d (b.enc .sub)] [z]=some (.d (.int .i64 (T.cmp a b)),[z]):=by
 obtain⟨f,v,ks⟩:=a;obtain⟨f',v',ks'⟩:=b;simp only[T.inner]at ha hb;exact qo1 z f v ks f' v' ks' (by omega) (by omega) (fun s s' hs hs'=>qfn s s' (by have:=T.qaG hs;omega) (by have:=T.qaG hs';omega))
end Go.Proofs.Ytfiakfiocdfpbaa.VS
namespace Go.Proofs.Ytfiakfiocdfpbaa.VS
theorem qoi(A Z:List T)(x:T):tAt (A++x::Z) A.length=x:=by simp[tAt]
theorem qlc(A M Z:List T)(x y:T)(q:Nat)(hq:q=A.length+1+M.length):swp (A++x::(M++y::Z)) A.length q=A++y::(M++x::Z):=by
 subst hq;have h1:tAt (A++x::(M++y::Z)) (A.length+1+M.length)=y:=by
  have:=qoi (A++x::M) Z y;simp only[List.length_append,List.length_cons,List.append_assoc,List.cons_append]at this;rw[show A.length+1+M.length=A.length+(M.length+1)by omega];exact this
 have h2:=qoi A (M++y::Z) x;unfold swp;rw[h1,h2];have s1:(A++x::(M++y::Z)).set (A.length+1+M.length) x=A++x::(M++x::Z):=by
  have:=List.set_append_right (s:=A++x::M) (t:=y::Z) (A.length+1+M.length) x (by simp;omega);simp only[List.append_assoc,List.cons_append,List.length_append,List.length_cons]at this;rw[this,show A.length+1+M.length-(A.length+(M.length+1))=0 by omega];rfl
 rw[s1,List.set_append_right _ _ (Nat.le_refl _),Nat.sub_self];rfl
theorem qpl(l:List T)(p q:Nat)(h:p≠q):swp l p q=swp l q p:=by
 unfold swp;rw[List.set_comm _ _ h]
theorem qBr(l:List T)(a b i:Nat)(n:Int)(hn:l.length<=1099511627776)(ha:a+i<l.length)(hb:b+i<l.length)(hab:b≠a):
 qau XV [29,35] (.region true 0 [0,1,2,3,10] qpz) ⟨[(0,.tsl true 0 3 l.length),(1,.d (.int .i64 a)),(2,.d (.int .i64 b)),(3,.d (.int .i64 n)),(10,.d (.int .i64 i)),(13,.d (.bool true))],[some (kc l)]⟩=some (.normal,⟨[(0,.tsl true 0 3 l.length),(1,.d (.int .i64 a)),(2,.d (.int .i64 b)),(3,.d (.int .i64 n)),(10,.d (.int .i64 i))],[some (kc (swp l (b+i) (a+i)))]⟩):=by
 have hwa:IntKind.i64.wrap ((a:Int)+i)=((a+i:Nat):Int):=by rw[wrap_i64 (by omega) (by omega)];omega
 have hwb:IntKind.i64.wrap ((b:Int)+i)=((b+i:Nat):Int):=by rw[wrap_i64 (by omega) (by omega)];omega
 obtain⟨c1,c2,c3,l1,l2,l3,f1,f2,f3,f4,f5,f6⟩:=qfb l (b+i) (a+i) hb ha (by omega);have l0:=qgs l;generalize kc (swp l (b+i) (a+i))=c4 at f6⊢
 generalize kc l=c0 at f1 f2 l0⊢
 generalize hn':l.length=m at*
 have hj0:(0:Int)<=((a+i:Nat):Int)/\((a+i:Nat):Int)<m:=⟨by omega,by omega⟩;have hk0:(0:Int)<=((b+i:Nat):Int)/\((b+i:Nat):Int)<m:=⟨by omega,by omega⟩;have hjn:((a+i:Nat):Int).toNat=a+i:=rfl;have hkn:((b+i:Nat):Int).toNat=b+i:=rfl;have le0:(a+i)*3+3<=m*3:=by omega
 have le1:(b+i)*3+3<=m*3:=by omega
 generalize ((a+i:Nat):Int)=J at hwa hj0 hjn⊢
 generalize ((b+i:Nat):Int)=K at hwb hk0 hkn⊢
 simp only[qh3,ql2,qao]at f1 f2 f3 f4 f5 f6;have hcls:∀x y z:AV,AV.clrs [x,y,z]=[x.clr,y.clr,z.clr]:=fun x y z=>by simp only[AV.clrs]
 simp[qGr,hwa,hwb,hj0,hjn,hk0,hkn,l0,l1,l2,l3,f1,f2,f3,f4,f5,f6,le0,le1,hcls,qag,qaa,qaj,qax]
def srS(A P Q R Z:List T)(i:Nat):List T:=A++R.take i++P.drop i++Q++P.take i++R.drop i++Z
theorem qBt(A P Q R Z:List T)(i:Nat)(h:P.length=R.length):(srS A P Q R Z i).length=(A++P++Q++R++Z).length:=by simp[srS];omega
theorem qxV(A P Q R Z:List T)(i:Nat)(h:P.length=R.length)(hi:i<P.length):swp (srS A P Q R Z i) (A.length+P.length+Q.length+i) (A.length+i)=srS A P Q R Z (i+1):=by
 have hi2:i<R.length:=by omega
 have e0:srS A P Q R Z i=(A++R.take i)++P[i]::((P.drop (i+1)++Q++P.take i)++R[i]::(R.drop (i+1)++Z)):=by
  unfold srS;rw[List.drop_eq_getElem_cons hi,List.drop_eq_getElem_cons hi2];simp only[List.append_assoc,List.cons_append,List.nil_append]
 have e1:srS A P Q R Z (i+1)=(A++R.take i)++R[i]::((P.drop (i+1)++Q++P.take i)++P[i]::(R.drop (i+1)++Z)):=by
  unfold srS;rw[<-List.take_append_getElem hi,<-List.take_append_getElem hi2];simp only[List.append_assoc,List.cons_append,List.nil_append]
 have hl:(A++R.take i).length=A.length+i:=by simp;omega
 rw[e0,e1,qpl _ _ _ (by omega),<-hl];exact qlc _ _ _ _ _ _ (by simp;omega)
theorem qmA(A P Q R Z:List T)(h:P.length=R.length)(hn:(A++P++Q++R++Z).length<=1099511627776)(f:AV)(hf:f.clr=f):
 qad XV 175 [.tsl true 0 3 (A++P++Q++R++Z).length,.d (.int .i64 A.length),.d (.int .i64 (A.length+P.length+Q.length:Nat)),.d (.int .i64 P.length),f] [some (kc (A++P++Q++R++Z))]=some (.d (.tup []),[some (kc (A++R++Q++P++Z))]):=by
 rw[qaA XV _ _ _ qDe rfl qs1 rfl];have hlen:∀i,(srS A P Q R Z i).length=(A++P++Q++R++Z).length:=fun i=>qBt A P Q R Z i h
 have e0:srS A P Q R Z 0=A++P++Q++R++Z:=by simp[srS]
 have e1:srS A P Q R Z P.length=A++R++Q++P++Z:=by
  unfold srS;rw[List.drop_of_length_le (l:=R) (by omega),List.take_of_length_le (l:=R) (by omega)];simp
 rw[<-e0,<-e1];generalize hN:(A++P++Q++R++Z).length=N at hn hlen;have hN2:N=A.length+P.length+Q.length+R.length+Z.length:=by rw[<-hN];simp;omega
 rw[hlen 0];have hloop:=qaJ (X:=XV) (T:=[29,35]) (L:=1) (live:=[0,1,2,3,10]) (b:=qqA) (n:=P.length) (γ:=Unit) (st:=fun(_:Unit) i=>⟨[(0,.tsl true 0 3 N),(1,.d (.int .i64 A.length)),(2,.d (.int .i64 (A.length+P.length+Q.length:Nat))),(3,.d (.int .i64 P.length)),(10,.d (.int .i64 i))],[some (kc (srS A P Q R Z i))]⟩) (step:=fun _ _=> .inl ())
  (F:=fun _=>(.exit 0,⟨[(0,.tsl true 0 3 N),(1,.d (.int .i64 A.length)),(2,.d (.int .i64 (A.length+P.length+Q.length:Nat))),(3,.d (.int .i64 P.length)),(10,.d (.int .i64 P.length)),(13,.d (.bool false))],[some (kc (srS A P Q R Z P.length))]⟩)) (R:=fun _=>(.ret,⟨[],[]⟩))
  (fun _=>⟨by simp,by simp[qqA,que]⟩)
  (fun _ i hi=>by
   have hw:=qaw (n:=i) (by omega);have hs:=qBr (srS A P Q R Z i) A.length (A.length+P.length+Q.length) i P.length (by rw[hlen];exact hn) (by rw[hlen];omega) (by rw[hlen];omega) (by omega);rw[qxV A P Q R Z i h hi,hlen]at hs;have hi':(i:Int)<P.length:=by omega
   generalize hc2:kc (srS A P Q R Z (i+1))=c2 at hs;generalize kc (srS A P Q R Z i)=c1 at hs⊢
   exact⟨⟨[(0,.tsl true 0 3 N),(1,.d (.int .i64 A.length)),(2,.d (.int .i64 (A.length+P.length+Q.length:Nat))),(3,.d (.int .i64 P.length)),(10,.d (.int .i64 (i+1:Nat)))],[some c2]⟩,by
    simp[qqA,que,qzI,hi];simp only[Int.natCast_add]at hs;rw[hs];simp[hw],by simp[qaf,qac,qaQ,hc2]⟩)
  P.length () 0 ⟨[(0,.tsl true 0 3 N),(1,.d (.int .i64 A.length)),(2,.d (.int .i64 (A.length+P.length+Q.length:Nat))),(3,.d (.int .i64 P.length)),(10,.d (.int .i64 0))],[some (kc (srS A P Q R Z 0))]⟩ (by omega) (by simp[qaf,qac,qaQ])
 rw[qtO]at hloop;generalize kc (srS A P Q R Z P.length)=c2 at hloop⊢
 generalize kc (srS A P Q R Z 0)=c1 at hloop⊢
 generalize ((A.length+P.length+Q.length:Nat):Int)=K at hloop⊢
 simp[qDe,qzJ,hf];rw[hloop];simp
end Go.Proofs.Ytfiakfiocdfpbaa.VS
namespace Go.Proofs.Ytfiakfiocdfpbaa.VS
theorem qez(A P Q R Z:List T)(a b n N:Nat)(ha:a=A.length)(hb:b=A.length+P.length+Q.length)(hn':n=P.length)(hr:n=R.length)(hN:N=(A++P++Q++R++Z).length)(hn:N<=1099511627776)(f:AV)(hf:f.clr=f):
 qad XV 175 [.tsl true 0 3 N,.d (.int .i64 a),.d (.int .i64 b),.d (.int .i64 n),f] [some (kc (A++P++Q++R++Z))]=some (.d (.tup []),[some (kc (A++R++Q++P++Z))]):=by
 subst ha;subst hb;subst hn';subst hN
 exact qmA A P Q R Z hr hn f hf
theorem qx9(G:List T)(m N:Nat)(hN:N<=1099511627776)(f:AV)(hf:f.clr=f)(hfs:f.safe 1=true):∀(k:Nat) (A X Y Z:List T),X.length+Y.length<=k->0<X.length->0<Y.length->A.length+X.length=m->(A++X++Y++Z).length=N->G=A++Y++X++Z->
 ∃(A2 X2 Y2 Z2:List T),X2.length=Y2.length/\A2.length+X2.length=m/\(A2++X2++Y2++Z2).length=N/\G=A2++Y2++X2++Z2/\
  qbq XV [] 1 [0,2,4,10,11] qnL ⟨[(0,.tsl true 0 3 N),(2,.d (.int .i64 m)),(4,f),(10,.d (.int .i64 X.length)),(11,.d (.int .i64 Y.length))],[some (kc (A++X++Y++Z))]⟩=some (.exit 0,⟨[(0,.tsl true 0 3 N),(2,.d (.int .i64 m)),(4,f),(10,.d (.int .i64 X2.length)),(11,.d (.int .i64 X2.length)),(20,.d (.bool false))],[some (kc (A2++X2++Y2++Z2))]⟩):=by
 intro k
 induction k with
 |zero=>intro A X Y Z h1 h2;omega
 |succ k ih=>
  intro A X Y Z hk hx hy hm hl hG;have hl2:A.length+X.length+Y.length+Z.length=N:=by rw[<-hl];simp;omega
  have head:∀(x y:Nat) (c:List AV),qaf 1 [0,2,4,10,11] ⟨[(0,.tsl true 0 3 N),(2,.d (.int .i64 m)),(4,f),(10,.d (.int .i64 x)),(11,.d (.int .i64 y))],[some c]⟩=some ⟨[(0,.tsl true 0 3 N),(2,.d (.int .i64 m)),(4,f),(10,.d (.int .i64 x)),(11,.d (.int .i64 y))],[some c]⟩:=fun x y c=>by
   simp[qaf,qac,qaQ,hfs]
  rcases Nat.lt_trichotomy X.length Y.length with hlt|heq|hgt
  ·
   have hq:(Y.take (Y.length-X.length)).length=Y.length-X.length:=by simp
   have hr:(Y.drop (Y.length-X.length)).length=X.length:=by simp;omega
   generalize hQ:Y.take (Y.length-X.length)=Q at hq;generalize hR:Y.drop (Y.length-X.length)=R at hr;have hY:Y=Q++R:=by rw[<-hQ,<-hR,List.take_append_drop]
   have hs:=qez A X Q R Z A.length (m+Y.length-X.length) X.length N rfl (by omega) rfl hr.symm (by simp;omega) hN f hf;obtain⟨A2,X2,Y2,Z2,r1,r2,r3,r4,r5⟩:=ih A R Q (X++Z) (by omega) (by omega) (by omega) (by omega) (by simp;omega) (by rw[hG,hY];simp);refine⟨A2,X2,Y2,Z2,r1,r2,r3,r4,?_⟩;rw[<-r5,hr,hq];have e1:A++X++Y++Z=A++X++Q++R++Z:=by rw[hY];simp
   have e2:A++R++Q++(X++Z)=A++R++Q++X++Z:=by simp
   rw[e1,e2];have w1:IntKind.i64.wrap ((m:Int)-X.length)=(A.length:Int):=by rw[wrap_i64 (by omega) (by omega)];omega
   have w2:IntKind.i64.wrap ((m:Int)+Y.length)=((m+Y.length:Nat):Int):=by rw[wrap_i64 (by omega) (by omega)];omega
   have w3:IntKind.i64.wrap (((m+Y.length:Nat):Int)-X.length)=((m+Y.length-X.length:Nat):Int):=by rw[wrap_i64 (by omega) (by omega)];omega
   have w4:IntKind.i64.wrap ((Y.length:Int)-X.length)=((Y.length-X.length:Nat):Int):=by rw[wrap_i64 (by omega) (by omega)];omega
   refine qbp (head _ _ _) ?_;have n1:((X.length:Int) !=(Y.length:Int))=true:=by simp;omega
   have n2:¬((Y.length:Int)<X.length):=by omega
   generalize kc (A++X++Q++R++Z)=c1 at hs⊢
   generalize kc (A++R++Q++X++Z)=c2 at hs⊢
   generalize ((m+Y.length-X.length:Nat):Int)=gv1 at*
   generalize ((m+Y.length:Nat):Int)=gv2 at*
   generalize ((Y.length-X.length:Nat):Int)=gv3 at*
   generalize (X.length:Int)=vx at*
   generalize (Y.length:Int)=vy at*
   simp[qnL,qpD,qpC,qpB,quj,qui,quh,qug,quf,qpA,n1,n2,w1,w2,w3,w4,hs,hf]
  ·
   refine⟨A,X,Y,Z,heq,hm,hl,hG,?_⟩;rw[<-heq];refine qaO (head _ _ _) ?_ (by simp);simp[qnL,qpB]
  ·have hp:(X.take Y.length).length=Y.length:=by simp;omega
   have hq:(X.drop Y.length).length=X.length-Y.length:=by simp
   generalize hP:X.take Y.length=P at hp;generalize hQ:X.drop Y.length=Q at hq;have hX:X=P++Q:=by rw[<-hP,<-hQ,List.take_append_drop]
   have hs:=qez A P Q Y Z A.length m Y.length N rfl (by omega) hp.symm rfl (by simp;omega) hN f hf;obtain⟨A2,X2,Y2,Z2,r1,r2,r3,r4,r5⟩:=ih (A++Y) Q P Z (by omega) (by omega) (by omega) (by simp;omega) (by simp;omega) (by rw[hG,hX];simp);refine⟨A2,X2,Y2,Z2,r1,r2,r3,r4,?_⟩;rw[<-r5,hp,hq];have e1:A++X++Y++Z=A++P++Q++Y++Z:=by rw[hX];simp
   rw[e1];have w1:IntKind.i64.wrap ((m:Int)-X.length)=(A.length:Int):=by rw[wrap_i64 (by omega) (by omega)];omega
   have w4:IntKind.i64.wrap ((X.length:Int)-Y.length)=((X.length-Y.length:Nat):Int):=by rw[wrap_i64 (by omega) (by omega)];omega
   refine qbp (head _ _ _) ?_;have n1:((X.length:Int) !=(Y.length:Int))=true:=by simp;omega
   have n2:((Y.length:Int)<X.length):=by omega
   generalize kc (A++P++Q++Y++Z)=c1 at hs⊢
   generalize kc (A++Y++Q++P++Z)=c2 at hs⊢
   generalize ((X.length-Y.length:Nat):Int)=gv3 at*
   generalize (X.length:Int)=vx at*
   generalize (Y.length:Int)=vy at*
   simp[qnL,qpD,qpC,qpB,quj,qui,quh,qug,quf,qpA,n1,n2,w1,w4,hs,hf]
theorem qtS(A X Y Z:List T)(a m b N:Nat)(ha:a=A.length)(hm:m=A.length+X.length)(hb:b=A.length+X.length+Y.length)(hN:N=(A++X++Y++Z).length)(hn:N<=1099511627776)(hx:0<X.length)(hy:0<Y.length)(f:AV)(hf:f.clr=f)(hfs:f.safe 1=true):
 qad XV 174 [.tsl true 0 3 N,.d (.int .i64 a),.d (.int .i64 m),.d (.int .i64 b),f] [some (kc (A++X++Y++Z))]=some (.d (.tup []),[some (kc (A++Y++X++Z))]):=by
 have hl:A.length+X.length+Y.length+Z.length=N:=by rw[hN];simp;omega
 obtain⟨A2,X2,Y2,Z2,r1,r2,r3,r4,r5⟩:=qx9 (A++Y++X++Z) m N hn f hf hfs (X.length+Y.length) A X Y Z (Nat.le_refl _) hx hy hm.symm hN.symm rfl;have hl2:A2.length+X2.length+Y2.length+Z2.length=N:=by rw[<-r3];simp;omega
 have hs:=qez A2 X2 [] Y2 Z2 A2.length m X2.length N rfl (by simp;omega) rfl r1 (by simp;omega) hn f hf;simp only[List.append_nil]at hs;rw[qaA XV _ _ _ qDf rfl qs2 rfl,r4];have w1:IntKind.i64.wrap ((m:Int)-a)=(X.length:Int):=by rw[wrap_i64 (by omega) (by omega)];omega
 have w2:IntKind.i64.wrap ((b:Int)-m)=(Y.length:Int):=by rw[wrap_i64 (by omega) (by omega)];omega
 have w3:IntKind.i64.wrap ((m:Int)-X2.length)=(A2.length:Int):=by rw[wrap_i64 (by omega) (by omega)];omega
 generalize kc (A++X++Y++Z)=c1 at*
 generalize kc (A2++X2++Y2++Z2)=c2 at*
 generalize kc (A2++Y2++X2++Z2)=c3 at*
 simp[qDf,qpD,qpC,w1,w2,hf];rw[r5];simp[qpA,w3,hf,hs]
end Go.Proofs.Ytfiakfiocdfpbaa.VS
namespace Go.Proofs.Ytfiakfiocdfpbaa.VS
theorem qnh(l:List T)(i:Nat)(hi:i<l.length):((kc l).drop (i*3)).take 3=e3 (tAt l i):=by
 unfold kc;rw[qgy (qmd l) i (by simpa using hi)];simp[qaD hi]
theorem qht(f v:Int)(ks:List T):DV.agg [.int .i64 f,.int .i64 v,.sl .sub (ks.map (T.enc .sub))]=(T.node f v ks).enc .sub:=(T.qcn .sub (.node f v ks)).symm
theorem qGz(l:List T)(a:Nat)(j:Nat)(hn:l.length<=1099511627776)(hl:j+1<l.length)(ha:a<j+1)(hb:∀t,t∈l->t.inner<=1099511627776)(x2 x8:AV):
 qau XV [46,50] (.region true 0 [0,1,2,3,8,9,34] qpH) ⟨[(0,.tsl true 0 3 l.length),(1,.d (.int .i64 a)),(2,x2),(3,.fn 6 []),(8,x8),(9,.d (.int .i64 ((j+1:Nat):Int)))],[some (kc l)]⟩=some (.normal,⟨[(0,.tsl true 0 3 l.length),(1,.d (.int .i64 a)),(2,x2),(3,.fn 6 []),(8,x8),(9,.d (.int .i64 ((j+1:Nat):Int))),(34,.d (.bool (decide (T.cmp (tAt l (j+1)) (tAt l j)<0))))],[some (kc l)]⟩):=by
 have hw:IntKind.i64.wrap (((j+1:Nat):Int)-1)=(j:Int):=by rw[show((j+1:Nat):Int)-1=(j:Int)by omega];exact wrap_i64 (by omega) (by omega)
 have hc:=qel (some (kc l)) (tAt l (j+1)) (tAt l j) (hb _ (qaM hl)) (hb _ (qaM (by omega)));have f1:=qnh l j (by omega);have f2:=qnh l (j+1) hl;have l0:=qgs l;generalize T.cmp (tAt l (j+1)) (tAt l j)=r at hc⊢
 generalize kc l=c0 at f1 f2 l0 hc⊢
 generalize hn':l.length=n at*
 have hj0:(0:Int)<=((j+1:Nat):Int)/\((j+1:Nat):Int)<n:=⟨by omega,by omega⟩;have hjn:((j+1:Nat):Int).toNat=j+1:=rfl;have hi0:(j:Int)<n:=by omega
 have le0:j*3+3<=n*3:=by omega
 have le1:(j+1)*3+3<=n*3:=by omega
 have hja:((a:Int)<((j+1:Nat):Int)):=by omega
 generalize ((j+1:Nat):Int)=J at hw hj0 hjn hja⊢
 obtain⟨fa,va,ka⟩:=tAt l (j+1);obtain⟨fb,vb,kb⟩:=tAt l j;simp only[qh3,qao,T.qdp,T.qet,T.qaS]at f1 f2;simp[qAA,hw,hj0,hjn,hi0,hja,l0,f1,f2,le0,le1,hc,qag,qaa,qaj,qax,qht]
theorem qp4(A Z:List T)(x:T)(i:Nat)(h:i=A.length):tAt (A++x::Z) i=x:=by subst h;exact qoi A Z x
theorem qoN(N a:Nat)(hn:N<=1099511627776)(x2 x8:Int)(x:T):∀(k:Nat) (A S T1:List T),S.length=k->A.length=a->(A++S++x::T1).length=N->(∀t,t∈A++S++x::T1->t.inner<=1099511627776)->
 ∃S1 S2:List T,S=S1++S2/\(∀s,s∈S2->T.cmp x s<0)/\(∀s,S1.getLast?=some s->¬T.cmp x s<0)/\
  ∀(s0:XS),s0.r=[(0,.tsl true 0 3 N),(1,.d (.int .i64 a)),(2,.d (.int .i64 x2)),(3,.fn 6 []),(8,.d (.int .i64 x8)),(9,.d (.int .i64 (a+S.length:Nat)))]->s0.B=[some (kc (A++S++x::T1))]->
  ∃w,qbq XV [46,50] 1 [0,1,2,3,8,9] qnO s0=some (.exit 2,⟨[(0,.tsl true 0 3 N),(1,.d (.int .i64 a)),(2,.d (.int .i64 x2)),(3,.fn 6 []),(8,.d (.int .i64 x8)),(9,.d (.int .i64 (a+S1.length:Nat))),(34,w)],[some (kc (A++S1++x::(S2++T1)))]⟩):=by
 have head:∀(y:Int) (c:List AV) (s0:XS),s0.r=[(0,.tsl true 0 3 N),(1,.d (.int .i64 a)),(2,.d (.int .i64 x2)),(3,.fn 6 []),(8,.d (.int .i64 x8)),(9,.d (.int .i64 y))]->s0.B=[some c]->qaf 1 [0,1,2,3,8,9] s0=some ⟨[(0,.tsl true 0 3 N),(1,.d (.int .i64 a)),(2,.d (.int .i64 x2)),(3,.fn 6 []),(8,.d (.int .i64 x8)),(9,.d (.int .i64 y))],[some c]⟩:=fun y c s0 h1 h2=>by
  obtain⟨r,B⟩:=s0;simp only at h1 h2;subst h1;subst h2
  simp[qaf,qac,qaQ,qcB,qbg]
 intro k
 induction k with
 |zero=>
  intro A S T1 hS hA hN hb;have:S=[]:=List.length_eq_zero_iff.1 hS;subst this;refine⟨[],[],rfl,by simp,by simp,fun s0 h1 h2=>⟨.d (.bool false),?_⟩⟩;refine qaO (head _ _ s0 h1 h2) ?_ (by simp);simp[qnO,qmM,qky,quz,qAA,qAz,quy,quA]
 |succ k ih=>
  intro A S T1 hS hA hN hb;have hne:S≠[]:=by intro h;simp[h]at hS
  obtain⟨S',s,rfl⟩:∃S' s,S=S'++[s]:=⟨S.dropLast,S.getLast hne,(List.dropLast_concat_getLast hne).symm⟩;have hS':S'.length=k:=by simpa using hS
  have hl0:A++(S'++[s])++x::T1=(A++S')++s::([]++x::T1):=by simp
  have hl1:A++S'++x::(s::T1)=(A++S')++x::([]++s::T1):=by simp
  have hNl:A.length+S'.length+T1.length+2=N:=by rw[<-hN];simp;omega
  have hja:a+(S'++[s]).length=(a+S'.length)+1:=by simp;omega
  have t0:tAt (A++(S'++[s])++x::T1) (a+S'.length)=s:=by rw[hl0];exact qp4 _ _ _ _ (by simp[hA])
  have t1:tAt (A++(S'++[s])++x::T1) (a+S'.length+1)=x:=qp4 _ _ _ _ (by simp;omega);have hc:=qGz (A++(S'++[s])++x::T1) a (a+S'.length) (by rw[hN];exact hn) (by rw[hN];omega) (by omega) hb (.d (.int .i64 x2)) (.d (.int .i64 x8));rw[t0,t1,hN]at hc
  by_cases hq:T.cmp x s<0
  ·have hsw:=qBs (A++(S'++[s])++x::T1) (a+S'.length) (by rw[hN];exact hn) (by rw[hN];omega) (.d (.int .i64 a)) (.d (.int .i64 x2)) (.fn 6 []) (.d (.int .i64 x8)) (by simp) (by simp)
   have hsp:swp (A++(S'++[s])++x::T1) (a+S'.length) (a+S'.length+1)=A++S'++x::(s::T1):=by
    rw[hl0,hl1,show a+S'.length=(A++S').length by simp[hA]];exact qlc _ [] _ _ _ _ (by simp)
   rw[hsp,hN]at hsw;obtain⟨S1,S2,e1,e2,e3,e4⟩:=ih A S' (s::T1) hS' hA (by simp;omega) (fun t ht=>hb t (by
    simp only[List.mem_append,List.mem_cons]at ht;rcases ht with(h|h)|h|h|h<;>simp[h]))
   refine⟨S1,S2++[s],by rw[e1];simp,fun y hy=> ?_,e3,fun s0 h1 h2=> ?_⟩
   ·rcases List.mem_append.1 hy with h|h
    ·exact e2 y h
    ·simp at h;subst h;exact hq
   ·rw[hja]at h1
    have hw:=wrap_i64 (n:=((a+S'.length:Nat):Int)) (by omega) (by omega);obtain⟨w,hlo⟩:=e4 ⟨[(0,.tsl true 0 3 N),(1,.d (.int .i64 a)),(2,.d (.int .i64 x2)),(3,.fn 6 []),(8,.d (.int .i64 x8)),(9,.d (.int .i64 (a+S'.length:Nat)))],[some (kc (A++S'++x::(s::T1)))]⟩ rfl rfl;refine⟨w,?_⟩;have hap:S2++[s]++T1=S2++(s::T1):=by simp
    rw[hap,<-hlo];refine qbp (head _ _ s0 h1 h2) ?_;have hw1:IntKind.i64.wrap (((a+S'.length+1:Nat):Int)-1)=((a+S'.length:Nat):Int):=by rw[show((a+S'.length+1:Nat):Int)-1=((a+S'.length:Nat):Int)by omega];exact hw
    simp only[hq,decide_true]at hc;generalize kc (A++S'++x::(s::T1))=c2 at hsw⊢
    generalize kc (A++(S'++[s])++x::T1)=c1 at hc hsw⊢
    generalize ((a+S'.length+1:Nat):Int)=J at*
    generalize ((a+S'.length:Nat):Int)=I at*
    simp only[qnO,qdm,hc];simp;rw[hsw];simp[quy,hw1]
  ·refine⟨S'++[s],[],by simp,by simp,fun y hy=> ?_,fun s0 h1 h2=>⟨.d (.bool false),?_⟩⟩
   ·simp at hy;subst hy;exact hq
   ·rw[hja]at h1⊢
    refine qaO (head _ _ s0 h1 h2) ?_ (by simp);simp only[hq,decide_false]at hc;simp only[List.nil_append];generalize kc (A++(S'++[s])++x::T1)=c1 at hc⊢
    generalize ((a+S'.length+1:Nat):Int)=J at*
    simp only[qnO,qdm,hc];simp
end Go.Proofs.Ytfiakfiocdfpbaa.VS
namespace Go.Proofs.Ytfiakfiocdfpbaa.VS
theorem qqY{S1 S2:List T}{x:T}(h:Srt (S1++S2))(h2:∀s,s∈S2->T.cmp x s<0)(h1:∀s,S1.getLast?=some s->¬T.cmp x s<0):Srt (S1++x::S2):=by
 unfold Srt at*
 rw[List.pairwise_append]at h⊢
 obtain⟨p1,p2,p3⟩:=h;have hx:∀s,s∈S1->tle s x:=by
  intro s hs;have hne:S1≠[]:=fun he=>by rw[he]at hs;simp at hs
  have hl:=qb9 (h1 (S1.getLast hne) (List.getLast?_eq_some_getLast hne))
  by_cases he:s=S1.getLast hne
  ·rw[he];exact hl
  ·have hd:s∈S1.dropLast:=by
    have:=List.dropLast_concat_getLast hne;rw[<-this]at hs;rcases List.mem_append.1 hs with h|h
    ·exact h
    ·simp at h;exact absurd h he
   have hp:(S1.dropLast++[S1.getLast hne]).Pairwise tle:=by rw[List.dropLast_concat_getLast];exact p1
   exact qey ((List.pairwise_append.1 hp).2.2 s hd _ (by simp)) hl
 refine⟨p1,List.pairwise_cons.2 ⟨fun s hs=>qdJ (h2 s hs),p2⟩,fun s hs t ht=> ?_⟩;rcases List.mem_cons.1 ht with rfl|ht
 ·exact hx s hs
 ·exact p3 s hs t ht
theorem qnj(N a b:Nat)(hn:N<=1099511627776)(A Z:List T)(hA:A.length=a):∀(R S:List T),0<S.length->b=a+S.length+R.length->(A++S++R++Z).length=N->(∀t,t∈A++S++R++Z->t.inner<=1099511627776)->Srt S->
 ∃W:List T,W.Perm (S++R)/\Srt W/\
  ∀(s0:XS),s0.r=[(0,.tsl true 0 3 N),(1,.d (.int .i64 a)),(2,.d (.int .i64 b)),(3,.fn 6 []),(8,.d (.int .i64 (a+S.length:Nat)))]->s0.B=[some (kc (A++S++R++Z))]->
  qbq XV [46,50] 1 [0,1,2,3,8] qia s0=some (.exit 0,⟨[(0,.tsl true 0 3 N),(1,.d (.int .i64 a)),(2,.d (.int .i64 b)),(3,.fn 6 []),(8,.d (.int .i64 b)),(14,.d (.bool false))],[some (kc (A++W++Z))]⟩):=by
 have head:∀(y:Int) (c:List AV) (s0:XS),s0.r=[(0,.tsl true 0 3 N),(1,.d (.int .i64 a)),(2,.d (.int .i64 b)),(3,.fn 6 []),(8,.d (.int .i64 y))]->s0.B=[some c]->qaf 1 [0,1,2,3,8] s0=some ⟨[(0,.tsl true 0 3 N),(1,.d (.int .i64 a)),(2,.d (.int .i64 b)),(3,.fn 6 []),(8,.d (.int .i64 y))],[some c]⟩:=fun y c s0 h1 h2=>by
  obtain⟨r,B⟩:=s0;simp only at h1 h2;subst h1;subst h2
  simp[qaf,qac,qaQ,qcB,qbg]
 intro R
 induction R with
 |nil=>
  intro S hS hb hN hin hs;refine⟨S,by simp,hs,fun s0 h1 h2=> ?_⟩;have hb':b=a+S.length:=by simpa using hb
  rw[<-hb']at h1;rw[List.append_nil]at h2;refine qaO (head _ _ s0 h1 h2) ?_ (by simp);simp[qia,qky]
 |cons x R ih=>
  intro S hS hb hN hin hs;obtain⟨S1,S2,e1,e2,e3,e4⟩:=qoN N a hn b (a+S.length:Nat) x S.length A S (R++Z) rfl hA (by rw[<-hN];simp) (fun t ht=>hin t (by
   simp only[List.mem_append,List.mem_cons]at ht⊢
   rcases ht with(h|h)|h|h|h<;>simp[h]))
  have hW:Srt (S1++x::S2):=qqY (by rw[<-e1];exact hs) e2 e3;have hlen:(S1++x::S2).length=S.length+1:=by rw[e1];simp;omega
  have hperm:(S1++x::S2).Perm (S++[x]):=by
   rw[e1];exact(List.perm_middle).trans (by
    have:=List.perm_append_comm (l₁:=[x]) (l₂:=S1++S2);simpa using this)
  have hl0:(A++(S1++x::S2)++R++Z).length=N:=by rw[<-hN,e1];simp;omega
  obtain⟨W,w1,w2,w3⟩:=ih (S1++x::S2) (by rw[hlen];omega) (by rw[hlen,hb];simp;omega) hl0 (fun t ht=>hin t (by
   rw[e1];simp only[List.mem_append,List.mem_cons]at ht⊢
   rcases ht with((h|h|h|h)|h)|h<;>simp[h])) hW
  refine⟨W,w1.trans ((hperm.append_right R).trans (by simp)),w2,fun s0 h1 h2=> ?_⟩;have hNl:A.length+S.length+(R.length+1)+Z.length=N:=by rw[<-hN];simp;omega
  have hbl:((a+S.length:Nat):Int)<(b:Int):=by
   simp only[List.length_cons]at hb;omega
  obtain⟨w,hlo⟩:=e4 ⟨[(0,.tsl true 0 3 N),(1,.d (.int .i64 a)),(2,.d (.int .i64 b)),(3,.fn 6 []),(8,.d (.int .i64 (a+S.length:Nat))),(9,.d (.int .i64 (a+S.length:Nat)))],[some (kc (A++S++x::(R++Z)))]⟩ rfl rfl;have hc0:A++S++x::R++Z=A++S++x::(R++Z):=by simp
  rw[hc0]at h2;have hw:=qaw (n:=a+S.length) (by omega);have hnext:=w3 ⟨[(0,.tsl true 0 3 N),(1,.d (.int .i64 a)),(2,.d (.int .i64 b)),(3,.fn 6 []),(8,.d (.int .i64 (a+(S1++x::S2).length:Nat)))],[some (kc (A++(S1++x::S2)++R++Z))]⟩ rfl rfl;rw[<-hnext];refine qbp (head _ _ s0 h1 h2) ?_;have hc1:A++(S1++x::S2)++R++Z=A++S1++x::(S2++(R++Z)):=by simp
  rw[hc1,hlen,show a+(S.length+1)=a+S.length+1 by omega];generalize kc (A++S1++x::(S2++(R++Z)))=c2 at hlo⊢
  generalize kc (A++S++x::(R++Z))=c1 at hlo⊢
  generalize ((a+S.length+1:Nat):Int)=J at*
  generalize ((a+S.length:Nat):Int)=I at*
  simp[qia,qky,quA,quz,hbl];rw[hlo];simp[hw]
theorem qgt(A X Z:List T)(a b N:Nat)(ha:a=A.length)(hb:b=A.length+X.length)(hN:N=(A++X++Z).length)(hn:N<=1099511627776)(hin:∀t,t∈A++X++Z->t.inner<=1099511627776):
 ∃W:List T,W.Perm X/\Srt W/\qad XV 172 [.tsl true 0 3 N,.d (.int .i64 a),.d (.int .i64 b),.fn 6 []] [some (kc (A++X++Z))]=some (.d (.tup []),[some (kc (A++W++Z))]):=by
 have hNl:A.length+X.length+Z.length=N:=by rw[hN];simp;omega
 have hw:=qaw (n:=a) (by omega);cases X with
 |nil=>
  refine⟨[],List.Perm.refl _,List.Pairwise.nil,?_⟩;rw[qaA XV _ _ _ qw0 rfl qiD rfl];have hb':b=a:=by simp at hb;omega
  subst hb';have hlo:qbq XV [46,50] 1 [0,1,2,3,8] qia ⟨[(0,.tsl true 0 3 N),(1,.d (.int .i64 b)),(2,.d (.int .i64 b)),(3,.fn 6 []),(8,.d (.int .i64 (b+1:Nat)))],[some (kc (A++[]++Z))]⟩=some (.exit 0,⟨[(0,.tsl true 0 3 N),(1,.d (.int .i64 b)),(2,.d (.int .i64 b)),(3,.fn 6 []),(8,.d (.int .i64 (b+1:Nat))),(14,.d (.bool false))],[some (kc (A++[]++Z))]⟩):=by
   refine qaO (s0:=⟨[(0,.tsl true 0 3 N),(1,.d (.int .i64 b)),(2,.d (.int .i64 b)),(3,.fn 6 []),(8,.d (.int .i64 (b+1:Nat)))],[some (kc (A++[]++Z))]⟩) (by simp[qaf,qac,qaQ,qcB,qbg]) ?_ (by simp);have hnl:¬(((b+1:Nat):Int)<(b:Int)):=by omega
   generalize ((b+1:Nat):Int)=J at*
   simp[qia,qky,hnl]
  generalize kc (A++[]++Z)=c1 at hlo⊢
  generalize ((b+1:Nat):Int)=J at*
  simp[qw0,qmM,hw];rw[hlo];simp
 |cons x R=>
  obtain⟨W,w1,w2,w3⟩:=qnj N a b hn A Z ha.symm R [x] (by simp) (by rw[hb,ha];simp;omega) (by rw[hN];simp) (fun t ht=>hin t (by
   simp only[List.mem_append,List.mem_cons,List.not_mem_nil,or_false]at ht⊢
   rcases ht with((h|h)|h)|h<;>simp[h])) (List.pairwise_singleton _ _)
  refine⟨W,by simpa using w1,w2,?_⟩;rw[qaA XV _ _ _ qw0 rfl qiD rfl];have hlo:=w3 ⟨[(0,.tsl true 0 3 N),(1,.d (.int .i64 a)),(2,.d (.int .i64 b)),(3,.fn 6 []),(8,.d (.int .i64 (a+1:Nat)))],[some (kc (A++[x]++R++Z))]⟩ rfl rfl;have hc:A++x::R++Z=A++[x]++R++Z:=by simp
  rw[hc];generalize kc (A++[x]++R++Z)=c1 at hlo⊢
  generalize kc (A++W++Z)=c2 at hlo⊢
  generalize ((a+1:Nat):Int)=J at*
  simp[qw0,qmM,hw];rw[hlo];simp
end Go.Proofs.Ytfiakfiocdfpbaa.VS
namespace Go.Proofs.Ytfiakfiocdfpbaa.VS
theorem qFW(x y z:AV):AV.clrs [x,y,z]=[x.clr,y.clr,z.clr]:=by simp only[AV.clrs]
theorem qxS(l:List T)(k:Nat)(hn:l.length<=1099511627776)(hl:k+1<l.length)(x10:Int):
 qau XV [70,74,122,126] (.region true 0 [0,10,13] qlE) ⟨[(0,.tsl true 0 3 l.length),(10,.d (.int .i64 x10)),(13,.d (.int .i64 k)),(58,.d (.bool true))],[some (kc l)]⟩=some (.normal,⟨[(0,.tsl true 0 3 l.length),(10,.d (.int .i64 x10)),(13,.d (.int .i64 k))],[some (kc (swp l (k+1) k))]⟩):=by
 have hw:=qaw (n:=k) (by omega);obtain⟨c1,c2,c3,l1,l2,l3,f1,f2,f3,f4,f5,f6⟩:=qfb l (k+1) k hl (by omega) (by omega);have l0:=qgs l;generalize kc (swp l (k+1) k)=c4 at f6⊢
 generalize kc l=c0 at f1 f2 l0⊢
 generalize hn':l.length=n at*
 have hj0:(0:Int)<=((k+1:Nat):Int)/\((k+1:Nat):Int)<n:=⟨by omega,by omega⟩;have hjn:((k+1:Nat):Int).toNat=k+1:=rfl;have hi0:(k:Int)<n:=by omega
 have le0:k*3+3<=n*3:=by omega
 have le1:(k+1)*3+3<=n*3:=by omega
 generalize ((k+1:Nat):Int)=J at hw hj0 hjn⊢
 simp only[qh3,ql2,qao]at f1 f2 f3 f4 f5 f6;simp[qCN,hw,hj0,hjn,hi0,l0,l1,l2,l3,f1,f2,f3,f4,f5,f6,le0,le1,qFW,qag,qaa,qaj,qax]
theorem qxR(l:List T)(k:Nat)(hn:l.length<=1099511627776)(hl:k+1<l.length)(x14:Int):
 qau XV [70,74,122,126] (.region true 0 [0,14,17] qlA) ⟨[(0,.tsl true 0 3 l.length),(14,.d (.int .i64 x14)),(17,.d (.int .i64 ((k+1:Nat):Int))),(110,.d (.bool true))],[some (kc l)]⟩=some (.normal,⟨[(0,.tsl true 0 3 l.length),(14,.d (.int .i64 x14)),(17,.d (.int .i64 ((k+1:Nat):Int)))],[some (kc (swp l k (k+1)))]⟩):=by
 have hw:IntKind.i64.wrap (((k+1:Nat):Int)-1)=(k:Int):=by rw[show((k+1:Nat):Int)-1=(k:Int)by omega];exact wrap_i64 (by omega) (by omega)
 obtain⟨c1,c2,c3,l1,l2,l3,f1,f2,f3,f4,f5,f6⟩:=qfb l k (k+1) (by omega) hl (by omega);have l0:=qgs l;generalize kc (swp l k (k+1))=c4 at f6⊢
 generalize kc l=c0 at f1 f2 l0⊢
 generalize hn':l.length=n at*
 have hj0:(0:Int)<=((k+1:Nat):Int)/\((k+1:Nat):Int)<n:=⟨by omega,by omega⟩;have hjn:((k+1:Nat):Int).toNat=k+1:=rfl;have hi0:(k:Int)<n:=by omega
 have le0:k*3+3<=n*3:=by omega
 have le1:(k+1)*3+3<=n*3:=by omega
 generalize ((k+1:Nat):Int)=J at hw hj0 hjn⊢
 simp only[qh3,ql2,qao]at f1 f2 f3 f4 f5 f6;simp[qCM,hw,hj0,hjn,hi0,l0,l1,l2,l3,f1,f2,f3,f4,f5,f6,le0,le1,qFW,qag,qaa,qaj,qax]
theorem qy0(l:List T)(a h:Nat)(hn:l.length<=1099511627776)(ha:a<l.length)(hh:h<l.length)(hb:∀t,t∈l->t.inner<=1099511627776)(x10 x11:Int):
 qau XV [70,74,122,126] (.region true 0 [0,1,4,10,11,12,50] qpE) ⟨[(0,.tsl true 0 3 l.length),(1,.d (.int .i64 a)),(4,.fn 6 []),(10,.d (.int .i64 x10)),(11,.d (.int .i64 x11)),(12,.d (.int .i64 h))],[some (kc l)]⟩=some (.normal,⟨[(0,.tsl true 0 3 l.length),(1,.d (.int .i64 a)),(4,.fn 6 []),(10,.d (.int .i64 x10)),(11,.d (.int .i64 x11)),(12,.d (.int .i64 h)),(50,.d (.bool (decide (T.cmp (tAt l h) (tAt l a)<0))))],[some (kc l)]⟩):=by
 have hc:=qel (some (kc l)) (tAt l h) (tAt l a) (hb _ (qaM hh)) (hb _ (qaM ha));have f1:=qnh l h hh;have f2:=qnh l a ha;have l0:=qgs l;generalize T.cmp (tAt l h) (tAt l a)=r at hc⊢
 generalize kc l=c0 at f1 f2 l0 hc⊢
 generalize hn':l.length=n at*
 have hi0:(h:Int)<n:=by omega
 have hj0:(a:Int)<n:=by omega
 have le0:h*3+3<=n*3:=by omega
 have le1:a*3+3<=n*3:=by omega
 obtain⟨fa,va,ka⟩:=tAt l h;obtain⟨fb,vb,kb⟩:=tAt l a;simp only[qh3,qao,T.qdp,T.qet,T.qaS]at f1 f2;simp[qGs,hi0,hj0,ha,hh,l0,f1,f2,le0,le1,hc,qag,qaa,qaj,qax,qht]
theorem qwt(l:List T)(m h:Nat)(hn:l.length<=1099511627776)(hm:m<l.length)(hh:h<l.length)(hb:∀t,t∈l->t.inner<=1099511627776)(x14 x15:Int):
 qau XV [70,74,122,126] (.region true 0 [0,2,4,14,15,16,103] qlB) ⟨[(0,.tsl true 0 3 l.length),(2,.d (.int .i64 m)),(4,.fn 6 []),(14,.d (.int .i64 x14)),(15,.d (.int .i64 x15)),(16,.d (.int .i64 h))],[some (kc l)]⟩=some (.normal,⟨[(0,.tsl true 0 3 l.length),(2,.d (.int .i64 m)),(4,.fn 6 []),(14,.d (.int .i64 x14)),(15,.d (.int .i64 x15)),(16,.d (.int .i64 h)),(103,.d (.bool (!decide (T.cmp (tAt l m) (tAt l h)<0))))],[some (kc l)]⟩):=by
 have hc:=qel (some (kc l)) (tAt l m) (tAt l h) (hb _ (qaM hm)) (hb _ (qaM hh));have f1:=qnh l h hh;have f2:=qnh l m hm;have l0:=qgs l;generalize T.cmp (tAt l m) (tAt l h)=r at hc⊢
 generalize kc l=c0 at f1 f2 l0 hc⊢
 generalize hn':l.length=n at*
 have hi0:(h:Int)<n:=by omega
 have hj0:(m:Int)<n:=by omega
 have le0:h*3+3<=n*3:=by omega
 have le1:m*3+3<=n*3:=by omega
 obtain⟨fa,va,ka⟩:=tAt l h;obtain⟨fb,vb,kb⟩:=tAt l m;simp only[qh3,qao,T.qdp,T.qet,T.qaS]at f1 f2
 by_cases hr:r<0
 ·simp[qwk,hi0,hj0,hm,hh,l0,f1,f2,le0,le1,hc,hr,qag,qaa,qaj,qax,qht]
 ·simp[qwk,hi0,hj0,hm,hh,l0,f1,f2,le0,le1,hc,hr,qag,qaa,qaj,qax,qht]
theorem qws(l:List T)(p c:Nat)(hn:l.length<=1099511627776)(hcp:c<=p)(hp:p-c<l.length)(hh:c<l.length)(hpp:p<=4398046511104)(hb:∀t,t∈l->t.inner<=1099511627776)(x1 x2 x3 x18 x19 x20 x21:Int):
 qau XV [70,74,122,126] (.region true 0 [0,1,2,3,4,18,19,20,21,22,23,171] qly) ⟨[(0,.tsl true 0 3 l.length),(1,.d (.int .i64 x1)),(2,.d (.int .i64 x2)),(3,.d (.int .i64 x3)),(4,.fn 6 []),(18,.d (.int .i64 x18)),(19,.d (.int .i64 x19)),(20,.d (.int .i64 x20)),(21,.d (.int .i64 x21)),(22,.d (.int .i64 p)),(23,.d (.int .i64 c))],[some (kc l)]⟩=some (.normal,⟨[(0,.tsl true 0 3 l.length),(1,.d (.int .i64 x1)),(2,.d (.int .i64 x2)),(3,.d (.int .i64 x3)),(4,.fn 6 []),(18,.d (.int .i64 x18)),(19,.d (.int .i64 x19)),(20,.d (.int .i64 x20)),(21,.d (.int .i64 x21)),(22,.d (.int .i64 p)),(23,.d (.int .i64 c)),(171,.d (.bool (!decide (T.cmp (tAt l (p-c)) (tAt l c)<0))))],[some (kc l)]⟩):=by
 have hw:IntKind.i64.wrap ((p:Int)-c)=((p-c:Nat):Int):=by rw[wrap_i64 (by omega) (by omega)];omega
 have hc:=qel (some (kc l)) (tAt l (p-c)) (tAt l c) (hb _ (qaM hp)) (hb _ (qaM hh));have f1:=qnh l c hh;have f2:=qnh l (p-c) hp;have l0:=qgs l;generalize T.cmp (tAt l (p-c)) (tAt l c)=r at hc⊢
 generalize kc l=c0 at f1 f2 l0 hc⊢
 generalize hn':l.length=n at*
 generalize hq:p-c=q at*
 have hi0:(c:Int)<n:=by omega
 have hj0:(q:Int)<n:=by omega
 have le0:c*3+3<=n*3:=by omega
 have le1:q*3+3<=n*3:=by omega
 obtain⟨fa,va,ka⟩:=tAt l c;obtain⟨fb,vb,kb⟩:=tAt l q;simp only[qh3,qao,T.qdp,T.qet,T.qaS]at f1 f2
 by_cases hr:r<0
 ·simp[qwj,hw,hi0,hj0,hp,hh,l0,f1,f2,le0,le1,hc,hr,qag,qaa,qaj,qax,qht]
 ·simp[qwj,hw,hi0,hj0,hp,hh,l0,f1,f2,le0,le1,hc,hr,qag,qaa,qaj,qax,qht]
end Go.Proofs.Ytfiakfiocdfpbaa.VS
namespace Go.Proofs.Ytfiakfiocdfpbaa.VS
def bs(P:Nat->Bool):Nat->Nat->Nat->Nat
 |0,i,_=>i
 |k+1,i,j=>if i<j then(if P ((i+j)/2)=true then bs P k ((i+j)/2+1) j else bs P k i ((i+j)/2))else i
theorem qjW(P:Nat->Bool):∀(k i j:Nat),i<=j->j-i<=k->i<=bs P k i j/\bs P k i j<=j/\(bs P k i j=i\/P (bs P k i j-1)=true)/\(bs P k i j=j\/P (bs P k i j)=false)
 |0,i,j,h,hk=>by
  have e:bs P 0 i j=i:=rfl;rw[e];exact⟨Nat.le_refl _,h,.inl rfl,.inl (by omega)⟩
 |k+1,i,j,h,hk=>by
  simp only[bs]
  by_cases hij:i<j
  ·rw[if_pos hij]
   by_cases hP:P ((i+j)/2)=true
   ·rw[if_pos hP]
    obtain⟨h1,h2,h3,h4⟩:=qjW P k ((i+j)/2+1) j (by omega) (by omega);refine⟨by omega,h2,?_,h4⟩;rcases h3 with h3|h3
    ·right;rw[h3];simpa using hP
    ·exact .inr h3
   ·rw[if_neg hP]
    obtain⟨h1,h2,h3,h4⟩:=qjW P k i ((i+j)/2) (by omega) (by omega);refine⟨h1,by omega,h3,?_⟩;rcases h4 with h4|h4
    ·right;rw[h4];simpa using hP
    ·exact .inr h4
  ·rw[if_neg hij]
   exact⟨Nat.le_refl _,h,.inl rfl,.inl (by omega)⟩
theorem wrap_u64{n:Int}(h0:0<=n)(h1:n<=18446744073709551615):IntKind.u64.wrap n=n:=by
 simp[IntKind.wrap,IntKind.bits,IntKind.signed];omega
theorem qcx(x:Int):qc3 .shr .u64 x 1=some (.int .u64 (x.fdiv 2)):=rfl
theorem qyH(n:Nat):(n:Int).fdiv 2=((n/2:Nat):Int):=by
 rw[Int.fdiv_eq_ediv_of_nonneg _ (by omega)];omega
theorem qgo(i j:Nat)(h:i+j<=4398046511104):IntKind.i64.wrap ((i:Int)+j)=((i+j:Nat):Int)/\IntKind.u64.wrap ((i+j:Nat):Int)=((i+j:Nat):Int)/\((i+j:Nat):Int).fdiv 2=(((i+j)/2:Nat):Int)/\IntKind.i64.wrap (((i+j)/2:Nat):Int)=(((i+j)/2:Nat):Int):=
 ⟨by rw[wrap_i64 (by omega) (by omega)];omega,wrap_u64 (by omega) (by omega),qyH _,wrap_i64 (by omega) (by omega)⟩
theorem qzc(l:List T)(a:Nat)(hn:l.length<=1099511627776)(ha:a<l.length)(hb:∀t,t∈l->t.inner<=1099511627776):∀(k i j:Nat),i<=j->j-i<=k->j<=l.length->
 qbq XV [70,74,122,126] 1 [0,1,4,10,11] qkW ⟨[(0,.tsl true 0 3 l.length),(1,.d (.int .i64 a)),(4,.fn 6 []),(10,.d (.int .i64 i)),(11,.d (.int .i64 j))],[some (kc l)]⟩=
  some (.exit 0,⟨[(0,.tsl true 0 3 l.length),(1,.d (.int .i64 a)),(4,.fn 6 []),(10,.d (.int .i64 (bs (fun h=>decide (T.cmp (tAt l h) (tAt l a)<0)) k i j:Nat))),(11,.d (.int .i64 (bs (fun h=>decide (T.cmp (tAt l h) (tAt l a)<0)) k i j:Nat))),(33,.d (.bool false))],[some (kc l)]⟩):=by
 have head:∀(i j:Nat),qaf 1 [0,1,4,10,11] ⟨[(0,.tsl true 0 3 l.length),(1,.d (.int .i64 a)),(4,.fn 6 []),(10,.d (.int .i64 i)),(11,.d (.int .i64 j))],[some (kc l)]⟩=some ⟨[(0,.tsl true 0 3 l.length),(1,.d (.int .i64 a)),(4,.fn 6 []),(10,.d (.int .i64 i)),(11,.d (.int .i64 j))],[some (kc l)]⟩:=fun i j=>by
  simp[qaf,qac,qaQ,qcB,qbg]
 have stop:∀i:Nat,qbq XV [70,74,122,126] 1 [0,1,4,10,11] qkW ⟨[(0,.tsl true 0 3 l.length),(1,.d (.int .i64 a)),(4,.fn 6 []),(10,.d (.int .i64 i)),(11,.d (.int .i64 i))],[some (kc l)]⟩=
  some (.exit 0,⟨[(0,.tsl true 0 3 l.length),(1,.d (.int .i64 a)),(4,.fn 6 []),(10,.d (.int .i64 i)),(11,.d (.int .i64 i)),(33,.d (.bool false))],[some (kc l)]⟩):=fun i=>by
  refine qaO (head _ _) ?_ (by simp);simp[qkW,qpF]
 intro k
 induction k with
 |zero=>
  intro i j h hk hj;have:i=j:=by omega
  subst this;exact stop i
 |succ k ih=>
  intro i j h hk hj;simp only[bs]
  by_cases hij:i<j
  ·rw[if_pos hij]
   obtain⟨m1,m2,m3,m4⟩:=qgo i j (by omega);have hc:=qy0 l a ((i+j)/2) hn ha (by omega) hb i j;have hw:=qaw (n:=(i+j)/2) (by omega);have hij':(i:Int)<j:=by omega
   by_cases hP:T.cmp (tAt l ((i+j)/2)) (tAt l a)<0
   ·rw[if_pos (by simpa using hP)]
    rw[<-ih ((i+j)/2+1) j (by omega) (by omega) hj];refine qbp (head _ _) ?_;simp only[hP,decide_true]at hc;generalize kc l=c0 at hc⊢
    generalize (((i+j)/2+1:Nat):Int)=gv1 at*
    generalize (((i+j)/2:Nat):Int)=gv2 at*
    generalize ((i+j:Nat):Int)=gv3 at*
    generalize (i:Int)=gv4 at*
    generalize (j:Int)=gv5 at*
    simp[qkW,qpF,qun,qum,qul,hij',m1,m2,m3,m4,qcl,qcx];rw[hc];simp[hw]
   ·rw[if_neg (by simpa using hP)]
    rw[<-ih i ((i+j)/2) (by omega) (by omega) (by omega)];refine qbp (head _ _) ?_;simp only[hP,decide_false]at hc;generalize kc l=c0 at hc⊢
    generalize (((i+j)/2+1:Nat):Int)=gv1 at*
    generalize (((i+j)/2:Nat):Int)=gv2 at*
    generalize ((i+j:Nat):Int)=gv3 at*
    generalize (i:Int)=gv4 at*
    generalize (j:Int)=gv5 at*
    simp[qkW,qpF,qun,qum,qul,hij',m1,m2,m3,m4,qcl,qcx];rw[hc];simp
  ·rw[if_neg hij]
   have:i=j:=by omega
   subst this;exact stop i
theorem qzb(l:List T)(a:Nat)(hn:l.length<=1099511627776)(ha:a<l.length)(hb:∀t,t∈l->t.inner<=1099511627776):∀(k i j:Nat),i<=j->j-i<=k->j<=l.length->
 qbq XV [70,74,122,126] 1 [0,2,4,14,15] qkV ⟨[(0,.tsl true 0 3 l.length),(2,.d (.int .i64 a)),(4,.fn 6 []),(14,.d (.int .i64 i)),(15,.d (.int .i64 j))],[some (kc l)]⟩=
  some (.exit 4,⟨[(0,.tsl true 0 3 l.length),(2,.d (.int .i64 a)),(4,.fn 6 []),(14,.d (.int .i64 (bs (fun h=> !decide (T.cmp (tAt l a) (tAt l h)<0)) k i j:Nat))),(15,.d (.int .i64 (bs (fun h=> !decide (T.cmp (tAt l a) (tAt l h)<0)) k i j:Nat))),(85,.d (.bool false))],[some (kc l)]⟩):=by
 have head:∀(i j:Nat),qaf 1 [0,2,4,14,15] ⟨[(0,.tsl true 0 3 l.length),(2,.d (.int .i64 a)),(4,.fn 6 []),(14,.d (.int .i64 i)),(15,.d (.int .i64 j))],[some (kc l)]⟩=some ⟨[(0,.tsl true 0 3 l.length),(2,.d (.int .i64 a)),(4,.fn 6 []),(14,.d (.int .i64 i)),(15,.d (.int .i64 j))],[some (kc l)]⟩:=fun i j=>by
  simp[qaf,qac,qaQ,qcB,qbg]
 have stop:∀i:Nat,qbq XV [70,74,122,126] 1 [0,2,4,14,15] qkV ⟨[(0,.tsl true 0 3 l.length),(2,.d (.int .i64 a)),(4,.fn 6 []),(14,.d (.int .i64 i)),(15,.d (.int .i64 i))],[some (kc l)]⟩=
  some (.exit 4,⟨[(0,.tsl true 0 3 l.length),(2,.d (.int .i64 a)),(4,.fn 6 []),(14,.d (.int .i64 i)),(15,.d (.int .i64 i)),(85,.d (.bool false))],[some (kc l)]⟩):=fun i=>by
  refine qaO (head _ _) ?_ (by simp);simp[qkV,qlC]
 intro k
 induction k with
 |zero=>
  intro i j h hk hj;have:i=j:=by omega
  subst this;exact stop i
 |succ k ih=>
  intro i j h hk hj;simp only[bs]
  by_cases hij:i<j
  ·rw[if_pos hij]
   obtain⟨m1,m2,m3,m4⟩:=qgo i j (by omega);have hc:=qwt l a ((i+j)/2) hn ha (by omega) hb i j;have hw:=qaw (n:=(i+j)/2) (by omega);have hij':(i:Int)<j:=by omega
   by_cases hP:¬T.cmp (tAt l a) (tAt l ((i+j)/2))<0
   ·rw[if_pos (by simpa using hP)]
    rw[<-ih ((i+j)/2+1) j (by omega) (by omega) hj];refine qbp (head _ _) ?_;simp only[hP,decide_false,Bool.not_false]at hc;generalize kc l=c0 at hc⊢
    generalize (((i+j)/2+1:Nat):Int)=gv1 at*
    generalize (((i+j)/2:Nat):Int)=gv2 at*
    generalize ((i+j:Nat):Int)=gv3 at*
    generalize (i:Int)=gv4 at*
    generalize (j:Int)=gv5 at*
    simp[qkV,qlC,qoF,qoE,qoD,hij',m1,m2,m3,m4,qcl,qcx];rw[hc];simp[hw]
   ·rw[if_neg (by simpa using hP)]
    rw[<-ih i ((i+j)/2) (by omega) (by omega) (by omega)];refine qbp (head _ _) ?_;simp only[Classical.not_not.1 hP,decide_true,Bool.not_true]at hc;generalize kc l=c0 at hc⊢
    generalize (((i+j)/2+1:Nat):Int)=gv1 at*
    generalize (((i+j)/2:Nat):Int)=gv2 at*
    generalize ((i+j:Nat):Int)=gv3 at*
    generalize (i:Int)=gv4 at*
    generalize (j:Int)=gv5 at*
    simp[qkV,qlC,qoF,qoE,qoD,hij',m1,m2,m3,m4,qcl,qcx];rw[hc];simp
  ·rw[if_neg hij]
   have:i=j:=by omega
   subst this;exact stop i
theorem qza(l:List T)(p:Nat)(x1 x2 x3 x18 x19:Int)(hn:l.length<=1099511627776)(hpp:p<=4398046511104)(hb:∀t,t∈l->t.inner<=1099511627776):∀(k i j:Nat),i<=j->j-i<=k->j<=l.length->(∀c,i<=c->c<j->c<=p/\p-c<l.length)->
 qbq XV [70,74,122,126] 1 [0,1,2,3,4,18,19,20,21,22] qgN ⟨[(0,.tsl true 0 3 l.length),(1,.d (.int .i64 x1)),(2,.d (.int .i64 x2)),(3,.d (.int .i64 x3)),(4,.fn 6 []),(18,.d (.int .i64 x18)),(19,.d (.int .i64 x19)),(20,.d (.int .i64 i)),(21,.d (.int .i64 j)),(22,.d (.int .i64 p))],[some (kc l)]⟩=
  some (.exit 8,⟨[(0,.tsl true 0 3 l.length),(1,.d (.int .i64 x1)),(2,.d (.int .i64 x2)),(3,.d (.int .i64 x3)),(4,.fn 6 []),(18,.d (.int .i64 x18)),(19,.d (.int .i64 x19)),(20,.d (.int .i64 (bs (fun c=> !decide (T.cmp (tAt l (p-c)) (tAt l c)<0)) k i j:Nat))),(21,.d (.int .i64 (bs (fun c=> !decide (T.cmp (tAt l (p-c)) (tAt l c)<0)) k i j:Nat))),(22,.d (.int .i64 p)),(151,.d (.bool false))],[some (kc l)]⟩):=by
 have head:∀(i j:Nat),qaf 1 [0,1,2,3,4,18,19,20,21,22] ⟨[(0,.tsl true 0 3 l.length),(1,.d (.int .i64 x1)),(2,.d (.int .i64 x2)),(3,.d (.int .i64 x3)),(4,.fn 6 []),(18,.d (.int .i64 x18)),(19,.d (.int .i64 x19)),(20,.d (.int .i64 i)),(21,.d (.int .i64 j)),(22,.d (.int .i64 p))],[some (kc l)]⟩=some ⟨[(0,.tsl true 0 3 l.length),(1,.d (.int .i64 x1)),(2,.d (.int .i64 x2)),(3,.d (.int .i64 x3)),(4,.fn 6 []),(18,.d (.int .i64 x18)),(19,.d (.int .i64 x19)),(20,.d (.int .i64 i)),(21,.d (.int .i64 j)),(22,.d (.int .i64 p))],[some (kc l)]⟩:=fun i j=>by
  simp[qaf,qac,qaQ,qcB,qbg]
 have stop:∀i:Nat,qbq XV [70,74,122,126] 1 [0,1,2,3,4,18,19,20,21,22] qgN ⟨[(0,.tsl true 0 3 l.length),(1,.d (.int .i64 x1)),(2,.d (.int .i64 x2)),(3,.d (.int .i64 x3)),(4,.fn 6 []),(18,.d (.int .i64 x18)),(19,.d (.int .i64 x19)),(20,.d (.int .i64 i)),(21,.d (.int .i64 i)),(22,.d (.int .i64 p))],[some (kc l)]⟩=
  some (.exit 8,⟨[(0,.tsl true 0 3 l.length),(1,.d (.int .i64 x1)),(2,.d (.int .i64 x2)),(3,.d (.int .i64 x3)),(4,.fn 6 []),(18,.d (.int .i64 x18)),(19,.d (.int .i64 x19)),(20,.d (.int .i64 i)),(21,.d (.int .i64 i)),(22,.d (.int .i64 p)),(151,.d (.bool false))],[some (kc l)]⟩):=fun i=>by
  refine qaO (head _ _) ?_ (by simp);simp[qgN,qlz]
 intro k
 induction k with
 |zero=>
  intro i j h hk hj hR;have:i=j:=by omega
  subst this;exact stop i
 |succ k ih=>
  intro i j h hk hj hR;simp only[bs]
  by_cases hij:i<j
  ·rw[if_pos hij]
   obtain⟨m1,m2,m3,m4⟩:=qgo i j (by omega);have hc:=qws l p ((i+j)/2) hn (hR _ (by omega) (by omega)).1 (hR _ (by omega) (by omega)).2 (by omega) hpp hb x1 x2 x3 x18 x19 i j;have hw:=qaw (n:=(i+j)/2) (by omega);have hij':(i:Int)<j:=by omega
   by_cases hP:¬T.cmp (tAt l (p-(i+j)/2)) (tAt l ((i+j)/2))<0
   ·rw[if_pos (by simpa using hP)]
    rw[<-ih ((i+j)/2+1) j (by omega) (by omega) hj (fun c h1 h2=>hR c (by omega) h2)];refine qbp (head _ _) ?_;simp only[hP,decide_false,Bool.not_false]at hc;generalize kc l=c0 at hc⊢
    generalize (((i+j)/2+1:Nat):Int)=gv1 at*
    generalize (((i+j)/2:Nat):Int)=gv2 at*
    generalize ((i+j:Nat):Int)=gv3 at*
    generalize (i:Int)=gv4 at*
    generalize (j:Int)=gv5 at*
    simp[qgN,qlz,qow,qov,qou,hij',m1,m2,m3,m4,qcl,qcx];rw[hc];simp[hw]
   ·rw[if_neg (by simpa using hP)]
    rw[<-ih i ((i+j)/2) (by omega) (by omega) (by omega) (fun c h1 h2=>hR c h1 (by omega))];refine qbp (head _ _) ?_;simp only[Classical.not_not.1 hP,decide_true,Bool.not_true]at hc;generalize kc l=c0 at hc⊢
    generalize (((i+j)/2+1:Nat):Int)=gv1 at*
    generalize (((i+j)/2:Nat):Int)=gv2 at*
    generalize ((i+j:Nat):Int)=gv3 at*
    generalize (i:Int)=gv4 at*
    generalize (j:Int)=gv5 at*
    simp[qgN,qlz,qow,qov,qou,hij',m1,m2,m3,m4,qcl,qcx];rw[hc];simp
  ·rw[if_neg hij]
   have:i=j:=by omega
   subst this;exact stop i
end Go.Proofs.Ytfiakfiocdfpbaa.VS
namespace Go.Proofs.Ytfiakfiocdfpbaa.VS
theorem right_step(A Y Z:List T)(x:T)(s:Nat)(hs:s<Y.length):swp (A++Y.take s++x::(Y.drop s++Z)) (A.length+s+1) (A.length+s)=A++Y.take (s+1)++x::(Y.drop (s+1)++Z):=by
 have hl:(A++Y.take s).length=A.length+s:=by simp;omega
 rw[<-List.take_append_getElem hs,List.drop_eq_getElem_cons hs,qpl _ _ _ (by omega),<-hl];have:=qlc (A++Y.take s) [] (Y.drop (s+1)++Z) x Y[s] ((A++Y.take s).length+1) rfl;simp only[List.nil_append]at this;rw[show Y[s]::Y.drop (s+1)++Z=Y[s]::(Y.drop (s+1)++Z)from rfl,this];simp only[List.append_assoc,List.cons_append,List.nil_append]
theorem qq4(A Y Z:List T)(x:T)(N a:Nat)(hA:A.length=a)(hN:(A++x::(Y++Z)).length=N)(hn:N<=1099511627776):
 qbq XV [70,74,122,126] 1 [0,10,13] qnN ⟨[(0,.tsl true 0 3 N),(10,.d (.int .i64 (a+1+Y.length:Nat))),(13,.d (.int .i64 a))],[some (kc (A++x::(Y++Z)))]⟩=
  some (.exit 2,⟨[(0,.tsl true 0 3 N),(10,.d (.int .i64 (a+1+Y.length:Nat))),(13,.d (.int .i64 (a+Y.length:Nat))),(58,.d (.bool false))],[some (kc (A++Y++x::Z))]⟩):=by
 have hNl:A.length+1+Y.length+Z.length=N:=by rw[<-hN];simp;omega
 have hlen:∀s,(A++Y.take s++x::(Y.drop s++Z)).length=N:=fun s=>by simp;omega
 have hw1:IntKind.i64.wrap (((a+1+Y.length:Nat):Int)-1)=((a+Y.length:Nat):Int):=by rw[wrap_i64 (by omega) (by omega)];omega
 have h:=qaJ (X:=XV) (T:=[70,74,122,126]) (L:=1) (live:=[0,10,13]) (b:=qnN) (n:=Y.length) (γ:=Unit) (st:=fun(_:Unit) s=>⟨[(0,.tsl true 0 3 N),(10,.d (.int .i64 (a+1+Y.length:Nat))),(13,.d (.int .i64 (a+s:Nat)))],[some (kc (A++Y.take s++x::(Y.drop s++Z)))]⟩) (step:=fun _ _=> .inl ())
  (F:=fun _=>(.exit 2,⟨[(0,.tsl true 0 3 N),(10,.d (.int .i64 (a+1+Y.length:Nat))),(13,.d (.int .i64 (a+Y.length:Nat))),(58,.d (.bool false))],[some (kc (A++Y.take Y.length++x::(Y.drop Y.length++Z)))]⟩)) (R:=fun _=>(.ret,⟨[],[]⟩))
  (fun _=>⟨by simp,by
   generalize ((a+1+Y.length:Nat):Int)=gv1 at*
   generalize ((a+Y.length:Nat):Int)=gv2 at*
   simp[qnN,quk,hw1]⟩)
  (fun _ s hs=>by
   have hsw:=qxS (A++Y.take s++x::(Y.drop s++Z)) (a+s) (by rw[hlen];exact hn) (by rw[hlen];omega) (a+1+Y.length:Nat);rw[<-hA,right_step A Y Z x s hs,hA,hlen]at hsw;have hw:=qaw (n:=a+s) (by omega);have hlt:((a+s:Nat):Int)<((a+Y.length:Nat):Int):=by omega
   generalize hc2:kc (A++Y.take (s+1)++x::(Y.drop (s+1)++Z))=c2 at hsw;generalize kc (A++Y.take s++x::(Y.drop s++Z))=c1 at hsw⊢
   exact⟨⟨[(0,.tsl true 0 3 N),(10,.d (.int .i64 (a+1+Y.length:Nat))),(13,.d (.int .i64 (a+s+1:Nat)))],[some c2]⟩,by
    generalize ((a+s+1:Nat):Int)=gv3 at*
    generalize ((a+s:Nat):Int)=gv4 at*
    generalize ((a+1+Y.length:Nat):Int)=gv1 at*
    generalize ((a+Y.length:Nat):Int)=gv2 at*
    simp[qnN,quk,qux,hw1,hlt];rw[hsw];simp[hw],by rw[<-hc2];simp[qaf,qac,qaQ];omega⟩)
  Y.length () 0 ⟨[(0,.tsl true 0 3 N),(10,.d (.int .i64 (a+1+Y.length:Nat))),(13,.d (.int .i64 a))],[some (kc (A++x::(Y++Z)))]⟩ (by omega) (by simp[qaf,qac,qaQ])
 rw[qtO,List.take_length,List.drop_length,List.nil_append]at h;exact h
theorem left_step(A X Z:List T)(y:T)(n:Nat)(hn:n<X.length):swp (A++X.take (n+1)++y::(X.drop (n+1)++Z)) (A.length+n) (A.length+n+1)=A++X.take n++y::(X.drop n++Z):=by
 have hl:(A++X.take n).length=A.length+n:=by simp;omega
 rw[<-List.take_append_getElem hn,List.drop_eq_getElem_cons hn,<-hl];have:=qlc (A++X.take n) [] (X.drop (n+1)++Z) X[n] y ((A++X.take n).length+1) rfl;simp only[List.nil_append]at this;rw[show A++(X.take n++[X[n]])++y::(X.drop (n+1)++Z)=A++X.take n++X[n]::y::(X.drop (n+1)++Z)by simp only[List.append_assoc,List.cons_append,List.nil_append],this];simp only[List.append_assoc,List.cons_append,List.nil_append]
theorem qvh(A X Z:List T)(y:T)(N a:Nat)(hA:A.length=a)(hN:(A++X++y::Z).length=N)(hn:N<=1099511627776):
 qbq XV [70,74,122,126] 1 [0,14,17] qnM ⟨[(0,.tsl true 0 3 N),(14,.d (.int .i64 a)),(17,.d (.int .i64 (a+X.length:Nat)))],[some (kc (A++X++y::Z))]⟩=
  some (.exit 6,⟨[(0,.tsl true 0 3 N),(14,.d (.int .i64 a)),(17,.d (.int .i64 a)),(110,.d (.bool false))],[some (kc (A++y::(X++Z)))]⟩):=by
 have hNl:A.length+X.length+(Z.length+1)=N:=by rw[<-hN];simp;omega
 have hlen:∀s,(A++X.take s++y::(X.drop s++Z)).length=N:=fun s=>by simp;omega
 have h:=qaJ (X:=XV) (T:=[70,74,122,126]) (L:=1) (live:=[0,14,17]) (b:=qnM) (n:=X.length) (γ:=Unit) (st:=fun(_:Unit) s=>⟨[(0,.tsl true 0 3 N),(14,.d (.int .i64 a)),(17,.d (.int .i64 (a+(X.length-s):Nat)))],[some (kc (A++X.take (X.length-s)++y::(X.drop (X.length-s)++Z)))]⟩) (step:=fun _ _=> .inl ())
  (F:=fun _=>(.exit 6,⟨[(0,.tsl true 0 3 N),(14,.d (.int .i64 a)),(17,.d (.int .i64 a)),(110,.d (.bool false))],[some (kc (A++X.take 0++y::(X.drop 0++Z)))]⟩)) (R:=fun _=>(.ret,⟨[],[]⟩))
  (fun _=>⟨by simp,by
   rw[Nat.sub_self,Nat.add_zero];simp[qnM,qoC]⟩)
  (fun _ s hs=>by
   obtain⟨n,hnn⟩:∃n,X.length-s=n+1:=⟨X.length-s-1,by omega⟩;have hn1:X.length-(s+1)=n:=by omega
   have hsw:=qxR (A++X.take (n+1)++y::(X.drop (n+1)++Z)) (a+n) (by rw[hlen];exact hn) (by rw[hlen];omega) a;rw[<-hA,left_step A X Z y n (by omega),hA,hlen]at hsw;have hw:IntKind.i64.wrap (((a+n+1:Nat):Int)-1)=((a+n:Nat):Int):=by rw[wrap_i64 (by omega) (by omega)];omega
   have hlt:(a:Int)<((a+n+1:Nat):Int):=by omega
   rw[hnn,show a+(n+1)=a+n+1 by omega];generalize hc2:kc (A++X.take n++y::(X.drop n++Z))=c2 at hsw;generalize kc (A++X.take (n+1)++y::(X.drop (n+1)++Z))=c1 at hsw⊢
   exact⟨⟨[(0,.tsl true 0 3 N),(14,.d (.int .i64 a)),(17,.d (.int .i64 (a+n:Nat)))],[some c2]⟩,by
    generalize ((a+n+1:Nat):Int)=gv3 at*
    generalize ((a+n:Nat):Int)=gv4 at*
    simp[qnM,qoC,qut,hlt];rw[hsw];simp[hw],by rw[<-hc2];simp[qaf,qac,qaQ,hn1]⟩)
  X.length () 0 ⟨[(0,.tsl true 0 3 N),(14,.d (.int .i64 a)),(17,.d (.int .i64 (a+X.length:Nat)))],[some (kc (A++X++y::Z))]⟩ (by omega) (by simp[qaf,qac,qaQ])
 rw[qtO]at h;simpa using h
end Go.Proofs.Ytfiakfiocdfpbaa.VS
namespace Go.Proofs.Ytfiakfiocdfpbaa.VS
theorem qCp{S:List T}(h:Srt S){p:T}(hp:p∈S):∃s,S.getLast?=some s/\tle p s:=by
 have hne:S≠[]:=fun he=>by rw[he]at hp;simp at hp
 refine⟨S.getLast hne,List.getLast?_eq_some_getLast hne,?_⟩
 by_cases he:p=S.getLast hne
 ·rw[he];exact qpj _
 ·have hd:p∈S.dropLast:=by
   have:=List.dropLast_concat_getLast hne;rw[<-this]at hp;rcases List.mem_append.1 hp with h|h
   ·exact h
   ·simp at h;exact absurd h he
  have hp':(S.dropLast++[S.getLast hne]).Pairwise tle:=by rw[List.dropLast_concat_getLast];exact h
  exact(List.pairwise_append.1 hp').2.2 p hd _ (by simp)
theorem qCs{S:List T}(h:Srt S){p:T}(hp:p∈S):∃s,S.head?=some s/\tle s p:=by
 cases S with
 |nil=>simp at hp
 |cons x r=>
  refine⟨x,rfl,?_⟩;rcases List.mem_cons.1 hp with rfl|hp
  ·exact qpj _
  ·exact(List.pairwise_cons.1 h).1 p hp
theorem qyW{S R:List T}(hS:Srt S)(hR:Srt R)(h:∀s r,S.getLast?=some s->R.head?=some r->tle s r):∀p,p∈S->∀q,q∈R->tle p q:=by
 intro p hp q hq;obtain⟨s,h1,h2⟩:=qCp hS hp;obtain⟨r,h3,h4⟩:=qCs hR hq;exact qey (qey h2 (h s r h1 h3)) h4
theorem qtH{S1 S2:List T}{x:T}(h:Srt (S1++S2))(h1:∀s,S1.getLast?=some s->tle s x)(h2:∀s,S2.head?=some s->tle x s):Srt (S1++x::S2):=by
 obtain⟨p1,p2,p3⟩:=List.pairwise_append.1 h;have c1:=qyW (S:=S1) (R:=[x]) p1 (List.pairwise_singleton _ _) (fun s r hs hr=>by simp at hr;subst hr;exact h1 s hs);have c2:=qyW (S:=[x]) (R:=S2) (List.pairwise_singleton _ _) p2 (fun s r hs hr=>by simp at hs;subst hs;exact h2 r hr);refine List.pairwise_append.2 ⟨p1,List.pairwise_cons.2 ⟨fun q hq=>c2 x (by simp) q hq,p2⟩,fun p hp q hq=> ?_⟩;rcases List.mem_cons.1 hq with rfl|hq
 ·exact c1 p hp _ (by simp)
 ·exact p3 p hp q hq
theorem qpk(A X R:List T)(q:Nat)(hq:q<X.length):tAt (A++X++R) (A.length+q)=tAt X q:=by
 unfold tAt;rw[List.append_assoc,List.getElem?_append_right (by omega),Nat.add_sub_cancel_left,List.getElem?_append_left hq]
theorem qfQ{X:List T}{t:Nat}{s:T}(ht:t<=X.length)(h:(X.take t).getLast?=some s):0<t/\s=tAt X (t-1):=by
 rw[List.getLast?_eq_getElem?,List.length_take,Nat.min_eq_left ht]at h;have hlt:=(List.getElem?_eq_some_iff.1 h).1;simp at hlt;rw[List.getElem?_take]at h;split at h
 ·exact⟨by omega,by simp[tAt,h]⟩
 ·simp at h
theorem qgD{X:List T}{t:Nat}{s:T}(h:(X.drop t).head?=some s):t<X.length/\s=tAt X t:=by
 rw[List.head?_drop]at h;exact⟨(List.getElem?_eq_some_iff.1 h).1,by simp[tAt,h]⟩
theorem qu7(A Y Z:List T)(x:T)(a m b N:Nat)(ha:a=A.length)(hm:m=a+1)(hb:b=m+Y.length)(hN:N=(A++x::(Y++Z)).length)(hn:N<=1099511627776)(hin:∀t,t∈A++x::(Y++Z)->t.inner<=1099511627776)(hY:Srt Y):
 ∃W:List T,W.Perm (x::Y)/\Srt W/\qad XV 173 [.tsl true 0 3 N,.d (.int .i64 a),.d (.int .i64 m),.d (.int .i64 b),.fn 6 []] [some (kc (A++x::(Y++Z)))]=some (.d (.tup []),[some (kc (A++W++Z))]):=by
 have hNl:A.length+1+Y.length+Z.length=N:=by rw[hN];simp;omega
 have hlo:=qzc (A++x::(Y++Z)) a (by rw[<-hN];exact hn) (by rw[<-hN];omega) hin Y.length m b (by omega) (by omega) (by rw[<-hN];omega);have hxa:tAt (A++x::(Y++Z)) a=x:=qp4 _ _ _ _ ha;have hat:∀q,q<Y.length->tAt (A++x::(Y++Z)) (m+q)=tAt Y q:=fun q hq=>by
  have:=qpk (A++[x]) Y Z q hq;simp only[List.length_append,List.length_cons,List.length_nil,List.append_assoc,List.cons_append,List.nil_append]at this;rw[hm,ha];exact this
 obtain⟨s1,s2,s3,s4⟩:=qjW (fun h=>decide (T.cmp (tAt (A++x::(Y++Z)) h) (tAt (A++x::(Y++Z)) a)<0)) Y.length m b (by omega) (by omega);generalize bs (fun h=>decide (T.cmp (tAt (A++x::(Y++Z)) h) (tAt (A++x::(Y++Z)) a)<0)) Y.length m b=r at hlo s1 s2 s3 s4;rw[hxa]at s3 s4;obtain⟨t,rfl⟩:∃t,r=m+t:=⟨r-m,by omega⟩;have htl:t<=Y.length:=by omega
 have hY12:Y.take t++Y.drop t=Y:=List.take_append_drop _ _;have hl1:(Y.take t).length=t:=by simp;omega
 have hri:=qq4 A (Y.take t) (Y.drop t++Z) x N a ha.symm (by rw[hN,<-List.append_assoc (Y.take t),hY12]) hn;rw[<-List.append_assoc (Y.take t),hY12,hl1,show a+1+t=m+t by omega]at hri;refine⟨Y.take t++x::Y.drop t,?_,qtH (by rw[hY12];exact hY) (fun s hs=> ?_) (fun s hs=> ?_),?_⟩
 ·refine List.perm_middle.trans ?_
  rw[hY12]
 ·obtain⟨h1,h2⟩:=qfQ htl hs
  rcases s3 with s3|s3
  ·omega
  ·rw[show m+t-1=m+(t-1)by omega,hat _ (by omega)]at s3
   rw[h2];exact qdJ (by simpa using s3)
 ·obtain⟨h1,h2⟩:=qgD hs
  rcases s4 with s4|s4
  ·omega
  ·rw[hat _ h1]at s4
   rw[h2];exact qb9 (by simpa using s4)
 ·have hfin:A++(Y.take t++x::Y.drop t)++Z=A++Y.take t++x::(Y.drop t++Z):=by simp only[List.append_assoc,List.cons_append]
  rw[hfin];rw[qaA XV _ _ _ qwZ rfl qiC rfl];rw[<-hN]at hlo;have w1:IntKind.i64.wrap ((m:Int)-a)=1:=by rw[wrap_i64 (by omega) (by omega)];omega
  generalize kc (A++Y.take t++x::(Y.drop t++Z))=c2 at hri⊢
  generalize kc (A++x::(Y++Z))=c1 at hlo hri⊢
  generalize ((m+t:Nat):Int)=gv1 at*
  generalize ((a+t:Nat):Int)=gv2 at*
  simp[qwZ,qmL,qzM,qzL,w1];rw[hlo];simp[qzK];rw[hri];simp
end Go.Proofs.Ytfiakfiocdfpbaa.VS
