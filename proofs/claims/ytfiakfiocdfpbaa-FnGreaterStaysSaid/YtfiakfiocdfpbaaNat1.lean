/- Functions of the library that are told by what they compute. -/
import Derived.Test.YtfiakfiocdfpbaaEngD
import Derived.Test.YtfiakfiocdfpbaaNat0
import Derived.Below
set_option linter.unusedSimpArgs false
set_option linter.unusedVariables false
namespace Go.Proofs.Ytfiakfiocdfpbaa.VS
open Go.RowKit (Below)
variable {P:Program} {fid:Nat->FuncId}
theorem cell_below{w w':World}{B:Nat}(h:Below B w w')(ad:Addr)(hb:ad.block<B):w'.cell? ad=w.cell? ad:=by
 unfold World.cell?;rw[h.block _ hb]
theorem qEE{p:Id}{g:Gh}{w w':World}{xs:List DV}(hc:Core fid g w [] Ids.none)(hb:Below w.heap.size w w')(hfresh:g.row (0::p)=none){blk cap sz:Nat}{arr:Array Value}{e:TypeId}(hblk:w.heap.size<=blk)
 (heap:w'.heap[blk]?=some (.cells arr e (0,0))) (harr:cap*sz<=arr.size) (hlen:xs.length<=cap) (hcm:cap<=maxLen) (hne:xs≠[]) (hel:∀(i:Nat) (x:DV),xs[i]?=some x->x.cells.length=sz/\∀v:DV,v∈x.cells->v.isCell=true)
 (hv:∀(i:Nat) (x:DV) (j:Nat) (v:DV),xs[i]?=some x->x.cells[j]?=some v->∃u,arr[i*sz+j]?=some u/\VR g w' v u):
 ∃g',Post fid (from_ p 0) g w Ids.none ⟨.d (.sl (.own (0::p) sz) xs),Ids.add (0::p) Ids.none,[]⟩ (.slice (some ⟨blk,0,none⟩) xs.length cap) g' w':=by
 have hK0:g.K blk=0:=hc.K0 blk hblk;have hE1:ExtV g w' {K:=fun b=>if b=blk then xs.length*sz else g.K b,row:=fun a=>if a=0::p then some (blk,xs.length,cap,sz)else g.row a,bx:=g.bx} w':=
  ⟨fun b=>by simp only;split
             ·rename_i h;rw[h,hK0];exact Nat.zero_le _
             ·exact Nat.le_refl _,fun _ _=>rfl,fun a x h=>by simp only;rw[if_neg (fun he=>by rw[he,hfresh]at h;simp at h)];exact h⟩
 have hE0:ExtV g w g w':=⟨fun _=>Nat.le_refl _,fun ad h=>cell_below hb ad (by
  rcases Nat.lt_or_ge ad.block w.heap.size with h1|h1
  ·exact h1
  ·rw[hc.K0 _ h1]at h;omega),fun _ _ h=>h⟩
 refine⟨{K:=fun b=>if b=blk then xs.length*sz else g.K b,row:=fun a=>if a=0::p then some (blk,xs.length,cap,sz)else g.row a,bx:=g.bx},?_,⟨fun i b h=>by obtain⟨cs,arr,e,h1,_⟩:=hc.box i b h;simp at h1,hc.inj,fun a h=> ?_,fun a a' b x x' h h' _ _=> ?_,fun b h=> ?_⟩,⟨fun _ _ h=>h,fun _ _ h=> .inl h⟩,
  ⟨hb.os,hb.tape,hb.output,hb.size,hE0.trans hE1,fun b hlt _ _=>⟨hb.block b hlt,by simp only;rw[if_neg (by omega)]⟩,fun a h=> ?_,fun a b h h'=> ?_,fun b c e z h=>⟨c,by rw[hb.block b (Array.getElem?_eq_some_iff.1 h).1];exact h,rfl⟩⟩⟩
 ·refine .d _ _ (.row _ xs ⟨blk,0,none⟩ cap sz (fun k=>arr.getD k undef) (by simp) hlen hcm (fun k hk=> ?_) (.inr (by simp)) hel (fun i x j v hi hj=> ?_) (fun a s h=> ?_))
  ·have hadd:(⟨blk,0,none⟩:Addr).add k=⟨blk,k,none⟩:=by unfold Addr.add;split<;>simp_all
   rw[hadd];have:k<arr.size:=Nat.lt_of_lt_of_le hk (Nat.le_trans (Nat.mul_le_mul_right _ hlen) harr);simp[World.cell?,heap,Array.getD_eq_getD_getElem?,this]
  ·obtain⟨u,h1,h2⟩:=hv i x j v hi hj
   simp only[Array.getD_eq_getD_getElem?,h1,Option.getD_some];exact h2.mono hE1
  ·simp only[Tag.own.injEq]at h
   obtain⟨rfl,rfl⟩:=h;exact⟨rfl,rfl,rfl,by simp,fun h=>absurd h hne⟩
 ·simp only[Ids.add,Ids.none,Bool.or_false,decide_eq_true_eq]at h
  subst h;exact⟨blk,xs.length,cap,sz,arr,e,by simp,heap,harr,by simp,hlen,fun i h=>by obtain⟨cs,arr,e,h1,_⟩:=hc.box i blk h;simp at h1⟩
 ·simp only[Ids.add,Ids.none,Bool.or_false,decide_eq_true_eq]at h h'
  rw[h,h']
 ·simp only
  rw[if_neg (fun he=>by
   have:=(Array.getElem?_eq_some_iff.1 heap).1;omega)]
  exact hc.K0 b (Nat.le_trans hb.size h)
 ·simp only at h
  split at h
  ·rename_i he;exact⟨[],0,Nat.le_refl _,by simpa using he⟩
  ·exact absurd rfl h
 ·simp only[Ids.add,Ids.none,Bool.or_false,decide_eq_true_eq]at h
  subst h;simp[Gh.blk]at h';exact .inl (by omega)
def qns(P:Program)(f:FuncId):Prop:=
 ∀(base:Option Addr) (n c:Nat) (xs:List Int) (v:Int) (w:World),xs.length=n->n<=c->(n+1)*8<=140737488355328->c<=maxLen->(base=none->n=0/\c=0)->
  (∀ad,base=some ad->0<n->ad.spot=none/\∀(j:Nat) (x:Int),xs[j]?=some x->w.cell? ⟨ad.block,ad.off+j,none⟩=some (.int .i64 x))->
  Calls P f #[.slice base n c,.int .i64 v] w fun e w'=>∃blk cap arr ty,e= .returned (.slice (some ⟨blk,0,none⟩) (qaQ xs v).length cap)/\w.heap.size<=blk/\w'.heap[blk]?=some (.cells arr ty (0,0))/\
   cap<=arr.size/\(qaQ xs v).length<=cap/\cap<=maxLen/\(∀(j:Nat) (x:Int),(qaQ xs v)[j]?=some x->arr[j]?=some (.int .i64 x))/\Below w.heap.size w w'
theorem qAE{k:Nat}(hf:qCR P (fid k))(hj:qns P (fid k)):qxx P fid k (qxz qed):=by
 refine⟨hf,fun p args v A hd h g w us hus hrel hcore hfresh=> ?_⟩;unfold qxz at h;obtain⟨ds,hds,h⟩:=Option.bind_eq_some_iff.1 h;obtain⟨v',hv,hvA⟩:=Option.map_eq_some_iff.1 h;clear h
 match ds,hds,hv with
 | [.sl t xs,.int .i64 m],hds,hv=>
  have hargs:=qbn hds;simp only[List.map_cons,List.map_nil]at hargs;subst hargs;obtain⟨u0,u1,rfl⟩:∃u0 u1,us= #[u0,u1]:=by
   obtain⟨l⟩:=us
   match l,hus with
   | [u0,u1],_=>exact⟨u0,u1,rfl⟩
  have r0:=qcT (hrel 0 _ u0 rfl rfl);have r1:=qbx (hrel 1 _ u1 rfl rfl);subst r1;unfold qed at hv;obtain⟨l,hl,hv⟩:=Option.bind_eq_some_iff.1 hv;split at hv
  case isFalse=>simp at hv
  rename_i hle;simp only[Option.some.injEq]at hv;subst hv;have hxs:=qlx hl;subst hxs;have hne:=qmS l m;have hown:qQk p (.sl (.own [] 0) ((qaQ l m).map (.int .i64)))=(.sl (.own (0::p) 1) ((qaQ l m).map (.int .i64)),Ids.add (0::p) Ids.none):=by
   cases hq:qaQ l m with
   |nil=>exact absurd hq hne
   |cons a r=>rfl
  rw[hown]at hvA;simp only[Prod.mk.injEq]at hvA;obtain⟨rfl,rfl⟩:=hvA;have main:∀(base:Option Addr) (n c:Nat),l.length=n->n<=c->c<=maxLen->(base=none->n=0/\c=0)->(∀ad,base=some ad->0<n->ad.spot=none/\∀(j:Nat) (x:Int),l[j]?=some x->w.cell? ⟨ad.block,ad.off+j,none⟩=some (.int .i64 x))->
   Calls P (fid k) #[.slice base n c,.int .i64 m] w fun e w'=>∃u g',e= .returned u/\Post fid (from_ p 0) g w Ids.none ⟨.d (.sl (.own (0::p) 1) ((qaQ l m).map (.int .i64))),Ids.add (0::p) Ids.none,[]⟩ u g' w':=by
   intro base n c hn hc hcm hnil hcell;refine(hj base n c l m w hn hc (by omega) hcm hnil hcell).mono ?_
   rintro e w' ⟨blk,cap,arr,ty,rfl,h1,h2,h3,h4,h5,h6,h7⟩
   obtain⟨g',hp⟩:=qEE (fid:=fid) (p:=p) (xs:=(qaQ l m).map (.int .i64)) (sz:=1) (cap:=cap) hcore h7 (hfresh [] 0 (Nat.le_refl _)) h1 h2 (by omega) (by simpa using h4) h5 (by simpa using hne) (fun i x hx=>by
    simp only[List.getElem?_map,Option.map_eq_some_iff]at hx;obtain⟨y,_,rfl⟩:=hx;exact⟨rfl,fun v hv=>by simp[DV.cells]at hv;subst hv;rfl⟩) (fun i x j v hi hj'=>by
    simp only[List.getElem?_map,Option.map_eq_some_iff]at hi;obtain⟨y,hy,rfl⟩:=hi;cases j with
    |succ j=>simp[DV.cells]at hj'
    |zero=>
     simp[DV.cells]at hj';subst hj'
     exact⟨_,by simpa using h6 i y hy,.int _ _⟩)
   rw[List.length_map]at hp;exact⟨_,g',rfl,hp⟩
  generalize hxx:l.map (DV.int .i64)=xx at r0;cases r0 with
  |nil=>
   have hl0:l.length=0:=by cases l with|nil=>rfl|cons _ _=>simp at hxx
   exact main none 0 0 hl0 (Nat.le_refl _) (Nat.zero_le _) (fun _=>⟨rfl,rfl⟩) (fun ad h=>by simp at h)
  |row _ _ ad c s U ht hlen hm hcell hK hcs hvs hown2=>
   subst hxx;rw[List.length_map]at hlen⊢
   refine main (some ad) l.length c rfl hlen hm (fun h=>by simp at h) (fun ad' he hpos=> ?_);simp only[Option.some.injEq]at he;subst he;have hs:s=1:=by
    have hx0:(l.map (DV.int .i64))[0]?=some (.int .i64 l[0]):=by simp[hpos]
    have:=(hcs 0 _ hx0).1;simpa[DV.cells]using this.symm
   subst hs;have hsp:ad.spot=none:=by
    have:=hcell 0 (by simpa using hpos);unfold World.cell? at this;simp only[Addr.add,if_true]at this;split at this
    ·split at this
     ·simp at this
     ·rename_i h1;simpa using h1
    ·simp at this
   refine⟨hsp,fun j x hjx=> ?_⟩;have hjl:j<l.length:=(List.getElem?_eq_some_iff.1 hjx).1;have h1:=hcell j (by simpa using hjl);have h2:=hvs j (.int .i64 x) 0 (.int .i64 x) (by simp[hjx]) rfl;simp only[Nat.mul_one,Nat.add_zero]at h2;generalize U j=y at h1 h2;cases h2;have:ad.add j=⟨ad.block,ad.off+j,none⟩:=by
    obtain⟨bk,o,sp⟩:=ad;simp only at hsp;subst hsp;unfold Addr.add;split<;>simp_all
   rw[<-this];exact h1
end Go.Proofs.Ytfiakfiocdfpbaa.VS
