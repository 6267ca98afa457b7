/- Functions of the library that are told by what they compute. -/
import Derived.Test.YtpcoohnjllclnaaGreatEngD
import Derived.Test.YtpcoohnjllclnaaGreatNat0
import Derived.Below
set_option linter.unusedSimpArgs false
set_option linter.unusedVariables false
namespace Go.Proofs.YtpcoohnjllclnaaGreat.VS
variable{w w':World}{sz k:Nat}{xs:al}{g:Gh}
section
open Go.RowKit (Below)
variable {P:Program} {fid:Nat->FuncId}
theorem cell_below{B:Nat}(h:Below B w w')(ad:Addr)(a:ad.block<B):w'.cell? ad=w.cell? ad:=by unfold World.cell?;rw[h.block _ a]
theorem qKg{p:Id}(hc:Core fid g w [] Ids.none)(q:Below w.heap.size w w')(n:g.row (0::p)=none){blk cap:Nat}{arr:cA}{e:TypeId}(y:w.heap.size<=blk)
 (heap:w'.heap[blk]?=some (.cells arr e (0,0))) (o:cap*sz<=arr.size) (l:xs.length<=cap) (G:cap<=maxLen) (H:xs≠[]) (F:∀(i:Nat) (x:DV),xs[i]?=some x->x.cells.length=sz/\∀v:DV,v∈x.cells->v.isCell=true)
 (O:∀(i:Nat) (x:DV) (j:Nat) (v:DV),xs[i]?=some x->x.cells[j]?=some v->∃u,arr[i*sz+j]?=some u/\VR g w' v u):
 ∃g',Post fid (from_ p 0) g w Ids.none ⟨.d (.sl (.own (0::p) sz) xs),Ids.add (0::p) Ids.none,[]⟩ (.slice (some ⟨blk,0,none⟩) xs.length cap) g' w':=by
 have D:g.K blk=0:=hc.K0 blk y;have t:ExtV g w' {K:=fun b=>if b=blk then xs.length*sz else g.K b,row:=fun a=>if a=0::p then some (blk,xs.length,cap,sz)else g.row a,bx:=g.bx} w':=
  ⟨fun b=>by simp only;split
             ·rename_i h;rw[h,D];exact db _
             ·exact bf _,fun _ _=>rfl,fun a x h=>by simp only;rw[au (fun C=>by rw[C,n]at h;simp at h)];exact h⟩
 have J:ExtV g w g w':=⟨fun _=>bf _,fun ad h=>cell_below q ad (by
  rcases eN ad.block w.heap.size with m|m
  ·exact m
  ·rw[hc.K0 _ m]at h;omega),fun _ _ h=>h⟩
 refine⟨{K:=fun b=>if b=blk then xs.length*sz else g.K b,row:=fun a=>if a=0::p then some (blk,xs.length,cap,sz)else g.row a,bx:=g.bx},?_,⟨fun i b h=>by obtain⟨cs,arr,e,m,_⟩:=hc.box i b h;simp at m,hc.inj,fun a h=> ?_,fun a a' b x x' h h' _ _=> ?_,fun b h=> ?_⟩,⟨fun _ _ h=>h,fun _ _ h=> .inl h⟩,
  ⟨q.os,q.tape,q.output,q.size,J.trans t,fun b I _ _=>⟨q.block b I,by simp only;rw[au (by omega)]⟩,fun a h=> ?_,fun a b h h'=> ?_,fun b c e z h=>⟨c,by rw[q.block b (d9.1 h).1];exact h,rfl⟩⟩⟩
 ·refine .d _ _ (.row _ xs ⟨blk,0,none⟩ cap sz (fun k=>arr.getD k undef) (by simp) l G (fun k N=> ?_) (.inr (by simp)) F (fun i x j v hi M=> ?_) (fun a s h=> ?_))
  ·have r:(⟨blk,0,none⟩:Addr).add k=⟨blk,k,none⟩:=by unfold Addr.add;split<;>simp_all
   rw[r];have:k<arr.size:=nt N (cT (fP _ l) o);simp[World.cell?,heap,bZ,this]
  ·obtain⟨u,m,Q⟩:=O i x j v hi M
   simp only[bZ,m,fy];exact Q.mono t
  ·simp only[Tag.own.injEq]at h
   obtain⟨rfl,rfl⟩:=h;exact⟨rfl,rfl,rfl,by simp,fun h=>absurd h H⟩
 ·simp only[Ids.add,Ids.none,pO,bu]at h
  subst h;exact⟨blk,xs.length,cap,sz,arr,e,by simp,heap,o,by simp,l,fun i h=>by obtain⟨cs,arr,e,m,_⟩:=hc.box i blk h;simp at m⟩
 ·simp only[Ids.add,Ids.none,pO,bu]at h h'
  rw[h,h']
 ·simp only
  rw[au (fun C=>by have:=(d9.1 heap).1;omega)]
  exact hc.K0 b (cT q.size h)
 ·simp only at h
  split at h
  ·rename_i C;exact⟨[],0,bf _,by simpa using C⟩
  ·exact absurd rfl h
 ·simp only[Ids.add,Ids.none,pO,bu]at h
  subst h;simp[Gh.blk]at h';exact .inl (by omega)
def JB(P:Program)(f:FuncId):Prop:=
 ∀(base:ib) (n c:Nat) (xs:aX) (v:Int) (w:World),xs.length=n->n<=c->(n+1)*8<=140737488355328->c<=maxLen->(base=none->n=0/\c=0)->
  (∀ad,base=some ad->0<n->ad.spot=none/\∀(j:Nat) (x:Int),xs[j]?=some x->w.cell? ⟨ad.block,ad.off+j,none⟩=some (.int .i64 x))->
  Calls P f #[.slice base n c,.int .i64 v] w fun e w'=>∃blk cap arr ty,e= .returned (.slice (some ⟨blk,0,none⟩) (c_ xs v).length cap)/\w.heap.size<=blk/\w'.heap[blk]?=some (.cells arr ty (0,0))/\
   cap<=arr.size/\(c_ xs v).length<=cap/\cap<=maxLen/\(∀(j:Nat) (x:Int),(c_ xs v)[j]?=some x->arr[j]?=some (.int .i64 x))/\Below w.heap.size w w'
theorem OE(hf:my P (fid k))(hj:JB P (fid k)):iT P fid k (dN kq):=by
 refine⟨hf,fun p args v A hd h g w us a2 G hcore C=> ?_⟩;unfold dN at h;obtain⟨ds,K,h⟩:=az.1 h;obtain⟨v',q,I⟩:=ay.1 h;clear h
 match ds,K,q with
 | [.sl t xs,.int .i64 m],K,q=>
  have z:=gu K;simp only[bA,cM]at z;subst z;obtain⟨S,V,rfl⟩:∃S V,us= #[S,V]:=by
   obtain⟨l⟩:=us
   match l,a2 with
   | [S,V],_=>exact⟨S,V,rfl⟩
  have r0:=dr (G 0 _ S rfl rfl);have r1:=eO (G 1 _ V rfl rfl);subst r1;unfold kq at q;obtain⟨l,hl,q⟩:=az.1 q;split at q
  case isFalse=>simp at q
  rename_i b2;simp only[aL]at q;subst q;have a1:=FL hl;subst a1;have W:=Np l m;have N:qL p (.sl (.own [] 0) ((c_ l m).map (.int .i64)))=(.sl (.own (0::p) 1) ((c_ l m).map (.int .i64)),Ids.add (0::p) Ids.none):=by
   cases hq:c_ l m with
   |nil=>exact absurd hq W
   |cons a r=>rfl
  rw[N]at I;simp only[dJ]at I;obtain⟨rfl,rfl⟩:=I;have main:∀(base:ib) (n c:Nat),l.length=n->n<=c->c<=maxLen->(base=none->n=0/\c=0)->(∀ad,base=some ad->0<n->ad.spot=none/\∀(j:Nat) (x:Int),l[j]?=some x->w.cell? ⟨ad.block,ad.off+j,none⟩=some (.int .i64 x))->
   Calls P (fid k) #[.slice base n c,.int .i64 m] w fun e w'=>∃u g',e= .returned u/\Post fid (from_ p 0) g w Ids.none ⟨.d (.sl (.own (0::p) 1) ((c_ l m).map (.int .i64))),Ids.add (0::p) Ids.none,[]⟩ u g' w':=by
   intro base n c hn hc x1 Q b;refine(hj base n c l m w hn hc (by omega) x1 Q b).mono ?_
   rintro e w' ⟨blk,cap,arr,ty,rfl,M,X,h3,h4,h5,h6,h7⟩
   obtain⟨g',hp⟩:=qKg (fid:=fid) (p:=p) (xs:=(c_ l m).map (.int .i64)) (sz:=1) (cap:=cap) hcore h7 (C [] 0 (bf _)) M X (by omega) (by simpa using h4) h5 (by simpa using W) (fun i x hx=>by
    simp only[c7,ay]at hx;obtain⟨y,_,rfl⟩:=hx;exact⟨rfl,fun v q=>by simp[DV.cells]at q;subst q;rfl⟩) (fun i x j v hi H=>by
    simp only[c7,ay]at hi;obtain⟨y,hy,rfl⟩:=hi;cases j with
    |succ j=>simp[DV.cells]at H
    |zero=>
     simp[DV.cells]at H;subst H
     exact⟨_,by simpa using h6 i y hy,.int _ _⟩)
   rw[eo]at hp;exact⟨_,g',rfl,hp⟩
  generalize R:l.map (DV.int .i64)=xx at r0;cases r0 with
  |nil=>
   have Z:l.length=0:=by cases l with|nil=>rfl|cons _ _=>simp at R
   exact main none 0 0 Z (bf _) (db _) (fun _=>⟨rfl,rfl⟩) (fun ad h=>by simp at h)
  |row _ _ ad c s U ht F hm b hK Y x3 x2=>
   subst R;rw[eo]at F⊢
   refine main (some ad) l.length c rfl F hm (fun h=>by simp at h) (fun c2 he D=> ?_);simp only[aL]at he;subst he;have hs:s=1:=by
    have a3:(l.map (DV.int .i64))[0]?=some (.int .i64 l[0]):=by simp[D]
    have:=(Y 0 _ a3).1;simpa[DV.cells]using this.symm
   subst hs;have J:ad.spot=none:=by
    have:=b 0 (by simpa using D);unfold World.cell? at this;simp only[Addr.add,if_true]at this;split at this
    ·split at this
     ·simp at this
     ·rename_i M;simpa using M
    ·simp at this
   refine⟨J,fun j x O=> ?_⟩;have b1:j<l.length:=(aU.1 O).1;have M:=b j (by simpa using b1);have X:=x3 j (.int .i64 x) 0 (.int .i64 x) (by simp[O]) rfl;simp only[Nat.mul_one,qk]at X;generalize U j=y at M X;cases X;have:ad.add j=⟨ad.block,ad.off+j,none⟩:=by obtain⟨bk,o,sp⟩:=ad;simp only at J;subst J;unfold Addr.add;split<;>simp_all
   rw[<-this];exact M
end
variable{u:Value}{cs:bW}
section
open Go.RowKit (Below)
variable {P:Program} {fid:Nat->FuncId}
theorem rl(x:DV):x.sh.cells=x.cells.map DV.sh:=by cases x<;>simp[DV.sh,DV.cells,kV]
theorem D8(x:DV):x.sh.isCell=x.isCell:=by cases x<;>simp[DV.sh,DV.isCell]
theorem VR.sh{v:DV}(h:VR g w v u):VR g w v.sh u:=by
 induction h with
 |int k n=>simp only[DV.sh];exact .int k n
 |bool b=>simp only[DV.sh];exact .bool b
 |str s=>simp only[DV.sh];exact .str s
 |agg cs us F H J m=>
  simp only[DV.sh,kV];refine .agg _ _ (by simpa using F) (fun v d=> ?_) (fun j v u d D=> ?_)
  ·obtain⟨x,e,rfl⟩:=cw.1 d
   rw[D8];exact H x e
  ·rw[c7,ay]at d
   obtain⟨x,e,rfl⟩:=d;exact m j x u e D
 |tup cs us F J m=>simp only[DV.sh,kV];refine .tup _ _ (by simpa using F) (fun j v u d D=> ?_);rw[c7,ay]at d;obtain⟨x,e,rfl⟩:=d;exact m j x u e D
 |nil=>simp only[DV.sh,DV.shs,if_true];exact .nil
 |row t xs ad c s U K o Q l N q I G m=>
  simp only[DV.sh,kV,au K];have p:(xs.map DV.sh).length=xs.length:=eo _;have:=VR.row (g:=g) (w:=w) .sub (xs.map DV.sh) ad c s U (by simp) (by rw[p];exact o) Q (by rw[p];exact l) (by rw[p];exact N) (fun i x e=>by
   rw[c7,ay]at e;obtain⟨y,C,rfl⟩:=e;obtain⟨M,O⟩:=q i y C;rw[rl];refine⟨by simpa using M,fun v d=> ?_⟩;obtain⟨z,r,rfl⟩:=cw.1 d;rw[D8];exact O z r) (fun i x j v e d=>by
   rw[c7,ay]at e;obtain⟨y,C,rfl⟩:=e;rw[rl,c7,ay]at d;obtain⟨z,r,rfl⟩:=d;exact m i y j z C r) (fun a sz h=>by simp at h)
  rwa[p]at this
inductive Cells(g:Gh)(w:World)(s:Nat):al->bW->Prop
 |nil:Cells g w s [] []
 |cons (x:DV) (us:bW) (xs:al) (cs:bW):x.cells.length=s->us.length=s->(∀v:DV,v∈x.cells->v.isCell=true)->(∀(j:Nat) (v:DV) (u:Value),x.cells[j]?=some v->us[j]?=some u->VR g w v u)->Cells g w s xs cs->Cells g w s (x::xs) (us++cs)
section
variable {g:Gh} {w:World} {s:Nat}
theorem Cells.len(h:Cells g w s xs cs):cs.length=xs.length*s:=by
 induction h with
 |nil=>simp
 |cons x us xs cs d a c i e b=>simp only[ek,de,a,b,dF];omega
theorem Cells.append{a:al}{ds:bW}(h:Cells g w s xs cs)(h':Cells g w s a ds):Cells g w s (xs++a) (cs++ds):=by
 induction h with
 |nil=>exact h'
 |cons x us xs cs c b e d j i=>rw[cr];exact .cons x us _ _ c b e d i
theorem Cells.take(h:Cells g w s xs cs):∀k:Nat,Cells g w s (xs.take k) (cs.take (k*s)):=by
 induction h with
 |nil=>intro k;simpa using Cells.nil
 |cons x us xs cs c a b d j i=>
  intro k;cases k with
  |zero=>simpa using Cells.nil
  |succ k=>
   have e:(k+1)*s=us.length+k*s:=by rw[a,dF];omega
   rw[e,List.take_length_add_append,se];exact .cons x us _ _ c a b d (i k)
theorem Cells.drop(h:Cells g w s xs cs):∀k:Nat,Cells g w s (xs.drop k) (cs.drop (k*s)):=by
 induction h with
 |nil=>intro k;simpa using Cells.nil
 |cons x us xs cs c a b i d j=>
  intro k;cases k with
  |zero=>simpa using Cells.cons x us _ _ c a b i d
  |succ k=>
   have e:(k+1)*s=us.length+k*s:=by rw[a,dF];omega
   rw[e,List.drop_length_add_append,List.drop_succ_cons];exact j k
theorem Cells.sh(h:Cells g w s xs cs):Cells g w s (xs.map DV.sh) cs:=by
 induction h with
 |nil=>exact .nil
 |cons x us xs cs i c d l n m=>
  refine .cons _ us _ _ (by rw[rl];simpa using i) c (fun v a=> ?_) (fun j v u a e=> ?_) m
  ·rw[rl]at a
   obtain⟨z,b,rfl⟩:=cw.1 a;rw[D8];exact d z b
  ·rw[rl,c7,ay]at a
   obtain⟨z,b,rfl⟩:=a;exact(l j z u b e).sh
theorem Cells.one(h:Cells g w s xs cs):∀u,u∈cs->u.oneCell'=true:=by
 induction h with
 |nil=>intro u a;simp at a
 |cons x us xs cs m i c d n e=>
  intro u a;rcases bC.1 a with h|h
  ·obtain⟨j,l,rfl⟩:=lU h
   have b:x.cells[j]?=some (x.cells[j]'(by omega)):=by simp
   exact(lD (d j _ _ b (by simp)) (c _ (cg b))).1
  ·exact e u h
theorem Cells.get(h:Cells g w s xs cs):∀(i:Nat) (x:DV),xs[i]?=some x->(x.cells.length=s/\∀v:DV,v∈x.cells->v.isCell=true)/\∀(j:Nat) (v:DV),x.cells[j]?=some v->∃u,cs[i*s+j]?=some u/\VR g w v u:=by
 induction h with
 |nil=>intro i x p;simp at p
 |cons x us xs cs l c n m z r=>
  intro i y b;cases i with
  |zero=>simp only[eG,aL]at b;subst b;refine⟨⟨l,n⟩,fun j v a=> ?_⟩;have t:=(aU.1 a).1;refine⟨us[j]'(by omega),by rw[td,fR,cf (by omega)];simp,m j v _ a (by simp)⟩
  |succ i=>rw[mP]at b;obtain⟨q,e⟩:=r i y b;refine⟨q,fun j v a=> ?_⟩;obtain⟨u,o,d⟩:=e j v a;refine⟨u,?_,d⟩;rw[cF (by rw[c,dF];omega),c,show(i+1)*s+j-s=i*s+j by rw[dF];omega];exact o
def n_(U:Nat->Value)(s:Nat):Nat->al->bW
 |_,[]=>[]
 |i,_::xs=>(List.range s).map (fun j=>U (i*s+j))++n_ U s (i+1) xs
theorem NN(U:Nat->Value)(s:Nat):∀(xs:al) (i k:Nat),(n_ U s i xs)[k]?=if k<xs.length*s then some (U (i*s+k))else none
 | [],i,k=>by simp[n_]
 |x::xs,i,k=>by
  unfold n_
  by_cases h:k<s
  ·rw[cf (by simpa using h),aw (by rw[de,dF];omega)]
   simp[h]
  ·rw[cF (by simp;omega),NN U s xs (i+1)]
   simp only[eo,FO,de,dF]
   by_cases a:k-s<xs.length*s
   ·rw[aw a,aw (by omega)];congr 2;omega
   ·rw[au a,au (by omega)]
theorem Ke(U:Nat->Value)(s:Nat):∀(xs:al) (i:Nat),(∀(j:Nat) (x:DV),xs[j]?=some x->x.cells.length=s/\∀v:DV,v∈x.cells->v.isCell=true)->
 (∀(k:Nat) (x:DV) (j:Nat) (v:DV),xs[k]?=some x->x.cells[j]?=some v->VR g w v (U ((i+k)*s+j)))->Cells g w s xs (n_ U s i xs)
 | [],i,_,_=> .nil
 |x::xs,i,b,d=>by
  refine .cons x _ xs _ (b 0 x rfl).1 (by simp) (b 0 x rfl).2 (fun j v u c h=> ?_) (Ke U s xs (i+1) (fun j x a=>b (j+1) x a) (fun k x j v a c=> ?_))
  ·rw[c7,ay]at h
   obtain⟨y,l,rfl⟩:=h;obtain⟨m,e⟩:=aU.1 l;simp at e;subst e;exact d 0 x j v rfl c
  ·have:=d (k+1) x j v a c
   rwa[show i+(k+1)=i+1+k by omega]at this
end
def pH(w w':World)(e:Ending)(sz n:Nat)(cs:bW):Prop:=∃blk cap arr ty,e= .returned (.slice (some ⟨blk,0,none⟩) n cap)/\w.heap.size<=blk/\w'.heap[blk]?=some (.cells arr ty (0,0))/\cap*sz<=arr.size/\n<=cap/\cap<=maxLen/\(∀(j:Nat) (u:Value),cs[j]?=some u->arr[j]?=some u)/\Below w.heap.size w w'
theorem FZ{p:Id}{e:Ending}{n:Nat}(hc:Core fid g w [] Ids.none)(O:xs.length=n)(Q:pH w w' e sz n cs)(h:Cells g w sz xs cs):
 ∃u g',e= .returned u/\Post fid (from_ p 0) g w Ids.none ⟨.d (.sl .sub xs),Ids.none,[]⟩ u g' w':=by
 subst O;obtain⟨blk,cap,arr,e,rfl,D,heap,t,o,G,l,m⟩:=Q;have F:g.K blk=0:=hc.K0 blk D;have y:ExtV g w' {K:=fun b=>if b=blk then xs.length*sz else g.K b,row:=g.row,bx:=g.bx} w':=
  ⟨fun b=>by simp only;split
             ·rename_i h;rw[h,F];exact db _
             ·exact bf _,fun _ _=>rfl,fun a x h=>h⟩
 have C:ExtV g w g w':=⟨fun _=>bf _,fun ad h=>cell_below m ad (by
  rcases eN ad.block w.heap.size with q|q
  ·exact q
  ·rw[hc.K0 _ q]at h;omega),fun _ _ h=>h⟩
 refine⟨_,{K:=fun b=>if b=blk then xs.length*sz else g.K b,row:=g.row,bx:=g.bx},rfl,?_,⟨fun i b h=>by obtain⟨cs,arr,e,q,_⟩:=hc.box i b h;simp at q,hc.inj,fun a h=>by simp[Ids.none]at h,fun a a' b x x' h=>by simp[Ids.none]at h,fun b h=> ?_⟩,⟨fun _ _ h=>h,fun _ _ h=> .inl h⟩,
  ⟨m.os,m.tape,m.output,m.size,C.trans y,fun b H _ _=>⟨m.block b H,by simp only;rw[au (by omega)]⟩,fun a h=>absurd rfl h,fun a b h=>by simp[Ids.none]at h,fun b c e z h=>⟨c,by rw[m.block b (d9.1 h).1];exact h,rfl⟩⟩⟩
 ·refine .d _ _ (.row _ xs ⟨blk,0,none⟩ cap sz (fun k=>arr.getD k undef) (by simp) o G (fun k J=> ?_) (.inr (by simp)) (fun i x N=>(h.get i x N).1) (fun i x j v hi I=> ?_) (fun a s h=>by simp at h))
  ·have r:(⟨blk,0,none⟩:Addr).add k=⟨blk,k,none⟩:=by unfold Addr.add;split<;>simp_all
   rw[r];have:k<arr.size:=nt J (cT (fP _ o) t);simp[World.cell?,heap,bZ,this]
  ·obtain⟨u,q,M⟩:=(h.get i x hi).2 j v I
   simp only[bZ,l _ _ q,fy];exact M.mono (C.trans y)
 ·simp only
  rw[au (fun R=>by have:=(d9.1 heap).1;omega)]
  exact hc.K0 b (cT m.size h)
theorem vn{t:Tag}(hc:Core fid g w [] Ids.none)(h:VR g w (.sl t xs) u):∃(a:ib) (c:Nat),u= .slice a xs.length c/\xs.length<=c/\c<=maxLen/\(a=none->xs=[]/\c=0)/\
 ∀ad,a=some ad->∃s cs,Cells g w s xs cs/\(∀(j:Nat) (v:Value),cs[j]?=some v->w.cell? (ad.add j)=some v)/\(0<cs.length->ad.spot=none/\ad.block<w.heap.size):=by
 cases h with
 |nil=>exact⟨none,0,rfl,bf _,db _,fun _=>⟨rfl,rfl⟩,fun ad h=>by simp at h⟩
 |row _ _ ad c s U F i z b D m l n=>
  refine⟨some ad,c,rfl,i,z,fun h=>by simp at h,fun C h=> ?_⟩;simp only[aL]at h;subst h;have p:Cells g w s xs (n_ U s 0 xs):=Ke U s xs 0 m (fun k x j v y r=>by rw[fR];exact l k x j v y r);refine⟨s,n_ U s 0 xs,p,fun j v d=> ?_,fun o=> ?_⟩
  ·rw[NN]at d
   split at d
   ·simp only[td,fR,aL]at d
    subst d;exact b j (by assumption)
   ·simp at d
  ·rw[p.len]at o
   refine⟨?_,?_⟩
   ·have:=b 0 o
    unfold World.cell? at this;simp only[Addr.add,if_true]at this;split at this
    ·split at this
     ·simp at this
     ·rename_i e;simpa using e
    ·simp at this
   ·rcases eN ad.block w.heap.size with e|e
    ·exact e
    ·have:=hc.K0 ad.block e
     rcases D with q|q
     ·omega
     ·omega
theorem Cells.size{s s':Nat}(h:Cells g w s xs cs)(a:∀x,x∈xs->x.cells.length=s'):Cells g w s' xs cs:=by
 induction h with
 |nil=>exact .nil
 |cons x us xs cs l j b d m i=>have e:=a x fH;exact .cons x us xs cs e (by omega) b d (i fun y c=>a y (em _ c))
end
open Go.RowKit (Below)
variable {P:Program} {fid:Nat->FuncId}
def J8(P:Program)(f:FuncId):Prop:=
 ∀(ad:Addr) (n c i:Nat) (cs:bW) (w:World),ad.spot=none->cs.length=n*3->i<n->n<=maxLen->n*40<=140737488355328->(∀(j:Nat) (u:Value),cs[j]?=some u->w.cell? ⟨ad.block,ad.off+j,none⟩=some u)->(∀u,u∈cs->u.oneCell'=true)->
  Calls P f #[.slice (some ad) n c,.int .i64 i] w fun e w'=>pH w w' e 3 (n-1) (cs.take (i*3)++cs.drop ((i+1)*3))
abbrev gR:=Int×Value×Value×Value
def kR(x:gR):bW:=[.int .i64 x.1,x.2.1,x.2.2.1,x.2.2.2]
def ea(xs:List gR):bW:=xs.flatMap kR
structure BdsAt(w:World)(base:ib)(n c:Nat)(xs:List gR):Prop where
 len:xs.length=n
 cap:n<=c
 capm:c<=maxLen
 lim:(n+1)*48<=140737488355328
 nil:base=none->n=0/\c=0
 one:∀x,x∈xs->x.2.1.oneCell'=true/\x.2.2.1.oneCell'=true/\x.2.2.2.oneCell'=true
 cell:∀ad,base=some ad->0<n->ad.spot=none/\∀(j:Nat) (u:Value),(ea xs)[j]?=some u->w.cell? ⟨ad.block,ad.off+j,none⟩=some u
def gE(xs:List gR)(v:Int):Nat:=xs.findIdx fun x=>decide (x.1>v)
def k_(cs vs:bW)(i sz:Nat):bW:=cs.take (i*sz)++vs++cs.drop (i*sz)
def HK(P:Program)(f:FuncId):Prop:=
 ∀(base:ib) (n c:Nat) (xs:List gR) (v:Int) (t1 a b:Value) (w:World),BdsAt w base n c xs->t1.oneCell'=true->a.oneCell'=true->b.oneCell'=true->
  Calls P f #[.slice base n c,.int .i64 v,.agg #[t1,a,b]] w fun e w'=>pH w w' e 4 (n+1) (k_ (ea xs) [.int .i64 v,t1,a,b] (gE xs v) 4)
structure RowsG(w:World)(sz:Nat)(ad:Addr)(rows:List (Nat×bW)):Prop where
 spot:ad.spot=none
 row:∀(j:Nat) (r:Nat×bW),rows[j]?=some r->r.2.length=r.1*sz/\(∀u,u∈r.2->u.oneCell'=true)/\
  ((r.1=0/\w.cell? ⟨ad.block,ad.off+j,none⟩=some (.slice none 0 0))\/
   ∃(a:Addr) (c':Nat),w.cell? ⟨ad.block,ad.off+j,none⟩=some (.slice (some a) r.1 c')/\∀(i:Nat) (u:Value),r.2[i]?=some u->w.cell? (a.add i)=some u)
def gB(rows:List (Nat×bW)):Nat:=(rows.map (·.1)).sum
def mJ(rows:List (Nat×bW)):bW:=rows.flatMap (·.2)
def Km(P:Program)(f:FuncId)(sz a:Nat):Prop:=
 ∀(ad:Addr) (c:Nat) (rows:List (Nat×bW)) (w:World),RowsG w sz ad rows->rows.length<=c->c<=maxLen->0<gB rows->gB rows*a<=140737488355328->
  Calls P f #[.slice (some ad) rows.length c] w fun e w'=>pH w w' e sz (gB rows) (mJ rows)
theorem addN{ad:Addr}(h:ad.spot=none)(j:Nat):ad.add j=⟨ad.block,ad.off+j,none⟩:=by obtain⟨b,o,a⟩:=ad;simp only at h;subst h;unfold Addr.add;split<;>simp_all
variable{us:cA}
theorem qS4(h:us.size=2):∃b a,us= #[b,a]:=by
 obtain⟨l⟩:=us
 match l,h with
 | [b,a],_=>exact⟨b,a,rfl⟩
theorem Io(h:us.size=3):∃c a b,us= #[c,a,b]:=by
 obtain⟨l⟩:=us
 match l,h with
 | [c,a,b],_=>exact⟨c,a,b,rfl⟩
theorem qS5(h:us.size=1):∃a,us= #[a]:=by
 obtain⟨l⟩:=us
 match l,h with
 | [a],_=>exact⟨a,rfl⟩
variable{x:DV}
theorem Zb(h:kJ x=true):x.cells.length=3:=by
 unfold kJ at h;split at h
 ·rfl
 ·simp at h
theorem T7(Z:my P (fid k))(V:J8 P (fid k)):iT P fid k (dN kh):=by
 refine⟨Z,fun p args v A hd h g w us M o hcore I=> ?_⟩;unfold dN at h;obtain⟨ds,r,h⟩:=az.1 h;obtain⟨v',D,h⟩:=ay.1 h
 match ds,r,D with
 | [.sl t xs,.int .i64 i],r,D=>
  have b:=gu r;simp only[bA,cM]at b;subst b;obtain⟨u0,u1,rfl⟩:=qS4 M;have O:=o 0 _ u0 rfl rfl;have J:=o 1 _ u1 rfl rfl;cases J with
  |d _ _ J=>
  cases J;simp only[kh]at D;split at D
  case isFalse=>simp at D
  rename_i K;obtain⟨F,W,h3,G⟩:=K;simp only[aL]at D;subst D;simp only[qL,dJ]at h;obtain⟨rfl,rfl⟩:=h;cases O with
  |d _ _ O=>
  obtain⟨a,c,rfl,S,h4,C,y⟩:=vn hcore O;obtain⟨m,rfl⟩:∃m:Nat,i=m:=⟨i.toNat,by omega⟩;have N:m<xs.length:=by omega
  cases a with
  |none=>rw[(C rfl).1]at N;simp at N
  |some ad=>
   obtain⟨s,cs,X,z,n⟩:=y ad rfl;have l:Cells g w 3 xs cs:=X.size fun x Y=>Zb (bB.1 F x Y)
   have H:=l.len;obtain⟨n,Q⟩:=n (by omega);refine(V ad xs.length c m cs w n H N (by unfold maxLen;omega) G (fun j u hu=>by rw[<-addN n];exact z j u hu) l.one).mono ?_;intro e w' q;obtain⟨u,g',h1,R⟩:=FZ (fid:=fid) (p:=p) hcore (xs:=(xs.take m++xs.drop (m+1)).map DV.sh) (by simp;omega) q (((l.take m).append (l.drop (m+1))).sh);exact⟨u,g',h1,by simpa using R⟩
theorem OG:∀{xs:al} {vs:aX} {cs:bW},Cells g w 4 xs cs->iP xs=some vs->∃bs:List gR,ea bs=cs/\bs.map (·.1)=vs/\bs.length=xs.length/\∀x,x∈bs->x.2.1.oneCell'=true/\x.2.2.1.oneCell'=true/\x.2.2.2.oneCell'=true:=by
 intro xs vs cs h
 induction h generalizing vs with
 |nil=>intro d;simp[iP]at d;subst d;exact⟨[],rfl,rfl,rfl,by simp⟩
 |cons x us xs cs O H N e Q F=>
  intro d;simp only[iP]at d;obtain⟨v,c,d⟩:=az.1 d;obtain⟨y,i,rfl⟩:=ay.1 d;obtain⟨bs,m,z,p,K⟩:=F i;unfold nv at c;split at c
  case h_2=>simp at c
  rename_i q a b t ks;simp only[aL]at c;subst c
  match us,H with
  | [M,n,l,o],_=>
   have C:=e 0 _ M rfl rfl;have I:=e 1 _ n rfl rfl;have G:=e 2 _ l rfl rfl;have e3:=e 3 _ o rfl rfl;have r:=(lD I rfl).1;have D:=(lD G rfl).1;have J:=(lD e3 rfl).1;cases C;refine⟨((q,n,l,o):gR)::bs,?_,?_,by simp[p],fun x j=> ?_⟩
   ·unfold ea at m⊢;rw[eI,m];rfl
   ·simp[z]
   ·rcases bK.1 j with rfl|j
    ·exact⟨r,D,J⟩
    ·exact K x j
theorem Jp:∀{xs:al} {vs:aX},iP xs=some vs->x∈xs->x.cells.length=4
 |y::e,vs,h,c=>by
  simp only[iP]at h;obtain⟨v,a,h⟩:=az.1 h;obtain⟨d,b,rfl⟩:=ay.1 h;rcases bK.1 c with rfl|c
  ·unfold nv at a
   split at a
   ·rfl
   ·simp at a
  ·exact Jp b c
theorem qVi(hf:my P (fid k))(hj:HK P (fid k)):iT P fid k (dN km):=by
 refine⟨hf,fun p args v A hd h g w us h3 z hcore R=> ?_⟩;unfold dN at h;obtain⟨ds,H,h⟩:=az.1 h;obtain⟨v',i,h⟩:=ay.1 h
 match ds,H,i with
 | [.sl t xs,.int .i64 m,.agg [.int .i64 a,.int .i64 b,.sl t' ks]],H,i=>
  have q:=gu H;simp only[bA,cM]at q;subst q;obtain⟨u0,u1,u2,rfl⟩:=Io h3;have X:=z 0 _ u0 rfl rfl;have r1:=z 1 _ u1 rfl rfl;have W:=z 2 _ u2 rfl rfl;cases r1 with
  |d _ _ r1=>
  cases r1;cases W with
  |d _ _ W=>
  cases W with
  |agg _ tt Z x1 G=>
  obtain⟨t1,Q,O,rfl⟩:=Io (by simpa using Z);have e1:=G 0 _ t1 rfl rfl;have e2:=G 1 _ Q rfl rfl;have e3:=G 2 _ O rfl rfl;simp only[km]at i;obtain⟨vs,N,i⟩:=az.1 i;split at i
  case isFalse=>simp at i
  rename_i M;simp only[aL]at i;subst i;simp only[qL,dJ]at h;obtain⟨rfl,rfl⟩:=h;cases X with
  |d _ _ X=>
  obtain⟨ad,c,rfl,S,V,r,F⟩:=vn hcore X;have key:∃cs,Cells g w 4 xs cs/\∀l,ad=some l->0<xs.length->l.spot=none/\∀(j:Nat) (u:Value),cs[j]?=some u->w.cell? ⟨l.block,l.off+j,none⟩=some u:=by
   cases ad with
   |none=>rw[(r rfl).1];exact⟨[],.nil,fun l h=>by simp at h⟩
   |some ad=>
    obtain⟨s,cs,J,n,D⟩:=F ad rfl;have K:Cells g w 4 xs cs:=J.size fun x Y=>Jp N Y
    have h4:=K.len;refine⟨cs,K,fun l h hp=> ?_⟩;simp only[aL]at h;subst h;obtain⟨D,_⟩:=D (by omega);exact⟨D,fun j u y=>by rw[<-addN D];exact n j u y⟩
  obtain⟨cs,J,n⟩:=key;obtain⟨bs,q1,q2,q3,q4⟩:=OG J N;have hB:BdsAt w ad xs.length c bs:=⟨q3,S,V,M,fun h=>by obtain⟨h1,h2⟩:=r h;rw[h1];exact⟨rfl,h2⟩,q4,fun l h hp=>by rw[q1];exact n l h hp⟩
  have I:gE bs m=jh vs m:=by unfold gE jh;rw[<-q2,List.findIdx_map];rfl
  refine(hj ad xs.length c bs m t1 Q O w hB (lD e1 rfl).1 (lD e2 rfl).1 (lD e3 rfl).1).mono ?_;intro e w' o;rw[I,q1]at o;have Y:Cells g w 4 [.agg [.int .i64 m,.int .i64 a,.int .i64 b,.sl t' ks]] [.int .i64 m,t1,Q,O]:=
   .cons _ [.int .i64 m,t1,Q,O] [] [] rfl rfl (fun v i=>by
    simp only[DV.cells,bK,nT,nu]at i;rcases i with rfl|rfl|rfl|rfl<;>rfl) (fun j v u i y=>by
    match j,i,y with
    |0,i,y=>cases i;cases y;exact .int _ _
    |1,i,y=>cases i;cases y;exact e1
    |2,i,y=>cases i;cases y;exact e2
    |3,i,y=>cases i;cases y;exact e3) .nil
  have h5:jh vs m<=xs.length:=by
   have:jh vs m<=vs.length:=rP;have hl:vs.length=xs.length:=by rw[<-q2,eo,q3]
   omega
  have C:=(((J.take (jh vs m)).append Y).append (J.drop (jh vs m))).sh;obtain⟨u,g',h1,h2⟩:=FZ (fid:=fid) (p:=p) hcore (by simp;omega) o C;exact⟨u,g',h1,by simpa using h2⟩
theorem qzj(hc:Core fid g w [] Ids.none):∀{rs:al} {l:List al} {cs:bW},Cells g w 1 rs cs->rowsOf rs=some l->(∀x,x∈l.flatten->x.cells.length=sz)->
 ∃R:List (Nat×bW),R.length=rs.length/\gB R=l.flatten.length/\Cells g w sz l.flatten (mJ R)/\∀(j:Nat) (r:Nat×bW),R[j]?=some r->r.2.length=r.1*sz/\(∀u,u∈r.2->u.oneCell'=true)/\
  ∃u,cs[j]?=some u/\((r.1=0/\u= .slice none 0 0)\/∃(a:Addr) (c':Nat),u= .slice (some a) r.1 c'/\∀(i:Nat) (v:Value),r.2[i]?=some v->w.cell? (a.add i)=some v):=by
 intro rs l cs h
 induction h generalizing l with
 |nil=>intro b _;simp[rowsOf]at b;subst b;exact⟨[],rfl,rfl,.nil,by simp⟩
 |cons x us xs cs Y N X J Z M=>
  intro b o
  match x,us,N with
  | .sl t n,[V],_=>
   simp only[rowsOf]at b;obtain⟨l',p,rfl⟩:=ay.1 b;obtain⟨R,F,H,C,Q⟩:=M p (fun x z=>o x (by rw[kH];exact od _ z));have K:=J 0 _ V rfl rfl;obtain⟨a,c,rfl,D,I,e,d⟩:=vn hc K;have key:∃ds:bW,Cells g w sz n ds/\((n.length=0/\Value.slice a n.length c= .slice none 0 0)\/∃(a':Addr) (c':Nat),Value.slice a n.length c= .slice (some a') n.length c'/\∀(i:Nat) (v:Value),ds[i]?=some v->w.cell? (a'.add i)=some v):=by
    cases a with
    |none=>obtain⟨S,W⟩:=e rfl;subst S W;exact⟨[],.nil,.inl ⟨rfl,rfl⟩⟩
    |some ad=>obtain⟨s,ds,O,m,_⟩:=d ad rfl;exact⟨ds,O.size fun x z=>o x (by rw[kH];exact lw _ z),.inr ⟨ad,c,rfl,m⟩⟩
   obtain⟨ds,y,G⟩:=key;refine⟨(n.length,ds)::R,by simp[F],by unfold gB at*;simp[H],by unfold mJ at*;rw[kH,eI];exact y.append C,fun j r q=> ?_⟩;cases j with
   |zero=>simp only[eG,aL]at q;subst q;exact⟨y.len,y.one,_,rfl,G⟩
   |succ j=>simpa using Q j r (by simpa using q)
  | .int _ _,_,_=>simp[rowsOf]at b
  | .bool _,_,_=>simp[rowsOf]at b
  | .str _,_,_=>simp[rowsOf]at b
  | .agg _,_,_=>simp[rowsOf]at b
  | .tup _,_,_=>simp[rowsOf]at b
theorem LD:∀{rs:al} {l:List al},rowsOf rs=some l->x∈rs->x.cells.length=1
 | .sl _ c::rs,l,h,a=>by
  simp only[rowsOf]at h;obtain⟨l',b,rfl⟩:=ay.1 h;rcases bK.1 a with rfl|a
  ·rfl
  ·exact LD b a
theorem qXU{G:Nat}(hf:my P (fid k))(hj:Km P (fid k) sz G):iT P fid k (dN (j_ sz G)):=by
 refine⟨hf,fun p args v A hd h g w us X M hcore N=> ?_⟩;unfold dN at h;obtain⟨ds,C,h⟩:=az.1 h;obtain⟨v',m,h⟩:=ay.1 h
 match ds,C,m with
 | [.sl t rs],C,m=>
  have b:=gu C;simp only[bA,cM]at b;subst b;obtain⟨u0,rfl⟩:=qS5 X;have V:=M 0 _ u0 rfl rfl;simp only[j_]at m;obtain⟨l,O,m⟩:=az.1 m;split at m
  case isFalse=>simp at m
  rename_i Q;obtain⟨K,n,H⟩:=Q;simp only[aL]at m;subst m;simp only[qL,dJ]at h;obtain⟨rfl,rfl⟩:=h;cases V with
  |d _ _ V=>
  obtain⟨a,c,rfl,D,S,y,q⟩:=vn hcore V;have J:rs≠[]:=fun h=>by subst h;simp[rowsOf]at O;subst O;simp at n
  cases a with
  |none=>exact absurd (y rfl).1 J
  |some ad=>
   obtain⟨s,cs,hC,z,i⟩:=q ad rfl;have F:Cells g w 1 rs cs:=hC.size fun x W=>LD O W
   have h4:=F.len;have h5:0<rs.length:=wC.2 J;obtain⟨i,h3⟩:=i (by omega);obtain⟨R,q1,Z,q3,q4⟩:=qzj (sz:=sz) hcore F O (fun x W=>by simpa using bB.1 K x W);rw[<-q1]at D⊢
   refine(hj ad c R w ⟨i,fun j r hr=> ?_⟩ D S (by rw[Z];exact n) (by rw[Z];exact H)).mono ?_
   ·obtain⟨z1,z2,u,z3,I⟩:=q4 j r hr
    have Y:=z j u z3;rw[addN i]at Y;refine⟨z1,z2,?_⟩;rcases I with⟨I,rfl⟩|⟨a',c',rfl,I⟩
    ·exact .inl ⟨I,Y⟩
    ·exact .inr ⟨a',c',Y,I⟩
   ·intro e w' o
    obtain⟨u,g',h1,h2⟩:=FZ (fid:=fid) (p:=p) hcore (xs:=l.flatten.map DV.sh) (by rw[eo,Z]) o q3.sh;exact⟨u,g',h1,h2⟩
end Go.Proofs.YtpcoohnjllclnaaGreat.VS
