/- Functions of the library that are told by what they compute. -/
import Derived.Test.YtpcoohnjllclnaaGreatEngD
import Derived.Test.YtpcoohnjllclnaaGreatNat0
import Derived.Below
set_option linter.unusedSimpArgs false
set_option linter.unusedVariables false
namespace Go.Proofs.YtpcoohnjllclnaaGreat.VS
variable{w w':World}{u:Value}{g:Gh}{sz k:Nat}{xs:aw}
section
open Go.RowKit (Below)
variable {P:Program} {fid:Nat->FuncId}
theorem cell_below{B:Nat}(h:Below B w w')(ad:Addr)(a:ad.block<B):w'.cell? ad=w.cell? ad:=by unfold World.cell?;rw[h.block _ a]
theorem Kh{N:Id->Prop}{v:DV}(hc:Core fid g w [] Ids.none)(j:Below w.heap.size w w')(n:VR g w' v u):Post fid N g w Ids.none ⟨.d v,Ids.none,[]⟩ u g w' where
 val:= .d _ _ n
 core:=⟨fun i b h=>by obtain⟨cs,arr,e,l,_⟩:=hc.box i b h;simp at l,hc.inj,fun a h=>by simp[Ids.none]at h,fun a a' b x x' h=>by simp[Ids.none]at h,fun b h=>hc.K0 b (eG j.size h)⟩
 boxes:= .refl g w
 step:=⟨j.os,j.tape,j.output,j.size,⟨fun _=>bI _,fun ad h=>cell_below j ad (by
  rcases lP ad.block w.heap.size with l|l
  ·exact l
  ·rw[hc.K0 _ l]at h;omega),fun _ _ h=>h⟩,fun b m _ _=>⟨j.block b m,rfl⟩,fun a h=>absurd rfl h,fun a b h=>by simp[Ids.none]at h,fun b c e z h=>⟨c,by rw[j.block b (oV.1 h).1];exact h,rfl⟩⟩
theorem I7{p:Id}(hc:Core fid g w [] Ids.none)(q:Below w.heap.size w w')(m:g.row (0::p)=none){blk cap:Nat}{arr:ee}{e:TypeId}(t:w.heap.size<=blk)
 (heap:w'.heap[blk]?=some (.cells arr e (0,0))) (o:cap*sz<=arr.size) (l:xs.length<=cap) (D:cap<=maxLen) (J:xs≠[]) (F:∀(i:Nat) (x:DV),xs[i]?=some x->x.cells.length=sz/\∀v:DV,v∈x.cells->v.isCell=true)
 (N:∀(i:Nat) (x:DV) (j:Nat) (v:DV),xs[i]?=some x->x.cells[j]?=some v->∃u,arr[i*sz+j]?=some u/\VR g w' v u):
 ∃g',Post fid (from_ p 0) g w Ids.none ⟨.d (.sl (.own (0::p) sz) xs),Ids.add (0::p) Ids.none,[]⟩ (.slice (some ⟨blk,0,none⟩) xs.length cap) g' w':=by
 have H:g.K blk=0:=hc.K0 blk t;have r:ExtV g w' {K:=fun b=>if b=blk then xs.length*sz else g.K b,row:=fun a=>if a=0::p then some (blk,xs.length,cap,sz)else g.row a,bx:=g.bx} w':=
  ⟨fun b=>by simp only;split
             ·rename_i h;rw[h,H];exact c8 _
             ·exact bI _,fun _ _=>rfl,fun a x h=>by simp only;rw[aC (fun C=>by rw[C,m]at h;simp at h)];exact h⟩
 have I:ExtV g w g w':=⟨fun _=>bI _,fun ad h=>cell_below q ad (by
  rcases lP ad.block w.heap.size with n|n
  ·exact n
  ·rw[hc.K0 _ n]at h;omega),fun _ _ h=>h⟩
 refine⟨{K:=fun b=>if b=blk then xs.length*sz else g.K b,row:=fun a=>if a=0::p then some (blk,xs.length,cap,sz)else g.row a,bx:=g.bx},?_,⟨fun i b h=>by obtain⟨cs,arr,e,n,_⟩:=hc.box i b h;simp at n,hc.inj,fun a h=> ?_,fun a a' b x x' h h' _ _=> ?_,fun b h=> ?_⟩,⟨fun _ _ h=>h,fun _ _ h=> .inl h⟩,
  ⟨q.os,q.tape,q.output,q.size,I.trans r,fun b G _ _=>⟨q.block b G,by simp only;rw[aC (by omega)]⟩,fun a h=> ?_,fun a b h h'=> ?_,fun b c e z h=>⟨c,by rw[q.block b (oV.1 h).1];exact h,rfl⟩⟩⟩
 ·refine .d _ _ (.row _ xs ⟨blk,0,none⟩ cap sz (fun k=>arr.getD k undef) (by simp) l D (fun k O=> ?_) (.inr (by simp)) F (fun i x j v hi Q=> ?_) (fun a s h=> ?_))
  ·have y:(⟨blk,0,none⟩:Addr).add k=⟨blk,k,none⟩:=by unfold Addr.add;split<;>simp_all
   rw[y];have:k<arr.size:=B4 O (eG (Nat.mul_le_mul_right _ l) o);simp[World.cell?,heap,AA,this]
  ·obtain⟨u,n,M⟩:=N i x j v hi Q
   simp only[AA,n,qB];exact M.mono r
  ·simp only[Tag.own.injEq]at h
   obtain⟨rfl,rfl⟩:=h;exact⟨rfl,rfl,rfl,by simp,fun h=>absurd h J⟩
 ·simp only[Ids.add,Ids.none,l6,cB]at h
  subst h;exact⟨blk,xs.length,cap,sz,arr,e,by simp,heap,o,by simp,l,fun i h=>by obtain⟨cs,arr,e,n,_⟩:=hc.box i blk h;simp at n⟩
 ·simp only[Ids.add,Ids.none,l6,cB]at h h'
  rw[h,h']
 ·simp only
  rw[aC (fun C=>by have:=(oV.1 heap).1;omega)]
  exact hc.K0 b (eG q.size h)
 ·simp only at h
  split at h
  ·rename_i C;exact⟨[],0,bI _,by simpa using C⟩
  ·exact absurd rfl h
 ·simp only[Ids.add,Ids.none,l6,cB]at h
  subst h;simp[Gh.blk]at h';exact .inl (by omega)
def Kl(P:Program)(f:FuncId):Prop:=
 ∀(base:kV) (n c:Nat) (xs:ax) (v:Int) (w:World),xs.length=n->n<=c->(n+1)*8<=140737488355328->c<=maxLen->(base=none->n=0/\c=0)->
  (∀ad,base=some ad->0<n->ad.spot=none/\∀(j:Nat) (x:Int),xs[j]?=some x->w.cell? ⟨ad.block,ad.off+j,none⟩=some (.int .i64 x))->
  Calls P f #[.slice base n c,.int .i64 v] w fun e w'=>∃blk cap arr ty,e= .returned (.slice (some ⟨blk,0,none⟩) (cv xs v).length cap)/\w.heap.size<=blk/\w'.heap[blk]?=some (.cells arr ty (0,0))/\
   cap<=arr.size/\(cv xs v).length<=cap/\cap<=maxLen/\(∀(j:Nat) (x:Int),(cv xs v)[j]?=some x->arr[j]?=some (.int .i64 x))/\Below w.heap.size w w'
theorem qIN(hf:rb P (fid k))(hj:Kl P (fid k)):iY P fid k (cD lG):=by
 refine⟨hf,fun p args v A hd h g w us b2 G H C=> ?_⟩;unfold cD at h;obtain⟨ds,M,h⟩:=aL.1 h;obtain⟨v',q,J⟩:=aN.1 h;clear h
 match ds,M,q with
 | [.sl t xs,.int .i64 m],M,q=>
  have z:=ri M;simp only[bF,bT]at z;subst z;obtain⟨X,R,rfl⟩:∃X R,us= #[X,R]:=by
   obtain⟨l⟩:=us
   match l,b2 with
   | [X,R],_=>exact⟨X,R,rfl⟩
  have r0:=FX (G 0 _ X rfl rfl);have r1:=GF (G 1 _ R rfl rfl);subst r1;unfold lG at q;obtain⟨l,hl,q⟩:=aL.1 q;split at q
  case isFalse=>simp at q
  rename_i hle;simp only[ca]at q;subst q;have x3:=yA hl;subst x3;have Z:=JJ l m;have Y:kQ p (.sl (.own [] 0) ((cv l m).map (.int .i64)))=(.sl (.own (0::p) 1) ((cv l m).map (.int .i64)),Ids.add (0::p) Ids.none):=by
   cases hq:cv l m with
   |nil=>exact absurd hq Z
   |cons a r=>rfl
  rw[Y]at J;simp only[qd]at J;obtain⟨rfl,rfl⟩:=J;have main:∀(base:kV) (n c:Nat),l.length=n->n<=c->c<=maxLen->(base=none->n=0/\c=0)->(∀ad,base=some ad->0<n->ad.spot=none/\∀(j:Nat) (x:Int),l[j]?=some x->w.cell? ⟨ad.block,ad.off+j,none⟩=some (.int .i64 x))->
   Calls P (fid k) #[.slice base n c,.int .i64 m] w fun e w'=>∃u g',e= .returned u/\Post fid (from_ p 0) g w Ids.none ⟨.d (.sl (.own (0::p) 1) ((cv l m).map (.int .i64))),Ids.add (0::p) Ids.none,[]⟩ u g' w':=by
   intro base n c hn hc a3 Q b;refine(hj base n c l m w hn hc (by omega) a3 Q b).mono ?_
   rintro e w' ⟨blk,cap,arr,ty,rfl,N,S,h3,h4,h5,h6,h7⟩
   obtain⟨g',hp⟩:=I7 (fid:=fid) (p:=p) (xs:=(cv l m).map (.int .i64)) (sz:=1) (cap:=cap) H h7 (C [] 0 (bI _)) N S (by omega) (by simpa using h4) h5 (by simpa using Z) (fun i x hx=>by
    simp only[dP,aN]at hx;obtain⟨y,_,rfl⟩:=hx;exact⟨rfl,fun v q=>by simp[DV.cells]at q;subst q;rfl⟩) (fun i x j v hi K=>by
    simp only[dP,aN]at hi;obtain⟨y,hy,rfl⟩:=hi;cases j with
    |succ j=>simp[DV.cells]at K
    |zero=>
     simp[DV.cells]at K;subst K
     exact⟨_,by simpa using h6 i y hy,.int _ _⟩)
   rw[cT]at hp;exact⟨_,g',rfl,hp⟩
  generalize V:l.map (DV.int .i64)=xx at r0;cases r0 with
  |nil=>
   have a2:l.length=0:=by cases l with|nil=>rfl|cons _ _=>simp at V
   exact main none 0 0 a2 (bI _) (c8 _) (fun _=>⟨rfl,rfl⟩) (fun ad h=>by simp at h)
  |row _ _ ad c s U ht F hm b hK b1 c1 a1=>
   subst V;rw[cT]at F⊢
   refine main (some ad) l.length c rfl F hm (fun h=>by simp at h) (fun c2 he D=> ?_);simp only[ca]at he;subst he;have hs:s=1:=by
    have x2:(l.map (DV.int .i64))[0]?=some (.int .i64 l[0]):=by simp[D]
    have:=(b1 0 _ x2).1;simpa[DV.cells]using this.symm
   subst hs;have I:ad.spot=none:=by
    have:=b 0 (by simpa using D);unfold World.cell? at this;simp only[Addr.add,if_true]at this;split at this
    ·split at this
     ·simp at this
     ·rename_i N;simpa using N
    ·simp at this
   refine⟨I,fun j x O=> ?_⟩;have x1:j<l.length:=(cw.1 O).1;have N:=b j (by simpa using x1);have S:=c1 j (.int .i64 x) 0 (.int .i64 x) (by simp[O]) rfl;simp only[Nat.mul_one,Cx]at S;generalize U j=y at N S;cases S;have:ad.add j=⟨ad.block,ad.off+j,none⟩:=by obtain⟨bk,o,sp⟩:=ad;simp only at I;subst I;unfold Addr.add;split<;>simp_all
   rw[<-this];exact N
end
variable{cs:cX}{s:Nat}
section
open Go.RowKit (Below)
variable {P:Program} {fid:Nat->FuncId}
theorem yo(x:DV):x.sh.cells=x.cells.map DV.sh:=by cases x<;>simp[DV.sh,DV.cells,p6]
theorem Ii(x:DV):x.sh.isCell=x.isCell:=by cases x<;>simp[DV.sh,DV.isCell]
theorem VR.sh{v:DV}(h:VR g w v u):VR g w v.sh u:=by
 induction h with
 |int k n=>simp only[DV.sh];exact .int k n
 |bool b=>simp only[DV.sh];exact .bool b
 |str s=>simp only[DV.sh];exact .str s
 |agg cs us p F K m=>
  simp only[DV.sh,p6];refine .agg _ _ (by simpa using p) (fun v d=> ?_) (fun j v u d r=> ?_)
  ·obtain⟨x,hx,rfl⟩:=cC.1 d
   rw[Ii];exact F x hx
  ·rw[dP,aN]at d
   obtain⟨x,hx,rfl⟩:=d;exact m j x u hx r
 |tup cs us p K m=>simp only[DV.sh,p6];refine .tup _ _ (by simpa using p) (fun j v u d r=> ?_);rw[dP,aN]at d;obtain⟨x,hx,rfl⟩:=d;exact m j x u hx r
 |nil=>simp only[DV.sh,DV.shs,if_true];exact .nil
 |row t xs ad c s U H l M e G C J D m=>
  simp only[DV.sh,p6,aC H];have o:(xs.map DV.sh).length=xs.length:=cT _;have:=VR.row (g:=g) (w:=w) .sub (xs.map DV.sh) ad c s U (by simp) (by rw[o];exact l) M (by rw[o];exact e) (by rw[o];exact G) (fun i x hx=>by
   rw[dP,aN]at hx;obtain⟨y,hy,rfl⟩:=hx;obtain⟨N,I⟩:=C i y hy;rw[yo];refine⟨by simpa using N,fun v d=> ?_⟩;obtain⟨z,q,rfl⟩:=cC.1 d;rw[Ii];exact I z q) (fun i x j v hx d=>by
   rw[dP,aN]at hx;obtain⟨y,hy,rfl⟩:=hx;rw[yo,dP,aN]at d;obtain⟨z,q,rfl⟩:=d;exact m i y j z hy q) (fun a sz h=>by simp at h)
  rwa[o]at this
inductive Cells(g:Gh)(w:World)(s:Nat):aw->cX->Prop
 |nil:Cells g w s [] []
 |cons (x:DV) (us:cX) (xs:aw) (cs:cX):x.cells.length=s->us.length=s->(∀v:DV,v∈x.cells->v.isCell=true)->(∀(j:Nat) (v:DV) (u:Value),x.cells[j]?=some v->us[j]?=some u->VR g w v u)->Cells g w s xs cs->Cells g w s (x::xs) (us++cs)
section
variable {g:Gh} {w:World} {s:Nat}
theorem Cells.len(h:Cells g w s xs cs):cs.length=xs.length*s:=by
 induction h with
 |nil=>simp
 |cons x us xs cs d a e i c b=>simp only[cG,c7,a,b,kP];omega
theorem Cells.append{a:aw}{ds:cX}(h:Cells g w s xs cs)(h':Cells g w s a ds):Cells g w s (xs++a) (cs++ds):=by
 induction h with
 |nil=>exact h'
 |cons x us xs cs b i c d j e=>rw[bX];exact .cons x us _ _ b i c d e
theorem Cells.take(h:Cells g w s xs cs):∀k:Nat,Cells g w s (xs.take k) (cs.take (k*s)):=by
 induction h with
 |nil=>intro k;simpa using Cells.nil
 |cons x us xs cs b a c d j i=>
  intro k;cases k with
  |zero=>simpa using Cells.nil
  |succ k=>
   have e:(k+1)*s=us.length+k*s:=by rw[a,kP];omega
   rw[e,List.take_length_add_append,Bz];exact .cons x us _ _ b a c d (i k)
theorem Cells.drop(h:Cells g w s xs cs):∀k:Nat,Cells g w s (xs.drop k) (cs.drop (k*s)):=by
 induction h with
 |nil=>intro k;simpa using Cells.nil
 |cons x us xs cs c a d i b j=>
  intro k;cases k with
  |zero=>simpa using Cells.cons x us _ _ c a d i b
  |succ k=>
   have e:(k+1)*s=us.length+k*s:=by rw[a,kP];omega
   rw[e,List.drop_length_add_append,List.drop_succ_cons];exact j k
theorem Cells.sh(h:Cells g w s xs cs):Cells g w s (xs.map DV.sh) cs:=by
 induction h with
 |nil=>exact .nil
 |cons x us xs cs c e i l n m=>
  refine .cons _ us _ _ (by rw[yo];simpa using c) e (fun v a=> ?_) (fun j v u a d=> ?_) m
  ·rw[yo]at a
   obtain⟨z,b,rfl⟩:=cC.1 a;rw[Ii];exact i z b
  ·rw[yo,dP,aN]at a
   obtain⟨z,b,rfl⟩:=a;exact(l j z u b d).sh
theorem Cells.one(h:Cells g w s xs cs):∀u,u∈cs->u.oneCell'=true:=by
 induction h with
 |nil=>intro u a;simp at a
 |cons x us xs cs i l c d m e=>
  intro u a;rcases bw.1 a with h|h
  ·obtain⟨j,n,rfl⟩:=mT h
   have b:x.cells[j]?=some (x.cells[j]'(by omega)):=by simp
   exact(JI (d j _ _ b (by simp)) (c _ (pm b))).1
  ·exact e u h
theorem Cells.get(h:Cells g w s xs cs):∀(i:Nat) (x:DV),xs[i]?=some x->(x.cells.length=s/\∀v:DV,v∈x.cells->v.isCell=true)/\∀(j:Nat) (v:DV),x.cells[j]?=some v->∃u,cs[i*s+j]?=some u/\VR g w v u:=by
 induction h with
 |nil=>intro i x hx;simp at hx
 |cons x us xs cs d b e l q m=>
  intro i y hy;cases i with
  |zero=>simp only[pz,ca]at hy;subst hy;refine⟨⟨d,e⟩,fun j v a=> ?_⟩;have r:=(cw.1 a).1;refine⟨us[j]'(by omega),by rw[xR,dE,d8 (by omega)];simp,l j v _ a (by simp)⟩
  |succ i=>rw[Cj]at hy;obtain⟨o,c⟩:=m i y hy;refine⟨o,fun j v a=> ?_⟩;obtain⟨u,p,n⟩:=c j v a;refine⟨u,?_,n⟩;rw[dx (by rw[b,kP];omega),b,show(i+1)*s+j-s=i*s+j by rw[kP];omega];exact p
def qz(U:Nat->Value)(s:Nat):Nat->aw->cX
 |_,[]=>[]
 |i,_::xs=>(List.range s).map (fun j=>U (i*s+j))++qz U s (i+1) xs
theorem Lw(U:Nat->Value)(s:Nat):∀(xs:aw) (i k:Nat),(qz U s i xs)[k]?=if k<xs.length*s then some (U (i*s+k))else none
 | [],i,k=>by simp[qz]
 |x::xs,i,k=>by
  unfold qz
  by_cases h:k<s
  ·rw[d8 (by simpa using h),ay (by rw[c7,kP];omega)]
   simp[h]
  ·rw[dx (by simp;omega),Lw U s xs (i+1)]
   simp only[cT,List.length_range,c7,kP]
   by_cases a:k-s<xs.length*s
   ·rw[ay a,ay (by omega)];congr 2;omega
   ·rw[aC a,aC (by omega)]
theorem J9(U:Nat->Value)(s:Nat):∀(xs:aw) (i:Nat),(∀(j:Nat) (x:DV),xs[j]?=some x->x.cells.length=s/\∀v:DV,v∈x.cells->v.isCell=true)->
 (∀(k:Nat) (x:DV) (j:Nat) (v:DV),xs[k]?=some x->x.cells[j]?=some v->VR g w v (U ((i+k)*s+j)))->Cells g w s xs (qz U s i xs)
 | [],i,_,_=> .nil
 |x::xs,i,a,e=>by
  refine .cons x _ xs _ (a 0 x rfl).1 (by simp) (a 0 x rfl).2 (fun j v u b d=> ?_) (J9 U s xs (i+1) (fun j x hx=>a (j+1) x hx) (fun k x j v hx b=> ?_))
  ·rw[dP,aN]at d
   obtain⟨y,hy,rfl⟩:=d;obtain⟨h,c⟩:=cw.1 hy;simp at c;subst c;exact e 0 x j v rfl b
  ·have:=e (k+1) x j v hx b
   rwa[show i+(k+1)=i+1+k by omega]at this
end
def qY(w w':World)(e:Ending)(sz n:Nat)(cs:cX):Prop:=∃blk cap arr ty,e= .returned (.slice (some ⟨blk,0,none⟩) n cap)/\w.heap.size<=blk/\w'.heap[blk]?=some (.cells arr ty (0,0))/\cap*sz<=arr.size/\n<=cap/\cap<=maxLen/\(∀(j:Nat) (u:Value),cs[j]?=some u->arr[j]?=some u)/\Below w.heap.size w w'
theorem Gg{p:Id}{e:Ending}{n:Nat}(hc:Core fid g w [] Ids.none)(M:xs.length=n)(J:qY w w' e sz n cs)(h:Cells g w sz xs cs):
 ∃u g',e= .returned u/\Post fid (from_ p 0) g w Ids.none ⟨.d (.sl .sub xs),Ids.none,[]⟩ u g' w':=by
 subst M;obtain⟨blk,cap,arr,e,rfl,y,heap,r,m,F,l,o⟩:=J;have H:g.K blk=0:=hc.K0 blk y;have t:ExtV g w' {K:=fun b=>if b=blk then xs.length*sz else g.K b,row:=g.row,bx:=g.bx} w':=
  ⟨fun b=>by simp only;split
             ·rename_i h;rw[h,H];exact c8 _
             ·exact bI _,fun _ _=>rfl,fun a x h=>h⟩
 have C:ExtV g w g w':=⟨fun _=>bI _,fun ad h=>cell_below o ad (by
  rcases lP ad.block w.heap.size with q|q
  ·exact q
  ·rw[hc.K0 _ q]at h;omega),fun _ _ h=>h⟩
 refine⟨_,{K:=fun b=>if b=blk then xs.length*sz else g.K b,row:=g.row,bx:=g.bx},rfl,?_,⟨fun i b h=>by obtain⟨cs,arr,e,q,_⟩:=hc.box i b h;simp at q,hc.inj,fun a h=>by simp[Ids.none]at h,fun a a' b x x' h=>by simp[Ids.none]at h,fun b h=> ?_⟩,⟨fun _ _ h=>h,fun _ _ h=> .inl h⟩,
  ⟨o.os,o.tape,o.output,o.size,C.trans t,fun b G _ _=>⟨o.block b G,by simp only;rw[aC (by omega)]⟩,fun a h=>absurd rfl h,fun a b h=>by simp[Ids.none]at h,fun b c e z h=>⟨c,by rw[o.block b (oV.1 h).1];exact h,rfl⟩⟩⟩
 ·refine .d _ _ (.row _ xs ⟨blk,0,none⟩ cap sz (fun k=>arr.getD k undef) (by simp) m F (fun k N=> ?_) (.inr (by simp)) (fun i x hx=>(h.get i x hx).1) (fun i x j v hi O=> ?_) (fun a s h=>by simp at h))
  ·have D:(⟨blk,0,none⟩:Addr).add k=⟨blk,k,none⟩:=by unfold Addr.add;split<;>simp_all
   rw[D];have:k<arr.size:=B4 N (eG (Nat.mul_le_mul_right _ m) r);simp[World.cell?,heap,AA,this]
  ·obtain⟨u,q,I⟩:=(h.get i x hi).2 j v O
   simp only[AA,l _ _ q,qB];exact I.mono (C.trans t)
 ·simp only
  rw[aC (fun Q=>by have:=(oV.1 heap).1;omega)]
  exact hc.K0 b (eG o.size h)
theorem vw{t:Tag}(hc:Core fid g w [] Ids.none)(h:VR g w (.sl t xs) u):∃(a:kV) (c:Nat),u= .slice a xs.length c/\xs.length<=c/\c<=maxLen/\(a=none->xs=[]/\c=0)/\
 ∀ad,a=some ad->∃s cs,Cells g w s xs cs/\(∀(j:Nat) (v:Value),cs[j]?=some v->w.cell? (ad.add j)=some v)/\(0<cs.length->ad.spot=none/\ad.block<w.heap.size):=by
 cases h with
 |nil=>exact⟨none,0,rfl,bI _,c8 _,fun _=>⟨rfl,rfl⟩,fun ad h=>by simp at h⟩
 |row _ _ ad c s U D d y b q l m n=>
  refine⟨some ad,c,rfl,d,y,fun h=>by simp at h,fun r h=> ?_⟩;simp only[ca]at h;subst h;have p:Cells g w s xs (qz U s 0 xs):=J9 U s xs 0 l (fun k x j v hx z=>by rw[dE];exact m k x j v hx z);refine⟨s,qz U s 0 xs,p,fun j v i=> ?_,fun o=> ?_⟩
  ·rw[Lw]at i
   split at i
   ·simp only[xR,dE,ca]at i
    subst i;exact b j (by assumption)
   ·simp at i
  ·rw[p.len]at o
   refine⟨?_,?_⟩
   ·have:=b 0 o
    unfold World.cell? at this;simp only[Addr.add,if_true]at this;split at this
    ·split at this
     ·simp at this
     ·rename_i e;simpa using e
    ·simp at this
   ·rcases lP ad.block w.heap.size with e|e
    ·exact e
    ·have:=hc.K0 ad.block e
     rcases q with C|C
     ·omega
     ·omega
theorem Cells.size{s':Nat}(h:Cells g w s xs cs)(hx:∀x,x∈xs->x.cells.length=s'):Cells g w s' xs cs:=by
 induction h with
 |nil=>exact .nil
 |cons x us xs cs d j a b i c=>have e:=hx x jH;exact .cons x us xs cs e (by omega) a b (c fun y hy=>hx y (jn _ hy))
end
open Go.RowKit (Below)
variable {P:Program} {fid:Nat->FuncId}
def OM(P:Program)(f:FuncId):Prop:=
 ∀(ad:Addr) (n c i:Nat) (cs:cX) (w:World),ad.spot=none->cs.length=n*3->i<n->n<=maxLen->n*40<=140737488355328->(∀(j:Nat) (u:Value),cs[j]?=some u->w.cell? ⟨ad.block,ad.off+j,none⟩=some u)->(∀u,u∈cs->u.oneCell'=true)->
  Calls P f #[.slice (some ad) n c,.int .i64 i] w fun e w'=>qY w w' e 3 (n-1) (cs.take (i*3)++cs.drop ((i+1)*3))
structure RowsG(w:World)(sz:Nat)(ad:Addr)(rows:List (Nat×cX)):Prop where
 spot:ad.spot=none
 row:∀(j:Nat) (r:Nat×cX),rows[j]?=some r->r.2.length=r.1*sz/\(∀u,u∈r.2->u.oneCell'=true)/\
  ((r.1=0/\w.cell? ⟨ad.block,ad.off+j,none⟩=some (.slice none 0 0))\/
   ∃(a:Addr) (c':Nat),w.cell? ⟨ad.block,ad.off+j,none⟩=some (.slice (some a) r.1 c')/\∀(i:Nat) (u:Value),r.2[i]?=some u->w.cell? (a.add i)=some u)
def cF(rows:List (Nat×cX)):Nat:=(rows.map (·.1)).sum
def jD(rows:List (Nat×cX)):cX:=rows.flatMap (·.2)
def yL(P:Program)(f:FuncId)(sz a:Nat):Prop:=
 ∀(ad:Addr) (c:Nat) (rows:List (Nat×cX)) (w:World),RowsG w sz ad rows->rows.length<=c->c<=maxLen->cF rows*a<=140737488355328->
  Calls P f #[.slice (some ad) rows.length c] w fun e w'=>(cF rows=0/\e= .returned (.slice none 0 0)/\Below w.heap.size w w')\/(0<cF rows/\qY w w' e sz (cF rows) (jD rows))
theorem addN{ad:Addr}(h:ad.spot=none)(j:Nat):ad.add j=⟨ad.block,ad.off+j,none⟩:=by obtain⟨b,o,a⟩:=ad;simp only at h;subst h;unfold Addr.add;split<;>simp_all
variable{us:ee}
theorem Jd(h:us.size=2):∃b a,us= #[b,a]:=by
 obtain⟨l⟩:=us
 match l,h with
 | [b,a],_=>exact⟨b,a,rfl⟩
theorem OB(h:us.size=1):∃a,us= #[a]:=by
 obtain⟨l⟩:=us
 match l,h with
 | [a],_=>exact⟨a,rfl⟩
variable{x:DV}
theorem Ph(h:ki x=true):x.cells.length=3:=by
 unfold ki at h;split at h
 ·rfl
 ·simp at h
theorem qBh(hf:rb P (fid k))(hj:OM P (fid k)):iY P fid k (cD lJ):=by
 refine⟨hf,fun p args v A hd h g w us K q b J=> ?_⟩;unfold cD at h;obtain⟨ds,z,h⟩:=aL.1 h;obtain⟨v',C,h⟩:=aN.1 h
 match ds,z,C with
 | [.sl t xs,.int .i64 i],z,C=>
  have l:=ri z;simp only[bF,bT]at l;subst l;obtain⟨u0,u1,rfl⟩:=Jd K;have M:=q 0 _ u0 rfl rfl;have O:=q 1 _ u1 rfl rfl;cases O with
  |d _ _ O=>
  cases O;simp only[lJ]at C;split at C
  case isFalse=>simp at C
  rename_i N;obtain⟨I,S,h3,G⟩:=N;simp only[ca]at C;subst C;simp only[kQ,qd]at h;obtain⟨rfl,rfl⟩:=h;cases M with
  |d _ _ M=>
  obtain⟨a,c,rfl,X,Y,y,F⟩:=vw b M;obtain⟨m,rfl⟩:∃m:Nat,i=m:=⟨i.toNat,by omega⟩;have Q:m<xs.length:=by omega
  cases a with
  |none=>rw[(y rfl).1]at Q;simp at Q
  |some ad=>
   obtain⟨s,cs,hC,r,n⟩:=F ad rfl;have o:Cells g w 3 xs cs:=hC.size fun x hx=>Ph (cm.1 I x hx)
   have H:=o.len;obtain⟨n,R⟩:=n (by omega);refine(hj ad xs.length c m cs w n H Q (by unfold maxLen;omega) G (fun j u Z=>by rw[<-addN n];exact r j u Z) o.one).mono ?_;intro e w' D;obtain⟨u,g',V,h2⟩:=Gg (fid:=fid) (p:=p) b (xs:=(xs.take m++xs.drop (m+1)).map DV.sh) (by simp;omega) D (((o.take m).append (o.drop (m+1))).sh);exact⟨u,g',V,by simpa using h2⟩
theorem OE(hc:Core fid g w [] Ids.none):∀{p:aw} {l:List aw} {cs:cX},Cells g w 1 p cs->rowsOf p=some l->(∀x,x∈l.flatten->x.cells.length=sz)->
 ∃R:List (Nat×cX),R.length=p.length/\cF R=l.flatten.length/\Cells g w sz l.flatten (jD R)/\∀(j:Nat) (r:Nat×cX),R[j]?=some r->r.2.length=r.1*sz/\(∀u,u∈r.2->u.oneCell'=true)/\
  ∃u,cs[j]?=some u/\((r.1=0/\u= .slice none 0 0)\/∃(a:Addr) (c':Nat),u= .slice (some a) r.1 c'/\∀(i:Nat) (v:Value),r.2[i]?=some v->w.cell? (a.add i)=some v):=by
 intro p l cs h
 induction h generalizing l with
 |nil=>intro b _;simp[rowsOf]at b;subst b;exact⟨[],rfl,rfl,.nil,by simp⟩
 |cons x us xs cs Z F h3 I Y V=>
  intro b o
  match x,us,F with
  | .sl t n,[J],_=>
   simp only[rowsOf]at b;obtain⟨l',y,rfl⟩:=aN.1 b;obtain⟨R,K,Q,S,O⟩:=V y (fun x hx=>o x (by rw[lC];exact qn _ hx));have X:=I 0 _ J rfl rfl;obtain⟨a,c,rfl,C,D,d,e⟩:=vw hc X;have key:∃ds:cX,Cells g w sz n ds/\((n.length=0/\Value.slice a n.length c= .slice none 0 0)\/∃(a':Addr) (c':Nat),Value.slice a n.length c= .slice (some a') n.length c'/\∀(i:Nat) (v:Value),ds[i]?=some v->w.cell? (a'.add i)=some v):=by
    cases a with
    |none=>obtain⟨M,H⟩:=d rfl;subst M H;exact⟨[],.nil,.inl ⟨rfl,rfl⟩⟩
    |some ad=>obtain⟨s,ds,G,m,_⟩:=e ad rfl;exact⟨ds,G.size fun x hx=>o x (by rw[lC];exact ov _ hx),.inr ⟨ad,c,rfl,m⟩⟩
   obtain⟨ds,q,N⟩:=key;refine⟨(n.length,ds)::R,by simp[K],by unfold cF at*;simp[Q],by unfold jD at*;rw[lC,mC];exact q.append S,fun j r z=> ?_⟩;cases j with
   |zero=>simp only[pz,ca]at z;subst z;exact⟨q.len,q.one,_,rfl,N⟩
   |succ j=>simpa using O j r (by simpa using z)
  | .int _ _,_,_=>simp[rowsOf]at b
  | .bool _,_,_=>simp[rowsOf]at b
  | .str _,_,_=>simp[rowsOf]at b
  | .agg _,_,_=>simp[rowsOf]at b
  | .tup _,_,_=>simp[rowsOf]at b
theorem Iw:∀{a:aw} {l:List aw},rowsOf a=some l->x∈a->x.cells.length=1
 | .sl _ c::a,l,h,hx=>by
  simp only[rowsOf]at h;obtain⟨l',b,rfl⟩:=aN.1 h;rcases cE.1 hx with rfl|hx
  ·rfl
  ·exact Iw b hx
theorem Fw:∀{a:aw} {l:List aw},rowsOf a=some l->a.length=l.length
 | [],l,h=>by simp[rowsOf]at h;subst h;rfl
 | .sl _ c::a,l,h=>by simp only[rowsOf]at h;obtain⟨l',b,rfl⟩:=aN.1 h;simp[Fw b]
theorem PU{M:Nat}(hf:rb P (fid k))(hj:yL P (fid k) sz M):iY P fid k (cD (kx sz M)):=by
 refine⟨hf,fun p args v A hd h g w us Y I b N=> ?_⟩;unfold cD at h;obtain⟨ds,q,h⟩:=aL.1 h;obtain⟨v',n,h⟩:=aN.1 h
 match ds,q,n with
 | [.sl t S],q,n=>
  have i:=ri q;simp only[bF,bT]at i;subst i;obtain⟨u0,rfl⟩:=OB Y;have Z:=I 0 _ u0 rfl rfl;simp only[kx]at n;obtain⟨l,Q,n⟩:=aL.1 n;split at n
  case isFalse=>simp at n
  rename_i V;obtain⟨J,h3,H⟩:=V;simp only[ca]at n;subst n;cases Z with
  |d _ _ Z=>
  obtain⟨a,c,rfl,F,O,o,y⟩:=vw b Z;have K:S≠[]:=fun h=>by have:=Fw Q;rw[h]at this;simp at this;omega
  cases a with
  |none=>exact absurd (o rfl).1 K
  |some ad=>
   obtain⟨s,cs,hC,z,m⟩:=y ad rfl;have D:Cells g w 1 S cs:=hC.size fun x hx=>Iw Q hx
   have h5:=D.len;have x1:0<S.length:=yl.2 K;obtain⟨m,h4⟩:=m (by omega);obtain⟨R,q1,q2,q3,q4⟩:=OE (sz:=sz) b D Q (fun x hx=>by simpa using cm.1 J x hx);rw[<-q1]at F⊢
   refine(hj ad c R w ⟨m,fun j r hr=> ?_⟩ F O (by rw[q2];exact H)).mono ?_
   ·obtain⟨z1,z2,u,z3,G⟩:=q4 j r hr
    have X:=z j u z3;rw[addN m]at X;refine⟨z1,z2,?_⟩;rcases G with⟨G,rfl⟩|⟨a',c',rfl,G⟩
    ·exact .inl ⟨G,X⟩
    ·exact .inr ⟨a',c',X,G⟩
   ·rintro e w' (⟨h0,rfl,hb⟩|⟨h0,C⟩)
    ·rw[ay (by omega)]at h
     simp only[kQ,qd]at h;obtain⟨rfl,rfl⟩:=h;exact⟨_,g,rfl,Kh b hb .nil⟩
    ·rw[aC (by omega)]at h
     simp only[kQ,qd]at h;obtain⟨rfl,rfl⟩:=h;obtain⟨u,g',h1,h2⟩:=Gg (fid:=fid) (p:=p) b (xs:=l.flatten.map DV.sh) (by rw[cT,q2]) C q3.sh;exact⟨u,g',h1,h2⟩
theorem NT:∀{a:aw} {l:List ax},eb a=some l->rowsOf a=some (l.map (List.map (.int .i64)))
 | [],l,h=>by simp[eb]at h;subst h;rfl
 | .sl t xs::a,l,h=>by simp only[eb]at h;obtain⟨e,b,d⟩:=aL.1 h;obtain⟨l',c,rfl⟩:=aN.1 d;simp only[rowsOf,NT c,b9,bF,yA b]
 | .int _ _::_,l,h=>by simp[eb]at h
 | .str _::_,l,h=>by simp[eb]at h
 | .bool _::_,l,h=>by simp[eb]at h
 | .agg _::_,l,h=>by simp[eb]at h
 | .tup _::_,l,h=>by simp[eb]at h
theorem Y6(hf:rb P (fid k))(hj:yL P (fid k) 1 8):iY P fid k (cD kE):=by
 refine⟨hf,fun p args v A hd h g w us a1 Y b C=> ?_⟩;unfold cD at h;obtain⟨ds,H,h⟩:=aL.1 h;obtain⟨v',m,h⟩:=aN.1 h
 match ds,H,m with
 | [.sl t rs],H,m=>
  have o:=ri H;simp only[bF,bT]at o;subst o;obtain⟨u0,rfl⟩:=OB a1;have r0:=Y 0 _ u0 rfl rfl;simp only[kE]at m;obtain⟨l,hl,m⟩:=aL.1 m;split at m
  case isFalse=>simp at m
  rename_i x3;obtain⟨a3,V⟩:=x3;simp only[ca]at m;subst m;have F:=NT hl;have x1:(l.map (List.map (DV.int .i64))).flatten=l.flatten.map (.int .i64):=by rw[List.map_flatten]
  cases r0 with
  |d _ _ r0=>
  obtain⟨a,c,rfl,N,x2,G,I⟩:=vw b r0;have Z:rs≠[]:=fun h=>by have:=Fw F;rw[h]at this;simp at this;omega
  cases a with
  |none=>exact absurd (G rfl).1 Z
  |some ad=>
   obtain⟨s,cs,hC,J,z⟩:=I ad rfl;have M:Cells g w 1 rs cs:=hC.size fun x hx=>Iw F hx
   have b2:=M.len;have c1:0<rs.length:=yl.2 Z;obtain⟨z,b1⟩:=z (by omega);have O:∀x,x∈(l.map (List.map (DV.int .i64))).flatten->x.cells.length=1:=fun x hx=>by rw[x1]at hx;obtain⟨n,_,rfl⟩:=cC.1 hx;rfl
   obtain⟨R,q1,K,q3,q4⟩:=OE (sz:=1) b M F O;rw[x1]at K q3;rw[cT]at K;rw[<-q1]at N⊢
   refine(hj ad c R w ⟨z,fun j r hr=> ?_⟩ N x2 (by rw[K];exact V)).mono ?_
   ·obtain⟨z1,z2,u,z3,Q⟩:=q4 j r hr
    have X:=J j u z3;rw[addN z]at X;refine⟨z1,z2,?_⟩;rcases Q with⟨Q,rfl⟩|⟨a',c',rfl,Q⟩
    ·exact .inl ⟨Q,X⟩
    ·exact .inr ⟨a',c',X,Q⟩
   ·rintro e w' (⟨h0,rfl,hb⟩|⟨h0,blk,cap,arr,ty,rfl,h1,h2,h3,h4,h5,h6,h7⟩)
    ·have:l.flatten=[]:=gS.1 (by omega)
     rw[this]at h;simp only[bT,kQ,qd]at h;obtain⟨rfl,rfl⟩:=h;exact⟨_,g,rfl,Kh b hb .nil⟩
    ·have D:l.flatten≠[]:=fun h=>by rw[h]at K;simp at K;omega
     have S:kQ p (.sl (.own [] 0) (l.flatten.map (.int .i64)))=(.sl (.own (0::p) 1) (l.flatten.map (.int .i64)),Ids.add (0::p) Ids.none):=by
      cases hq:l.flatten with
      |nil=>exact absurd hq D
      |cons a r=>rfl
     rw[S]at h;simp only[qd]at h;obtain⟨rfl,rfl⟩:=h;obtain⟨g',hp⟩:=I7 (fid:=fid) (p:=p) (xs:=l.flatten.map (.int .i64)) (sz:=1) (cap:=cap) b h7 (C [] 0 (bI _)) h1 h2 h3 (by rw[cT];omega) h5 (fun h=>D (List.map_eq_nil_iff.1 h)) (fun i x hx=>by
      simp only[dP,aN]at hx;obtain⟨y,_,rfl⟩:=hx;exact⟨rfl,fun v m=>by simp[DV.cells]at m;subst m;rfl⟩) (fun i x j v hi q=>by
      obtain⟨_,z2⟩:=q3.get i x hi;obtain⟨u,X,a2⟩:=z2 j v q;refine⟨u,h6 _ u X,?_⟩;simp only[dP,aN]at hi;obtain⟨y,_,rfl⟩:=hi;cases j with
      |succ j=>simp[DV.cells]at q
      |zero=>
       simp[DV.cells]at q;subst q
       cases a2;exact .int _ _)
     rw[cT,<-K]at hp;exact⟨_,g',rfl,hp⟩
def M0(P:Program)(f:FuncId):Prop:=
 ∀(ad:Addr) (c k:Nat) (cs:cX) (w:World),ad.spot=none->cs.length=3->k*40<=140737488355328->(∀(j:Nat) (u:Value),cs[j]?=some u->w.cell? ⟨ad.block,ad.off+j,none⟩=some u)->(∀u,u∈cs->u.oneCell'=true)->
  Calls P f #[.slice (some ad) 1 c,.int .i64 k] w fun e w'=>qY w w' e 3 k (List.replicate k cs).flatten
theorem Cells.rep(h:Cells g w s [x] cs):∀k:Nat,Cells g w s (List.replicate k x) (List.replicate k cs).flatten
 |0=> .nil
 |k+1=>by rw[mo,mo,lC];exact h.append (h.rep k)
theorem W9(hf:rb P (fid k))(hj:M0 P (fid k)):iY P fid k (cD lN):=by
 refine⟨hf,fun p args v A hd h g w us M q b K=> ?_⟩;unfold cD at h;obtain⟨ds,C,h⟩:=aL.1 h;obtain⟨v',D,h⟩:=aN.1 h
 match ds,C,D with
 | [.sl t [x],.int .i64 i],C,D=>
  have l:=ri C;simp only[bF,bT]at l;subst l;obtain⟨u0,u1,rfl⟩:=Jd M;have N:=q 0 _ u0 rfl rfl;have Q:=q 1 _ u1 rfl rfl;cases Q with
  |d _ _ Q=>
  cases Q;simp only[lN]at D;split at D
  case isFalse=>simp at D
  rename_i O;obtain⟨J,S,o⟩:=O;simp only[ca]at D;subst D;simp only[kQ,qd]at h;obtain⟨rfl,rfl⟩:=h;cases N with
  |d _ _ N=>
  obtain⟨a,c,rfl,X,Y,z,H⟩:=vw b N;obtain⟨m,rfl⟩:∃m:Nat,i=m:=⟨i.toNat,by omega⟩;simp only[tI]at o⊢
  cases a with
  |none=>exact absurd (z rfl).1 (by simp)
  |some ad=>
   obtain⟨s,cs,hC,r,n⟩:=H ad rfl;have F:Cells g w 3 [x] cs:=hC.size fun y hy=>by simp only[fS]at hy;subst hy;exact Ph J
   have I:=F.len;simp only[c7,lE]at I;obtain⟨n,R⟩:=n (by omega);refine(hj ad c m cs w n (by omega) o (fun j u Z=>by rw[<-addN n];exact r j u Z) F.one).mono ?_;intro e w' G;obtain⟨u,g',V,h2⟩:=Gg (fid:=fid) (p:=p) b (xs:=(List.replicate m x).map DV.sh) (by simp) G (F.rep m).sh;exact⟨u,g',V,by simpa using h2⟩
end Go.Proofs.YtpcoohnjllclnaaGreat.VS
