/- Functions of the library that are told by what they compute. -/
import Derived.Test.YtpcoohnjllclnaaGreatEngD
import Derived.Test.YtpcoohnjllclnaaGreatNat0
import Derived.Below
set_option linter.unusedSimpArgs false
set_option linter.unusedVariables false
namespace Go.Proofs.YtpcoohnjllclnaaGreat.VS
variable{w w':World}{u:Value}{g:Gh}{sz k:Nat}{xs:aw}
section
open Go.RowKit (Below)
variable {P:Program} {fid:Nat->FuncId}
theorem cell_below{B:Nat}(h:Below B w w')(ad:Addr)(a:ad.block<B):w'.cell? ad=w.cell? ad:=by unfold World.cell?;rw[h.block _ a]
theorem Lb{N:Id->Prop}{v:DV}(hc:Core fid g w [] Ids.none)(j:Below w.heap.size w w')(n:VR g w' v u):Post fid N g w Ids.none ⟨.d v,Ids.none,[]⟩ u g w' where
 val:= .d _ _ n
 core:=⟨fun i b h=>by obtain⟨cs,arr,e,l,_⟩:=hc.box i b h;simp at l,hc.inj,fun a h=>by simp[Ids.none]at h,fun a a' b x x' h=>by simp[Ids.none]at h,fun b h=>hc.K0 b (eo j.size h)⟩
 boxes:= .refl g w
 step:=⟨j.os,j.tape,j.output,j.size,⟨fun _=>bN _,fun ad h=>cell_below j ad (by
  rcases mh ad.block w.heap.size with l|l
  ·exact l
  ·rw[hc.K0 _ l]at h;omega),fun _ _ h=>h⟩,fun b m _ _=>⟨j.block b m,rfl⟩,fun a h=>absurd rfl h,fun a b h=>by simp[Ids.none]at h,fun b c e z h=>⟨c,by rw[j.block b (q0.1 h).1];exact h,rfl⟩⟩
theorem O9{p:Id}(hc:Core fid g w [] Ids.none)(q:Below w.heap.size w w')(n:g.row (0::p)=none){blk cap:Nat}{arr:fp}{e:TypeId}(r:w.heap.size<=blk)
 (heap:w'.heap[blk]?=some (.cells arr e (0,0))) (o:cap*sz<=arr.size) (l:xs.length<=cap) (H:cap<=maxLen) (J:xs≠[]) (D:∀(i:Nat) (x:DV),xs[i]?=some x->x.cells.length=sz/\∀v:DV,v∈x.cells->v.isCell=true)
 (N:∀(i:Nat) (x:DV) (j:Nat) (v:DV),xs[i]?=some x->x.cells[j]?=some v->∃u,arr[i*sz+j]?=some u/\VR g w' v u):
 ∃g',Post fid (from_ p 0) g w Ids.none ⟨.d (.sl (.own (0::p) sz) xs),Ids.add (0::p) Ids.none,[]⟩ (.slice (some ⟨blk,0,none⟩) xs.length cap) g' w':=by
 have I:g.K blk=0:=hc.K0 blk r;have y:ExtV g w' {K:=fun b=>if b=blk then xs.length*sz else g.K b,row:=fun a=>if a=0::p then some (blk,xs.length,cap,sz)else g.row a,bx:=g.bx} w':=
  ⟨fun b=>by simp only;split
             ·rename_i h;rw[h,I];exact c7 _
             ·exact bN _,fun _ _=>rfl,fun a x h=>by simp only;rw[aD (fun C=>by rw[C,n]at h;simp at h)];exact h⟩
 have F:ExtV g w g w':=⟨fun _=>bN _,fun ad h=>cell_below q ad (by
  rcases mh ad.block w.heap.size with m|m
  ·exact m
  ·rw[hc.K0 _ m]at h;omega),fun _ _ h=>h⟩
 refine⟨{K:=fun b=>if b=blk then xs.length*sz else g.K b,row:=fun a=>if a=0::p then some (blk,xs.length,cap,sz)else g.row a,bx:=g.bx},?_,⟨fun i b h=>by obtain⟨cs,arr,e,m,_⟩:=hc.box i b h;simp at m,hc.inj,fun a h=> ?_,fun a a' b x x' h h' _ _=> ?_,fun b h=> ?_⟩,⟨fun _ _ h=>h,fun _ _ h=> .inl h⟩,
  ⟨q.os,q.tape,q.output,q.size,F.trans y,fun b G _ _=>⟨q.block b G,by simp only;rw[aD (by omega)]⟩,fun a h=> ?_,fun a b h h'=> ?_,fun b c e z h=>⟨c,by rw[q.block b (q0.1 h).1];exact h,rfl⟩⟩⟩
 ·refine .d _ _ (.row _ xs ⟨blk,0,none⟩ cap sz (fun k=>arr.getD k undef) (by simp) l H (fun k M=> ?_) (.inr (by simp)) D (fun i x j v hi Q=> ?_) (fun a s h=> ?_))
  ·have t:(⟨blk,0,none⟩:Addr).add k=⟨blk,k,none⟩:=by unfold Addr.add;split<;>simp_all
   rw[t];have:k<arr.size:=Dq M (eo (Nat.mul_le_mul_right _ l) o);simp[World.cell?,heap,DF,this]
  ·obtain⟨u,m,O⟩:=N i x j v hi Q
   simp only[DF,m,t_];exact O.mono y
  ·simp only[Tag.own.injEq]at h
   obtain⟨rfl,rfl⟩:=h;exact⟨rfl,rfl,rfl,by simp,fun h=>absurd h J⟩
 ·simp only[Ids.add,Ids.none,mf,cA]at h
  subst h;exact⟨blk,xs.length,cap,sz,arr,e,by simp,heap,o,by simp,l,fun i h=>by obtain⟨cs,arr,e,m,_⟩:=hc.box i blk h;simp at m⟩
 ·simp only[Ids.add,Ids.none,mf,cA]at h h'
  rw[h,h']
 ·simp only
  rw[aD (fun C=>by have:=(q0.1 heap).1;omega)]
  exact hc.K0 b (eo q.size h)
 ·simp only at h
  split at h
  ·rename_i C;exact⟨[],0,bN _,by simpa using C⟩
  ·exact absurd rfl h
 ·simp only[Ids.add,Ids.none,mf,cA]at h
  subst h;simp[Gh.blk]at h';exact .inl (by omega)
def J_(P:Program)(f:FuncId):Prop:=
 ∀(base:Option Addr) (n c:Nat) (xs:ax) (v:Int) (w:World),xs.length=n->n<=c->(n+1)*8<=140737488355328->c<=maxLen->(base=none->n=0/\c=0)->
  (∀ad,base=some ad->0<n->ad.spot=none/\∀(j:Nat) (x:Int),xs[j]?=some x->w.cell? ⟨ad.block,ad.off+j,none⟩=some (.int .i64 x))->
  Calls P f #[.slice base n c,.int .i64 v] w fun e w'=>∃blk cap arr ty,e= .returned (.slice (some ⟨blk,0,none⟩) (cv xs v).length cap)/\w.heap.size<=blk/\w'.heap[blk]?=some (.cells arr ty (0,0))/\
   cap<=arr.size/\(cv xs v).length<=cap/\cap<=maxLen/\(∀(j:Nat) (x:Int),(cv xs v)[j]?=some x->arr[j]?=some (.int .i64 x))/\Below w.heap.size w w'
theorem Rc(hf:qK P (fid k))(hj:J_ P (fid k)):jm P fid k (cB lP):=by
 refine⟨hf,fun p args v A hd h g w us b2 F J C=> ?_⟩;unfold cB at h;obtain⟨ds,I,h⟩:=aK.1 h;obtain⟨v',q,K⟩:=aN.1 h;clear h
 match ds,I,q with
 | [.sl t xs,.int .i64 m],I,q=>
  have z:=qy I;simp only[bF,bS]at z;subst z;obtain⟨Y,S,rfl⟩:∃Y S,us= #[Y,S]:=by
   obtain⟨l⟩:=us
   match l,b2 with
   | [Y,S],_=>exact⟨Y,S,rfl⟩
  have r0:=Oz (F 0 _ Y rfl rfl);have r1:=qVN (F 1 _ S rfl rfl);subst r1;unfold lP at q;obtain⟨l,hl,q⟩:=aK.1 q;split at q
  case isFalse=>simp at q
  rename_i c2;simp only[ca]at q;subst q;have c1:=xV hl;subst c1;have Z:=Mt l m;have V:kY p (.sl (.own [] 0) ((cv l m).map (.int .i64)))=(.sl (.own (0::p) 1) ((cv l m).map (.int .i64)),Ids.add (0::p) Ids.none):=by
   cases hq:cv l m with
   |nil=>exact absurd hq Z
   |cons a r=>rfl
  rw[V]at K;simp only[qj]at K;obtain⟨rfl,rfl⟩:=K;have main:∀(base:Option Addr) (n c:Nat),l.length=n->n<=c->c<=maxLen->(base=none->n=0/\c=0)->(∀ad,base=some ad->0<n->ad.spot=none/\∀(j:Nat) (x:Int),l[j]?=some x->w.cell? ⟨ad.block,ad.off+j,none⟩=some (.int .i64 x))->
   Calls P (fid k) #[.slice base n c,.int .i64 m] w fun e w'=>∃u g',e= .returned u/\Post fid (from_ p 0) g w Ids.none ⟨.d (.sl (.own (0::p) 1) ((cv l m).map (.int .i64))),Ids.add (0::p) Ids.none,[]⟩ u g' w':=by
   intro base n c hn hc a1 O b;refine(hj base n c l m w hn hc (by omega) a1 O b).mono ?_
   rintro e w' ⟨blk,cap,arr,ty,rfl,N,R,h3,h4,h5,h6,h7⟩
   obtain⟨g',hp⟩:=O9 (fid:=fid) (p:=p) (xs:=(cv l m).map (.int .i64)) (sz:=1) (cap:=cap) J h7 (C [] 0 (bN _)) N R (by omega) (by simpa using h4) h5 (by simpa using Z) (fun i x hx=>by
    simp only[fK,aN]at hx;obtain⟨y,_,rfl⟩:=hx;exact⟨rfl,fun v q=>by simp[DV.cells]at q;subst q;rfl⟩) (fun i x j v hi M=>by
    simp only[fK,aN]at hi;obtain⟨y,hy,rfl⟩:=hi;cases j with
    |succ j=>simp[DV.cells]at M
    |zero=>
     simp[DV.cells]at M;subst M
     exact⟨_,by simpa using h6 i y hy,.int _ _⟩)
   rw[cV]at hp;exact⟨_,g',rfl,hp⟩
  generalize X:l.map (DV.int .i64)=xx at r0;cases r0 with
  |nil=>
   have a2:l.length=0:=by cases l with|nil=>rfl|cons _ _=>simp at X
   exact main none 0 0 a2 (bN _) (c7 _) (fun _=>⟨rfl,rfl⟩) (fun ad h=>by simp at h)
  |row _ _ ad c s U ht D hm b hK x2 a3 b1=>
   subst X;rw[cV]at D⊢
   refine main (some ad) l.length c rfl D hm (fun h=>by simp at h) (fun ad' he G=> ?_);simp only[ca]at he;subst he;have hs:s=1:=by
    have x3:(l.map (DV.int .i64))[0]?=some (.int .i64 l[0]):=by simp[G]
    have:=(x2 0 _ x3).1;simpa[DV.cells]using this.symm
   subst hs;have H:ad.spot=none:=by
    have:=b 0 (by simpa using G);unfold World.cell? at this;simp only[Addr.add,if_true]at this;split at this
    ·split at this
     ·simp at this
     ·rename_i N;simpa using N
    ·simp at this
   refine⟨H,fun j x Q=> ?_⟩;have x1:j<l.length:=(cW.1 Q).1;have N:=b j (by simpa using x1);have R:=a3 j (.int .i64 x) 0 (.int .i64 x) (by simp[Q]) rfl;simp only[Nat.mul_one,Hr]at R;generalize U j=y at N R;cases R;have:ad.add j=⟨ad.block,ad.off+j,none⟩:=by obtain⟨bk,o,sp⟩:=ad;simp only at H;subst H;unfold Addr.add;split<;>simp_all
   rw[<-this];exact N
end
variable{cs:dF}{s:Nat}
section
open Go.RowKit (Below)
variable {P:Program} {fid:Nat->FuncId}
theorem wk(x:DV):x.sh.cells=x.cells.map DV.sh:=by cases x<;>simp[DV.sh,DV.cells,p8]
theorem EZ(x:DV):x.sh.isCell=x.isCell:=by cases x<;>simp[DV.sh,DV.isCell]
theorem VR.sh{v:DV}(h:VR g w v u):VR g w v.sh u:=by
 induction h with
 |int k n=>simp only[DV.sh];exact .int k n
 |bool b=>simp only[DV.sh];exact .bool b
 |str s=>simp only[DV.sh];exact .str s
 |agg cs us p F M l=>
  simp only[DV.sh,p8];refine .agg _ _ (by simpa using p) (fun v d=> ?_) (fun j v u d C=> ?_)
  ·obtain⟨x,hx,rfl⟩:=cE.1 d
   rw[EZ];exact F x hx
  ·rw[fK,aN]at d
   obtain⟨x,hx,rfl⟩:=d;exact l j x u hx C
 |tup cs us p M l=>simp only[DV.sh,p8];refine .tup _ _ (by simpa using p) (fun j v u d C=> ?_);rw[fK,aN]at d;obtain⟨x,hx,rfl⟩:=d;exact l j x u hx C
 |nil=>simp only[DV.sh,DV.shs,if_true];exact .nil
 |row t xs ad c s U J m H e G q K D l=>
  simp only[DV.sh,p8,aD J];have o:(xs.map DV.sh).length=xs.length:=cV _;have:=VR.row (g:=g) (w:=w) .sub (xs.map DV.sh) ad c s U (by simp) (by rw[o];exact m) H (by rw[o];exact e) (by rw[o];exact G) (fun i x hx=>by
   rw[fK,aN]at hx;obtain⟨y,hy,rfl⟩:=hx;obtain⟨I,N⟩:=q i y hy;rw[wk];refine⟨by simpa using I,fun v d=> ?_⟩;obtain⟨z,r,rfl⟩:=cE.1 d;rw[EZ];exact N z r) (fun i x j v hx d=>by
   rw[fK,aN]at hx;obtain⟨y,hy,rfl⟩:=hx;rw[wk,fK,aN]at d;obtain⟨z,r,rfl⟩:=d;exact l i y j z hy r) (fun a sz h=>by simp at h)
  rwa[o]at this
inductive Cells(g:Gh)(w:World)(s:Nat):aw->dF->Prop
 |nil:Cells g w s [] []
 |cons (x:DV) (us:dF) (xs:aw) (cs:dF):x.cells.length=s->us.length=s->(∀v:DV,v∈x.cells->v.isCell=true)->(∀(j:Nat) (v:DV) (u:Value),x.cells[j]?=some v->us[j]?=some u->VR g w v u)->Cells g w s xs cs->Cells g w s (x::xs) (us++cs)
section
variable {g:Gh} {w:World} {s:Nat}
theorem Cells.len(h:Cells g w s xs cs):cs.length=xs.length*s:=by
 induction h with
 |nil=>simp
 |cons x us xs cs d b c i e a=>simp only[cD,cY,b,a,kr];omega
theorem Cells.append{a:aw}{ds:dF}(h:Cells g w s xs cs)(h':Cells g w s a ds):Cells g w s (xs++a) (cs++ds):=by
 induction h with
 |nil=>exact h'
 |cons x us xs cs b d e c j i=>rw[bW];exact .cons x us _ _ b d e c i
theorem Cells.take(h:Cells g w s xs cs):∀k:Nat,Cells g w s (xs.take k) (cs.take (k*s)):=by
 induction h with
 |nil=>intro k;simpa using Cells.nil
 |cons x us xs cs d a b i j c=>
  intro k;cases k with
  |zero=>simpa using Cells.nil
  |succ k=>
   have e:(k+1)*s=us.length+k*s:=by rw[a,kr];omega
   rw[e,List.take_length_add_append,yN];exact .cons x us _ _ d a b i (c k)
theorem Cells.drop(h:Cells g w s xs cs):∀k:Nat,Cells g w s (xs.drop k) (cs.drop (k*s)):=by
 induction h with
 |nil=>intro k;simpa using Cells.nil
 |cons x us xs cs d a b j i c=>
  intro k;cases k with
  |zero=>simpa using Cells.cons x us _ _ d a b j i
  |succ k=>
   have e:(k+1)*s=us.length+k*s:=by rw[a,kr];omega
   rw[e,List.drop_length_add_append,List.drop_succ_cons];exact c k
theorem Cells.sh(h:Cells g w s xs cs):Cells g w s (xs.map DV.sh) cs:=by
 induction h with
 |nil=>exact .nil
 |cons x us xs cs c d m l n e=>
  refine .cons _ us _ _ (by rw[wk];simpa using c) d (fun v a=> ?_) (fun j v u a i=> ?_) e
  ·rw[wk]at a
   obtain⟨z,b,rfl⟩:=cE.1 a;rw[EZ];exact m z b
  ·rw[wk,fK,aN]at a
   obtain⟨z,b,rfl⟩:=a;exact(l j z u b i).sh
theorem Cells.one(h:Cells g w s xs cs):∀u,u∈cs->u.oneCell'=true:=by
 induction h with
 |nil=>intro u a;simp at a
 |cons x us xs cs i l e d m c=>
  intro u a;rcases bu.1 a with h|h
  ·obtain⟨j,n,rfl⟩:=mo h
   have b:x.cells[j]?=some (x.cells[j]'(by omega)):=by simp
   exact(Kd (d j _ _ b (by simp)) (e _ (ow b))).1
  ·exact c u h
theorem Cells.get(h:Cells g w s xs cs):∀(i:Nat) (x:DV),xs[i]?=some x->(x.cells.length=s/\∀v:DV,v∈x.cells->v.isCell=true)/\∀(j:Nat) (v:DV),x.cells[j]?=some v->∃u,cs[i*s+j]?=some u/\VR g w v u:=by
 induction h with
 |nil=>intro i x hx;simp at hx
 |cons x us xs cs c b m e q o=>
  intro i y hy;cases i with
  |zero=>simp only[nY,ca]at hy;subst hy;refine⟨⟨c,m⟩,fun j v a=> ?_⟩;have r:=(cW.1 a).1;refine⟨us[j]'(by omega),by rw[x8,dM,ed (by omega)];simp,e j v _ a (by simp)⟩
  |succ i=>rw[EY]at hy;obtain⟨d,n⟩:=o i y hy;refine⟨d,fun j v a=> ?_⟩;obtain⟨u,p,l⟩:=n j v a;refine⟨u,?_,l⟩;rw[dB (by rw[b,kr];omega),b,show(i+1)*s+j-s=i*s+j by rw[kr];omega];exact p
def qq(U:Nat->Value)(s:Nat):Nat->aw->dF
 |_,[]=>[]
 |i,_::xs=>(List.range s).map (fun j=>U (i*s+j))++qq U s (i+1) xs
theorem Kl(U:Nat->Value)(s:Nat):∀(xs:aw) (i k:Nat),(qq U s i xs)[k]?=if k<xs.length*s then some (U (i*s+k))else none
 | [],i,k=>by simp[qq]
 |x::xs,i,k=>by
  unfold qq
  by_cases h:k<s
  ·rw[ed (by simpa using h),ay (by rw[cY,kr];omega)]
   simp[h]
  ·rw[dB (by simp;omega),Kl U s xs (i+1)]
   simp only[cV,List.length_range,cY,kr]
   by_cases a:k-s<xs.length*s
   ·rw[ay a,ay (by omega)];congr 2;omega
   ·rw[aD a,aD (by omega)]
theorem LC(U:Nat->Value)(s:Nat):∀(xs:aw) (i:Nat),(∀(j:Nat) (x:DV),xs[j]?=some x->x.cells.length=s/\∀v:DV,v∈x.cells->v.isCell=true)->
 (∀(k:Nat) (x:DV) (j:Nat) (v:DV),xs[k]?=some x->x.cells[j]?=some v->VR g w v (U ((i+k)*s+j)))->Cells g w s xs (qq U s i xs)
 | [],i,_,_=> .nil
 |x::xs,i,a,d=>by
  refine .cons x _ xs _ (a 0 x rfl).1 (by simp) (a 0 x rfl).2 (fun j v u b e=> ?_) (LC U s xs (i+1) (fun j x hx=>a (j+1) x hx) (fun k x j v hx b=> ?_))
  ·rw[fK,aN]at e
   obtain⟨y,hy,rfl⟩:=e;obtain⟨h,c⟩:=cW.1 hy;simp at c;subst c;exact d 0 x j v rfl b
  ·have:=d (k+1) x j v hx b
   rwa[show i+(k+1)=i+1+k by omega]at this
end
def pS(w w':World)(e:Ending)(sz n:Nat)(cs:dF):Prop:=∃blk cap arr ty,e= .returned (.slice (some ⟨blk,0,none⟩) n cap)/\w.heap.size<=blk/\w'.heap[blk]?=some (.cells arr ty (0,0))/\cap*sz<=arr.size/\n<=cap/\cap<=maxLen/\(∀(j:Nat) (u:Value),cs[j]?=some u->arr[j]?=some u)/\Below w.heap.size w w'
theorem HA{p:Id}{e:Ending}{n:Nat}(hc:Core fid g w [] Ids.none)(O:xs.length=n)(I:pS w w' e sz n cs)(h:Cells g w sz xs cs):
 ∃u g',e= .returned u/\Post fid (from_ p 0) g w Ids.none ⟨.d (.sl .sub xs),Ids.none,[]⟩ u g' w':=by
 subst O;obtain⟨blk,cap,arr,e,rfl,y,heap,t,o,G,l,m⟩:=I;have H:g.K blk=0:=hc.K0 blk y;have D:ExtV g w' {K:=fun b=>if b=blk then xs.length*sz else g.K b,row:=g.row,bx:=g.bx} w':=
  ⟨fun b=>by simp only;split
             ·rename_i h;rw[h,H];exact c7 _
             ·exact bN _,fun _ _=>rfl,fun a x h=>h⟩
 have r:ExtV g w g w':=⟨fun _=>bN _,fun ad h=>cell_below m ad (by
  rcases mh ad.block w.heap.size with q|q
  ·exact q
  ·rw[hc.K0 _ q]at h;omega),fun _ _ h=>h⟩
 refine⟨_,{K:=fun b=>if b=blk then xs.length*sz else g.K b,row:=g.row,bx:=g.bx},rfl,?_,⟨fun i b h=>by obtain⟨cs,arr,e,q,_⟩:=hc.box i b h;simp at q,hc.inj,fun a h=>by simp[Ids.none]at h,fun a a' b x x' h=>by simp[Ids.none]at h,fun b h=> ?_⟩,⟨fun _ _ h=>h,fun _ _ h=> .inl h⟩,
  ⟨m.os,m.tape,m.output,m.size,r.trans D,fun b F _ _=>⟨m.block b F,by simp only;rw[aD (by omega)]⟩,fun a h=>absurd rfl h,fun a b h=>by simp[Ids.none]at h,fun b c e z h=>⟨c,by rw[m.block b (q0.1 h).1];exact h,rfl⟩⟩⟩
 ·refine .d _ _ (.row _ xs ⟨blk,0,none⟩ cap sz (fun k=>arr.getD k undef) (by simp) o G (fun k J=> ?_) (.inr (by simp)) (fun i x hx=>(h.get i x hx).1) (fun i x j v hi M=> ?_) (fun a s h=>by simp at h))
  ·have C:(⟨blk,0,none⟩:Addr).add k=⟨blk,k,none⟩:=by unfold Addr.add;split<;>simp_all
   rw[C];have:k<arr.size:=Dq J (eo (Nat.mul_le_mul_right _ o) t);simp[World.cell?,heap,DF,this]
  ·obtain⟨u,q,N⟩:=(h.get i x hi).2 j v M
   simp only[DF,l _ _ q,t_];exact N.mono (r.trans D)
 ·simp only
  rw[aD (fun Q=>by have:=(q0.1 heap).1;omega)]
  exact hc.K0 b (eo m.size h)
theorem wg{t:Tag}(hc:Core fid g w [] Ids.none)(h:VR g w (.sl t xs) u):∃(a:Option Addr) (c:Nat),u= .slice a xs.length c/\xs.length<=c/\c<=maxLen/\(a=none->xs=[]/\c=0)/\
 ∀ad,a=some ad->∃s cs,Cells g w s xs cs/\(∀(j:Nat) (v:Value),cs[j]?=some v->w.cell? (ad.add j)=some v)/\(0<cs.length->ad.spot=none/\ad.block<w.heap.size):=by
 cases h with
 |nil=>exact⟨none,0,rfl,bN _,c7 _,fun _=>⟨rfl,rfl⟩,fun ad h=>by simp at h⟩
 |row _ _ ad c s U D i C b z m l o=>
  refine⟨some ad,c,rfl,i,C,fun h=>by simp at h,fun r h=> ?_⟩;simp only[ca]at h;subst h;have n:Cells g w s xs (qq U s 0 xs):=LC U s xs 0 m (fun k x j v hx y=>by rw[dM];exact l k x j v hx y);refine⟨s,qq U s 0 xs,n,fun j v e=> ?_,fun p=> ?_⟩
  ·rw[Kl]at e
   split at e
   ·simp only[x8,dM,ca]at e
    subst e;exact b j (by assumption)
   ·simp at e
  ·rw[n.len]at p
   refine⟨?_,?_⟩
   ·have:=b 0 p
    unfold World.cell? at this;simp only[Addr.add,if_true]at this;split at this
    ·split at this
     ·simp at this
     ·rename_i d;simpa using d
    ·simp at this
   ·rcases mh ad.block w.heap.size with d|d
    ·exact d
    ·have:=hc.K0 ad.block d
     rcases z with q|q
     ·omega
     ·omega
theorem Cells.size{s':Nat}(h:Cells g w s xs cs)(hx:∀x,x∈xs->x.cells.length=s'):Cells g w s' xs cs:=by
 induction h with
 |nil=>exact .nil
 |cons x us xs cs d i b a j c=>have e:=hx x jL;exact .cons x us xs cs e (by omega) b a (c fun y hy=>hx y (jg _ hy))
end
open Go.RowKit (Below)
variable {P:Program} {fid:Nat->FuncId}
def O7(P:Program)(f:FuncId):Prop:=
 ∀(ad:Addr) (n c i:Nat) (cs:dF) (w:World),ad.spot=none->cs.length=n*3->i<n->n<=maxLen->n*40<=140737488355328->(∀(j:Nat) (u:Value),cs[j]?=some u->w.cell? ⟨ad.block,ad.off+j,none⟩=some u)->(∀u,u∈cs->u.oneCell'=true)->
  Calls P f #[.slice (some ad) n c,.int .i64 i] w fun e w'=>pS w w' e 3 (n-1) (cs.take (i*3)++cs.drop ((i+1)*3))
structure RowsG(w:World)(sz:Nat)(ad:Addr)(rows:List (Nat×dF)):Prop where
 spot:ad.spot=none
 row:∀(j:Nat) (r:Nat×dF),rows[j]?=some r->r.2.length=r.1*sz/\(∀u,u∈r.2->u.oneCell'=true)/\
  ((r.1=0/\w.cell? ⟨ad.block,ad.off+j,none⟩=some (.slice none 0 0))\/
   ∃(a:Addr) (c':Nat),w.cell? ⟨ad.block,ad.off+j,none⟩=some (.slice (some a) r.1 c')/\∀(i:Nat) (u:Value),r.2[i]?=some u->w.cell? (a.add i)=some u)
def cF(rows:List (Nat×dF)):Nat:=(rows.map (·.1)).sum
def jw(rows:List (Nat×dF)):dF:=rows.flatMap (·.2)
def Ca(P:Program)(f:FuncId)(sz a:Nat):Prop:=
 ∀(ad:Addr) (c:Nat) (rows:List (Nat×dF)) (w:World),RowsG w sz ad rows->rows.length<=c->c<=maxLen->cF rows*a<=140737488355328->
  Calls P f #[.slice (some ad) rows.length c] w fun e w'=>(cF rows=0/\e= .returned (.slice none 0 0)/\Below w.heap.size w w')\/(0<cF rows/\pS w w' e sz (cF rows) (jw rows))
theorem addN{ad:Addr}(h:ad.spot=none)(j:Nat):ad.add j=⟨ad.block,ad.off+j,none⟩:=by obtain⟨b,o,a⟩:=ad;simp only at h;subst h;unfold Addr.add;split<;>simp_all
variable{us:fp}
theorem NA(h:us.size=2):∃a b,us= #[a,b]:=by
 obtain⟨l⟩:=us
 match l,h with
 | [a,b],_=>exact⟨a,b,rfl⟩
theorem KV(h:us.size=1):∃a,us= #[a]:=by
 obtain⟨l⟩:=us
 match l,h with
 | [a],_=>exact⟨a,rfl⟩
variable{x:DV}
theorem IW(h:k_ x=true):x.cells.length=3:=by
 unfold k_ at h;split at h
 ·rfl
 ·simp at h
theorem Pz(hf:qK P (fid k))(hj:O7 P (fid k)):jm P fid k (cB lM):=by
 refine⟨hf,fun p args v A hd h g w us O q b J=> ?_⟩;unfold cB at h;obtain⟨ds,r,h⟩:=aK.1 h;obtain⟨v',F,h⟩:=aN.1 h
 match ds,r,F with
 | [.sl t xs,.int .i64 i],r,F=>
  have l:=qy r;simp only[bF,bS]at l;subst l;obtain⟨u0,Z,rfl⟩:=NA O;have Q:=q 0 _ u0 rfl rfl;have M:=q 1 _ Z rfl rfl;cases M with
  |d _ _ M=>
  cases M;simp only[lM]at F;split at F
  case isFalse=>simp at F
  rename_i K;obtain⟨I,h3,X,H⟩:=K;simp only[ca]at F;subst F;simp only[kY,qj]at h;obtain⟨rfl,rfl⟩:=h;cases Q with
  |d _ _ Q=>
  obtain⟨a,c,rfl,h5,h4,D,C⟩:=wg b Q;obtain⟨m,rfl⟩:∃m:Nat,i=m:=⟨i.toNat,by omega⟩;have N:m<xs.length:=by omega
  cases a with
  |none=>rw[(D rfl).1]at N;simp at N
  |some ad=>
   obtain⟨s,cs,S,z,o⟩:=C ad rfl;have n:Cells g w 3 xs cs:=S.size fun x hx=>IW (cm.1 I x hx)
   have G:=n.len;obtain⟨o,R⟩:=o (by omega);refine(hj ad xs.length c m cs w o G N (by unfold maxLen;omega) H (fun j u hu=>by rw[<-addN o];exact z j u hu) n.one).mono ?_;intro e w' y;obtain⟨u,g',V,Y⟩:=HA (fid:=fid) (p:=p) b (xs:=(xs.take m++xs.drop (m+1)).map DV.sh) (by simp;omega) y (((n.take m).append (n.drop (m+1))).sh);exact⟨u,g',V,by simpa using Y⟩
theorem LB(hc:Core fid g w [] Ids.none):∀{p:aw} {l:List aw} {cs:dF},Cells g w 1 p cs->rowsOf p=some l->(∀x,x∈l.flatten->x.cells.length=sz)->
 ∃R:List (Nat×dF),R.length=p.length/\cF R=l.flatten.length/\Cells g w sz l.flatten (jw R)/\∀(j:Nat) (r:Nat×dF),R[j]?=some r->r.2.length=r.1*sz/\(∀u,u∈r.2->u.oneCell'=true)/\
  ∃u,cs[j]?=some u/\((r.1=0/\u= .slice none 0 0)\/∃(a:Addr) (c':Nat),u= .slice (some a) r.1 c'/\∀(i:Nat) (v:Value),r.2[i]?=some v->w.cell? (a.add i)=some v):=by
 intro p l cs h
 induction h generalizing l with
 |nil=>intro b _;simp[rowsOf]at b;subst b;exact⟨[],rfl,rfl,.nil,by simp⟩
 |cons x us xs cs Z M Y G h5 N=>
  intro b o
  match x,us,M with
  | .sl t n,[I],_=>
   simp only[rowsOf]at b;obtain⟨l',y,rfl⟩:=aN.1 b;obtain⟨R,Q,X,D,S⟩:=N y (fun x hx=>o x (by rw[ls];exact qW _ hx));have J:=G 0 _ I rfl rfl;obtain⟨a,c,rfl,K,H,m,d⟩:=wg hc J;have key:∃ds:dF,Cells g w sz n ds/\((n.length=0/\Value.slice a n.length c= .slice none 0 0)\/∃(a':Addr) (c':Nat),Value.slice a n.length c= .slice (some a') n.length c'/\∀(i:Nat) (v:Value),ds[i]?=some v->w.cell? (a'.add i)=some v):=by
    cases a with
    |none=>obtain⟨V,O⟩:=m rfl;subst V O;exact⟨[],.nil,.inl ⟨rfl,rfl⟩⟩
    |some ad=>obtain⟨s,ds,C,e,_⟩:=d ad rfl;exact⟨ds,C.size fun x hx=>o x (by rw[ls];exact oq _ hx),.inr ⟨ad,c,rfl,e⟩⟩
   obtain⟨ds,z,F⟩:=key;refine⟨(n.length,ds)::R,by simp[Q],by unfold cF at*;simp[X],by unfold jw at*;rw[ls,mt];exact z.append D,fun j r q=> ?_⟩;cases j with
   |zero=>simp only[nY,ca]at q;subst q;exact⟨z.len,z.one,_,rfl,F⟩
   |succ j=>simpa using S j r (by simpa using q)
  | .int _ _,_,_=>simp[rowsOf]at b
  | .bool _,_,_=>simp[rowsOf]at b
  | .str _,_,_=>simp[rowsOf]at b
  | .agg _,_,_=>simp[rowsOf]at b
  | .tup _,_,_=>simp[rowsOf]at b
theorem Ge:∀{a:aw} {l:List aw},rowsOf a=some l->x∈a->x.cells.length=1
 | .sl _ c::a,l,h,hx=>by
  simp only[rowsOf]at h;obtain⟨l',b,rfl⟩:=aN.1 h;rcases cC.1 hx with rfl|hx
  ·rfl
  ·exact Ge b hx
theorem FA:∀{a:aw} {l:List aw},rowsOf a=some l->a.length=l.length
 | [],l,h=>by simp[rowsOf]at h;subst h;rfl
 | .sl _ c::a,l,h=>by simp only[rowsOf]at h;obtain⟨l',b,rfl⟩:=aN.1 h;simp[FA b]
theorem T_{K:Nat}(hf:qK P (fid k))(hj:Ca P (fid k) sz K):jm P fid k (cB (ki sz K)):=by
 refine⟨hf,fun p args v A hd h g w us Y D b N=> ?_⟩;unfold cB at h;obtain⟨ds,q,h⟩:=aK.1 h;obtain⟨v',n,h⟩:=aN.1 h
 match ds,q,n with
 | [.sl t V],q,n=>
  have i:=qy q;simp only[bF,bS]at i;subst i;obtain⟨u0,rfl⟩:=KV Y;have Z:=D 0 _ u0 rfl rfl;simp only[ki]at n;obtain⟨l,Q,n⟩:=aK.1 n;split at n
  case isFalse=>simp at n
  rename_i O;obtain⟨G,h5,J⟩:=O;simp only[ca]at n;subst n;cases Z with
  |d _ _ Z=>
  obtain⟨a,c,rfl,F,X,C,o⟩:=wg b Z;have M:V≠[]:=fun h=>by have:=FA Q;rw[h]at this;simp at this;omega
  cases a with
  |none=>exact absurd (C rfl).1 M
  |some ad=>
   obtain⟨s,cs,hC,z,m⟩:=o ad rfl;have H:Cells g w 1 V cs:=hC.size fun x hx=>Ge Q hx
   have h3:=H.len;have x1:0<V.length:=xU.2 M;obtain⟨m,h4⟩:=m (by omega);obtain⟨R,q1,q2,q3,q4⟩:=LB (sz:=sz) b H Q (fun x hx=>by simpa using cm.1 G x hx);rw[<-q1]at F⊢
   refine(hj ad c R w ⟨m,fun j r hr=> ?_⟩ F X (by rw[q2];exact J)).mono ?_
   ·obtain⟨z1,z2,u,z3,I⟩:=q4 j r hr
    have S:=z j u z3;rw[addN m]at S;refine⟨z1,z2,?_⟩;rcases I with⟨I,rfl⟩|⟨a',c',rfl,I⟩
    ·exact .inl ⟨I,S⟩
    ·exact .inr ⟨a',c',S,I⟩
   ·rintro e w' (⟨h0,rfl,hb⟩|⟨h0,y⟩)
    ·rw[ay (by omega)]at h
     simp only[kY,qj]at h;obtain⟨rfl,rfl⟩:=h;exact⟨_,g,rfl,Lb b hb .nil⟩
    ·rw[aD (by omega)]at h
     simp only[kY,qj]at h;obtain⟨rfl,rfl⟩:=h;obtain⟨u,g',h1,h2⟩:=HA (fid:=fid) (p:=p) b (xs:=l.flatten.map DV.sh) (by rw[cV,q2]) y q3.sh;exact⟨u,g',h1,h2⟩
theorem MB:∀{a:aw} {l:List ax},d7 a=some l->rowsOf a=some (l.map (List.map (.int .i64)))
 | [],l,h=>by simp[d7]at h;subst h;rfl
 | .sl t xs::a,l,h=>by simp only[d7]at h;obtain⟨e,b,c⟩:=aK.1 h;obtain⟨l',d,rfl⟩:=aN.1 c;simp only[rowsOf,MB d,b7,bF,xV b]
 | .int _ _::_,l,h=>by simp[d7]at h
 | .str _::_,l,h=>by simp[d7]at h
 | .bool _::_,l,h=>by simp[d7]at h
 | .agg _::_,l,h=>by simp[d7]at h
 | .tup _::_,l,h=>by simp[d7]at h
theorem Uc(hf:qK P (fid k))(hj:Ca P (fid k) 1 8):jm P fid k (cB lj):=by
 refine⟨hf,fun p args v A hd h g w us a1 M b C=> ?_⟩;unfold cB at h;obtain⟨ds,G,h⟩:=aK.1 h;obtain⟨v',m,h⟩:=aN.1 h
 match ds,G,m with
 | [.sl t rs],G,m=>
  have o:=qy G;simp only[bF,bS]at o;subst o;obtain⟨u0,rfl⟩:=KV a1;have r0:=M 0 _ u0 rfl rfl;simp only[lj]at m;obtain⟨l,hl,m⟩:=aK.1 m;split at m
  case isFalse=>simp at m
  rename_i x2;obtain⟨b2,Z⟩:=x2;simp only[ca]at m;subst m;have I:=MB hl;have X:(l.map (List.map (DV.int .i64))).flatten=l.flatten.map (.int .i64):=by rw[List.map_flatten]
  cases r0 with
  |d _ _ r0=>
  obtain⟨a,c,rfl,S,x3,J,F⟩:=wg b r0;have x1:rs≠[]:=fun h=>by have:=FA I;rw[h]at this;simp at this;omega
  cases a with
  |none=>exact absurd (J rfl).1 x1
  |some ad=>
   obtain⟨s,cs,hC,H,q⟩:=F ad rfl;have V:Cells g w 1 rs cs:=hC.size fun x hx=>Ge I hx
   have a3:=V.len;have c1:0<rs.length:=xU.2 x1;obtain⟨q,b1⟩:=q (by omega);have O:∀x,x∈(l.map (List.map (DV.int .i64))).flatten->x.cells.length=1:=fun x hx=>by rw[X]at hx;obtain⟨n,_,rfl⟩:=cE.1 hx;rfl
   obtain⟨R,q1,K,q3,q4⟩:=LB (sz:=1) b V I O;rw[X]at K q3;rw[cV]at K;rw[<-q1]at S⊢
   refine(hj ad c R w ⟨q,fun j r hr=> ?_⟩ S x3 (by rw[K];exact Z)).mono ?_
   ·obtain⟨z1,z2,u,z3,Y⟩:=q4 j r hr
    have N:=H j u z3;rw[addN q]at N;refine⟨z1,z2,?_⟩;rcases Y with⟨Y,rfl⟩|⟨a',c',rfl,Y⟩
    ·exact .inl ⟨Y,N⟩
    ·exact .inr ⟨a',c',N,Y⟩
   ·rintro e w' (⟨h0,rfl,hb⟩|⟨h0,blk,cap,arr,ty,rfl,h1,h2,h3,h4,h5,h6,h7⟩)
    ·have:l.flatten=[]:=ib.1 (by omega)
     rw[this]at h;simp only[bS,kY,qj]at h;obtain⟨rfl,rfl⟩:=h;exact⟨_,g,rfl,Lb b hb .nil⟩
    ·have D:l.flatten≠[]:=fun h=>by rw[h]at K;simp at K;omega
     have Q:kY p (.sl (.own [] 0) (l.flatten.map (.int .i64)))=(.sl (.own (0::p) 1) (l.flatten.map (.int .i64)),Ids.add (0::p) Ids.none):=by
      cases hq:l.flatten with
      |nil=>exact absurd hq D
      |cons a r=>rfl
     rw[Q]at h;simp only[qj]at h;obtain⟨rfl,rfl⟩:=h;obtain⟨g',hp⟩:=O9 (fid:=fid) (p:=p) (xs:=l.flatten.map (.int .i64)) (sz:=1) (cap:=cap) b h7 (C [] 0 (bN _)) h1 h2 h3 (by rw[cV];omega) h5 (fun h=>D (List.map_eq_nil_iff.1 h)) (fun i x hx=>by
      simp only[fK,aN]at hx;obtain⟨y,_,rfl⟩:=hx;exact⟨rfl,fun v m=>by simp[DV.cells]at m;subst m;rfl⟩) (fun i x j v hi z=>by
      obtain⟨_,z2⟩:=q3.get i x hi;obtain⟨u,N,a2⟩:=z2 j v z;refine⟨u,h6 _ u N,?_⟩;simp only[fK,aN]at hi;obtain⟨y,_,rfl⟩:=hi;cases j with
      |succ j=>simp[DV.cells]at z
      |zero=>
       simp[DV.cells]at z;subst z
       cases a2;exact .int _ _)
     rw[cV,<-K]at hp;exact⟨_,g',rfl,hp⟩
def KF(P:Program)(f:FuncId):Prop:=
 ∀(ad:Addr) (c k:Nat) (cs:dF) (w:World),ad.spot=none->cs.length=3->k*40<=140737488355328->(∀(j:Nat) (u:Value),cs[j]?=some u->w.cell? ⟨ad.block,ad.off+j,none⟩=some u)->(∀u,u∈cs->u.oneCell'=true)->
  Calls P f #[.slice (some ad) 1 c,.int .i64 k] w fun e w'=>pS w w' e 3 k (List.replicate k cs).flatten
theorem Cells.rep(h:Cells g w s [x] cs):∀k:Nat,Cells g w s (List.replicate k x) (List.replicate k cs).flatten
 |0=> .nil
 |k+1=>by rw[me,me,ls];exact h.append (h.rep k)
theorem qX6(hf:qK P (fid k))(hj:KF P (fid k)):jm P fid k (cB lU):=by
 refine⟨hf,fun p args v A hd h g w us O o b K=> ?_⟩;unfold cB at h;obtain⟨ds,r,h⟩:=aK.1 h;obtain⟨v',H,h⟩:=aN.1 h
 match ds,r,H with
 | [.sl t [x],.int .i64 i],r,H=>
  have l:=qy r;simp only[bF,bS]at l;subst l;obtain⟨u0,Y,rfl⟩:=NA O;have Q:=o 0 _ u0 rfl rfl;have N:=o 1 _ Y rfl rfl;cases N with
  |d _ _ N=>
  cases N;simp only[lU]at H;split at H
  case isFalse=>simp at H
  rename_i M;obtain⟨J,h3,q⟩:=M;simp only[ca]at H;subst H;simp only[kY,qj]at h;obtain⟨rfl,rfl⟩:=h;cases Q with
  |d _ _ Q=>
  obtain⟨a,c,rfl,h5,h4,G,F⟩:=wg b Q;obtain⟨m,rfl⟩:∃m:Nat,i=m:=⟨i.toNat,by omega⟩;simp only[te]at q⊢
  cases a with
  |none=>exact absurd (G rfl).1 (by simp)
  |some ad=>
   obtain⟨s,cs,S,D,n⟩:=F ad rfl;have z:Cells g w 3 [x] cs:=S.size fun y hy=>by simp only[fF]at hy;subst hy;exact IW J
   have I:=z.len;simp only[cY,kq]at I;obtain⟨n,R⟩:=n (by omega);refine(hj ad c m cs w n (by omega) q (fun j u Z=>by rw[<-addN n];exact D j u Z) z.one).mono ?_;intro e w' C;obtain⟨u,g',V,X⟩:=HA (fid:=fid) (p:=p) b (xs:=(List.replicate m x).map DV.sh) (by simp) C (z.rep m).sh;exact⟨u,g',V,by simpa using X⟩
end Go.Proofs.YtpcoohnjllclnaaGreat.VS
