/- Functions of the library that are told by what they compute. -/
import Derived.Test.YtpcoohnjllclnaaGreatEngD
import Derived.Test.YtpcoohnjllclnaaGreatNat0
import Derived.Below
set_option linter.unusedSimpArgs false
set_option linter.unusedVariables false
namespace Go.Proofs.YtpcoohnjllclnaaGreat.VS
section
open Go.RowKit (Below)
variable {P:Program} {fid:Nat->FuncId}
theorem cell_below{w w':World}{B:Nat}(h:Below B w w')(ad:Addr)(hb:ad.block<B):w'.cell? ad=w.cell? ad:=by
 unfold World.cell?;rw[h.block _ hb]
theorem Zu{p:Id}{g:Gh}{w w':World}{xs:List DV}(hc:Core fid g w [] Ids.none)(hb:Below w.heap.size w w')(l:g.row (0::p)=none){blk cap sz:Nat}{arr:Array Value}{e:TypeId}(o:w.heap.size<=blk)
 (heap:w'.heap[blk]?=some (.cells arr e (0,0))) (m:cap*sz<=arr.size) (hlen:xs.length<=cap) (F:cap<=maxLen) (t:xs≠[]) (C:∀(i:Nat) (x:DV),xs[i]?=some x->x.cells.length=sz/\∀v:DV,v∈x.cells->v.isCell=true)
 (J:∀(i:Nat) (x:DV) (j:Nat) (v:DV),xs[i]?=some x->x.cells[j]?=some v->∃u,arr[i*sz+j]?=some u/\VR g w' v u):
 ∃g',Post fid (from_ p 0) g w Ids.none ⟨.d (.sl (.own (0::p) sz) xs),Ids.add (0::p) Ids.none,[]⟩ (.slice (some ⟨blk,0,none⟩) xs.length cap) g' w':=by
 have y:g.K blk=0:=hc.K0 blk o;have n:ExtV g w' {K:=fun b=>if b=blk then xs.length*sz else g.K b,row:=fun a=>if a=0::p then some (blk,xs.length,cap,sz)else g.row a,bx:=g.bx} w':=
  ⟨fun b=>by simp only;split
             ·rename_i h;rw[h,y];exact cE _
             ·exact aU _,fun _ _=>rfl,fun a x h=>by simp only;rw[ak (fun he=>by rw[he,l]at h;simp at h)];exact h⟩
 have D:ExtV g w g w':=⟨fun _=>aU _,fun ad h=>cell_below hb ad (by
  rcases dZ ad.block w.heap.size with h1|h1
  ·exact h1
  ·rw[hc.K0 _ h1]at h;omega),fun _ _ h=>h⟩
 refine⟨{K:=fun b=>if b=blk then xs.length*sz else g.K b,row:=fun a=>if a=0::p then some (blk,xs.length,cap,sz)else g.row a,bx:=g.bx},?_,⟨fun i b h=>by obtain⟨cs,arr,e,h1,_⟩:=hc.box i b h;simp at h1,hc.inj,fun a h=> ?_,fun a a' b x x' h r _ _=> ?_,fun b h=> ?_⟩,⟨fun _ _ h=>h,fun _ _ h=> .inl h⟩,
  ⟨hb.os,hb.tape,hb.output,hb.size,D.trans n,fun b G _ _=>⟨hb.block b G,by simp only;rw[ak (by omega)]⟩,fun a h=> ?_,fun a b h r=> ?_,fun b c e z h=>⟨c,by rw[hb.block b (dD.1 h).1];exact h,rfl⟩⟩⟩
 ·refine .d _ _ (.row _ xs ⟨blk,0,none⟩ cap sz (fun k=>arr.getD k undef) (by simp) hlen F (fun k H=> ?_) (.inr (by simp)) C (fun i x j v hi hj=> ?_) (fun a s h=> ?_))
  ·have q:(⟨blk,0,none⟩:Addr).add k=⟨blk,k,none⟩:=by unfold Addr.add;split<;>simp_all
   rw[q];have:k<arr.size:=mI H (cN (fb _ hlen) m);simp[World.cell?,heap,bL,this]
  ·obtain⟨u,h1,I⟩:=J i x j v hi hj
   simp only[bL,h1,eE];exact I.mono n
  ·simp only[Tag.own.injEq]at h
   obtain⟨rfl,rfl⟩:=h;exact⟨rfl,rfl,rfl,by simp,fun h=>absurd h t⟩
 ·simp only[Ids.add,Ids.none,oN,ba]at h
  subst h;exact⟨blk,xs.length,cap,sz,arr,e,by simp,heap,m,by simp,hlen,fun i h=>by obtain⟨cs,arr,e,h1,_⟩:=hc.box i blk h;simp at h1⟩
 ·simp only[Ids.add,Ids.none,oN,ba]at h r
  rw[h,r]
 ·simp only
  rw[ak (fun he=>by
   have:=(dD.1 heap).1;omega)]
  exact hc.K0 b (cN hb.size h)
 ·simp only at h
  split at h
  ·rename_i he;exact⟨[],0,aU _,by simpa using he⟩
  ·exact absurd rfl h
 ·simp only[Ids.add,Ids.none,oN,ba]at h
  subst h;simp[Gh.blk]at r;exact .inl (by omega)
def Lx(P:Program)(f:FuncId):Prop:=
 ∀(base:Option Addr) (n c:Nat) (xs:List Int) (v:Int) (w:World),xs.length=n->n<=c->(n+1)*8<=140737488355328->c<=maxLen->(base=none->n=0/\c=0)->
  (∀ad,base=some ad->0<n->ad.spot=none/\∀(j:Nat) (x:Int),xs[j]?=some x->w.cell? ⟨ad.block,ad.off+j,none⟩=some (.int .i64 x))->
  Calls P f #[.slice base n c,.int .i64 v] w fun e w'=>∃blk cap arr ty,e= .returned (.slice (some ⟨blk,0,none⟩) (cL xs v).length cap)/\w.heap.size<=blk/\w'.heap[blk]?=some (.cells arr ty (0,0))/\
   cap<=arr.size/\(cL xs v).length<=cap/\cap<=maxLen/\(∀(j:Nat) (x:Int),(cL xs v)[j]?=some x->arr[j]?=some (.int .i64 x))/\Below w.heap.size w w'
theorem WZ{k:Nat}(hf:lI P (fid k))(hj:Lx P (fid k)):hU P fid k (de jz):=by
 refine⟨hf,fun p args v A hd h g w us W D J C=> ?_⟩;unfold de at h;obtain⟨ds,H,h⟩:=aw.1 h;obtain⟨v',q,G⟩:=au.1 h;clear h
 match ds,H,q with
 | [.sl t xs,.int .i64 m],H,q=>
  have z:=ft H;simp only[bo,cv]at z;subst z;obtain⟨O,M,rfl⟩:∃O M,us= #[O,M]:=by
   obtain⟨l⟩:=us
   match l,W with
   | [O,M],_=>exact⟨O,M,rfl⟩
  have r0:=cX (D 0 _ O rfl rfl);have r1:=ek (D 1 _ M rfl rfl);subst r1;unfold jz at q;obtain⟨l,hl,q⟩:=aw.1 q;split at q
  case isFalse=>simp at q
  rename_i hle;simp only[aB]at q;subst q;have Y:=yZ hl;subst Y;have Q:=EQ l m;have N:pg p (.sl (.own [] 0) ((cL l m).map (.int .i64)))=(.sl (.own (0::p) 1) ((cL l m).map (.int .i64)),Ids.add (0::p) Ids.none):=by
   cases hq:cL l m with
   |nil=>exact absurd hq Q
   |cons a r=>rfl
  rw[N]at G;simp only[di]at G;obtain⟨rfl,rfl⟩:=G;have main:∀(base:Option Addr) (n c:Nat),l.length=n->n<=c->c<=maxLen->(base=none->n=0/\c=0)->(∀ad,base=some ad->0<n->ad.spot=none/\∀(j:Nat) (x:Int),l[j]?=some x->w.cell? ⟨ad.block,ad.off+j,none⟩=some (.int .i64 x))->
   Calls P (fid k) #[.slice base n c,.int .i64 m] w fun e w'=>∃u g',e= .returned u/\Post fid (from_ p 0) g w Ids.none ⟨.d (.sl (.own (0::p) 1) ((cL l m).map (.int .i64))),Ids.add (0::p) Ids.none,[]⟩ u g' w':=by
   intro base n c hn hc V hnil b;refine(hj base n c l m w hn hc (by omega) V hnil b).mono ?_
   rintro e w' ⟨blk,cap,arr,ty,rfl,h1,K,h3,h4,h5,h6,h7⟩
   obtain⟨g',hp⟩:=Zu (fid:=fid) (p:=p) (xs:=(cL l m).map (.int .i64)) (sz:=1) (cap:=cap) J h7 (C [] 0 (aU _)) h1 K (by omega) (by simpa using h4) h5 (by simpa using Q) (fun i x hx=>by
    simp only[cH,au]at hx;obtain⟨y,_,rfl⟩:=hx;exact⟨rfl,fun v q=>by simp[DV.cells]at q;subst q;rfl⟩) (fun i x j v hi I=>by
    simp only[cH,au]at hi;obtain⟨y,hy,rfl⟩:=hi;cases j with
    |succ j=>simp[DV.cells]at I
    |zero=>
     simp[DV.cells]at I;subst I
     exact⟨_,by simpa using h6 i y hy,.int _ _⟩)
   rw[dK]at hp;exact⟨_,g',rfl,hp⟩
  generalize S:l.map (DV.int .i64)=xx at r0;cases r0 with
  |nil=>
   have Z:l.length=0:=by cases l with|nil=>rfl|cons _ _=>simp at S
   exact main none 0 0 Z (aU _) (cE _) (fun _=>⟨rfl,rfl⟩) (fun ad h=>by simp at h)
  |row _ _ ad c s U ht hlen hm b hK hcs hvs x1=>
   subst S;rw[dK]at hlen⊢
   refine main (some ad) l.length c rfl hlen hm (fun h=>by simp at h) (fun x3 he F=> ?_);simp only[aB]at he;subst he;have hs:s=1:=by
    have X:(l.map (DV.int .i64))[0]?=some (.int .i64 l[0]):=by simp[F]
    have:=(hcs 0 _ X).1;simpa[DV.cells]using this.symm
   subst hs;have hsp:ad.spot=none:=by
    have:=b 0 (by simpa using F);unfold World.cell? at this;simp only[Addr.add,if_true]at this;split at this
    ·split at this
     ·simp at this
     ·rename_i h1;simpa using h1
    ·simp at this
   refine⟨hsp,fun j x R=> ?_⟩;have x2:j<l.length:=(aK.1 R).1;have h1:=b j (by simpa using x2);have K:=hvs j (.int .i64 x) 0 (.int .i64 x) (by simp[R]) rfl;simp only[Nat.mul_one,oM]at K;generalize U j=y at h1 K;cases K;have:ad.add j=⟨ad.block,ad.off+j,none⟩:=by
    obtain⟨bk,o,sp⟩:=ad;simp only at hsp;subst hsp;unfold Addr.add;split<;>simp_all
   rw[<-this];exact h1
end
section
open Go.RowKit (Below)
variable {P:Program} {fid:Nat->FuncId}
theorem pP(x:DV):x.sh.cells=x.cells.map DV.sh:=by
 cases x<;>simp[DV.sh,DV.cells,jZ]
theorem DF(x:DV):x.sh.isCell=x.isCell:=by cases x<;>simp[DV.sh,DV.isCell]
theorem VR.sh{g:Gh}{w:World}{v:DV}{u:Value}(h:VR g w v u):VR g w v.sh u:=by
 induction h with
 |int k n=>simp only[DV.sh];exact .int k n
 |bool b=>simp only[DV.sh];exact .bool b
 |str s=>simp only[DV.sh];exact .str s
 |agg cs us h1 r F l=>
  simp only[DV.sh,jZ];refine .agg _ _ (by simpa using h1) (fun v d=> ?_) (fun j v u d o=> ?_)
  ·obtain⟨x,hx,rfl⟩:=bP.1 d
   rw[DF];exact r x hx
  ·rw[cH,au]at d
   obtain⟨x,hx,rfl⟩:=d;exact l j x u hx o
 |tup cs us h1 F l=>
  simp only[DV.sh,jZ];refine .tup _ _ (by simpa using h1) (fun j v u d o=> ?_);rw[cH,au]at d;obtain⟨x,hx,rfl⟩:=d;exact l j x u hx o
 |nil=>simp only[DV.sh,DV.shs,if_true];exact .nil
 |row t xs ad c s U q hlen hm e G hcs hvs p l=>
  simp only[DV.sh,jZ,ak q];have m:(xs.map DV.sh).length=xs.length:=dK _;have:=VR.row (g:=g) (w:=w) .sub (xs.map DV.sh) ad c s U (by simp) (by rw[m];exact hlen) hm (by rw[m];exact e) (by rw[m];exact G) (fun i x hx=>by
   rw[cH,au]at hx;obtain⟨y,hy,rfl⟩:=hx;obtain⟨D,C⟩:=hcs i y hy;rw[pP];refine⟨by simpa using D,fun v d=> ?_⟩;obtain⟨z,hz,rfl⟩:=bP.1 d;rw[DF];exact C z hz) (fun i x j v hx d=>by
   rw[cH,au]at hx;obtain⟨y,hy,rfl⟩:=hx;rw[pP,cH,au]at d;obtain⟨z,hz,rfl⟩:=d;exact l i y j z hy hz) (fun a sz h=>by simp at h)
  rwa[m]at this
inductive Cells(g:Gh)(w:World)(s:Nat):List DV->List Value->Prop
 |nil:Cells g w s [] []
 |cons (x:DV) (us:List Value) (xs:List DV) (cs:List Value):x.cells.length=s->us.length=s->(∀v:DV,v∈x.cells->v.isCell=true)->(∀(j:Nat) (v:DV) (u:Value),x.cells[j]?=some v->us[j]?=some u->VR g w v u)->Cells g w s xs cs->Cells g w s (x::xs) (us++cs)
section
variable {g:Gh} {w:World} {s:Nat}
theorem Cells.len{xs:List DV}{cs:List Value}(h:Cells g w s xs cs):cs.length=xs.length*s:=by
 induction h with
 |nil=>simp
 |cons x us xs cs h1 b d c e a=>simp only[dz,cB,b,a,c_];omega
theorem Cells.append{xs ys:List DV}{cs ds:List Value}(h:Cells g w s xs cs)(e:Cells g w s ys ds):Cells g w s (xs++ys) (cs++ds):=by
 induction h with
 |nil=>exact e
 |cons x us xs cs h1 c d b i a=>rw[b7];exact .cons x us _ _ h1 c d b a
theorem Cells.take{xs:List DV}{cs:List Value}(h:Cells g w s xs cs):∀k:Nat,Cells g w s (xs.take k) (cs.take (k*s)):=by
 induction h with
 |nil=>intro k;simpa using Cells.nil
 |cons x us xs cs h1 a d c i b=>
  intro k;cases k with
  |zero=>simpa using Cells.nil
  |succ k=>
   have e:(k+1)*s=us.length+k*s:=by rw[a,c_];omega
   rw[e,List.take_length_add_append,sb];exact .cons x us _ _ h1 a d c (b k)
theorem Cells.drop{xs:List DV}{cs:List Value}(h:Cells g w s xs cs):∀k:Nat,Cells g w s (xs.drop k) (cs.drop (k*s)):=by
 induction h with
 |nil=>intro k;simpa using Cells.nil
 |cons x us xs cs h1 a i c d b=>
  intro k;cases k with
  |zero=>simpa using Cells.cons x us _ _ h1 a i c d
  |succ k=>
   have e:(k+1)*s=us.length+k*s:=by rw[a,c_];omega
   rw[e,List.drop_length_add_append,List.drop_succ_cons];exact b k
theorem Cells.sh{xs:List DV}{cs:List Value}(h:Cells g w s xs cs):Cells g w s (xs.map DV.sh) cs:=by
 induction h with
 |nil=>exact .nil
 |cons x us xs cs h1 c i e k b=>
  refine .cons _ us _ _ (by rw[pP];simpa using h1) c (fun v a=> ?_) (fun j v u a d=> ?_) b
  ·rw[pP]at a
   obtain⟨z,hz,rfl⟩:=bP.1 a;rw[DF];exact i z hz
  ·rw[pP,cH,au]at a
   obtain⟨z,hz,rfl⟩:=a;exact(e j z u hz d).sh
theorem Cells.one{xs:List DV}{cs:List Value}(h:Cells g w s xs cs):∀u,u∈cs->u.oneCell'=true:=by
 induction h with
 |nil=>intro u a;simp at a
 |cons x us xs cs h1 i e d k c=>
  intro u a;rcases bl.1 a with h|h
  ·obtain⟨j,hj,rfl⟩:=jl h
   have b:x.cells[j]?=some (x.cells[j]'(by omega)):=by simp
   exact(j6 (d j _ _ b (by simp)) (e _ (bU b))).1
  ·exact c u h
theorem Cells.get{xs:List DV}{cs:List Value}(h:Cells g w s xs cs):∀(i:Nat) (x:DV),xs[i]?=some x->(x.cells.length=s/\∀v:DV,v∈x.cells->v.isCell=true)/\∀(j:Nat) (v:DV),x.cells[j]?=some v->∃u,cs[i*s+j]?=some u/\VR g w v u:=by
 induction h with
 |nil=>intro i x hx;simp at hx
 |cons x us xs cs h1 b k e o d=>
  intro i y hy;cases i with
  |zero=>
   simp only[d9,aB]at hy;subst hy;refine⟨⟨h1,k⟩,fun j v a=> ?_⟩;have hj:=(aK.1 a).1;refine⟨us[j]'(by omega),by rw[qd,eQ,bY (by omega)];simp,e j v _ a (by simp)⟩
  |succ i=>
   rw[lH]at hy;obtain⟨c,l⟩:=d i y hy;refine⟨c,fun j v a=> ?_⟩;obtain⟨u,n,m⟩:=l j v a;refine⟨u,?_,m⟩;rw[cj (by rw[b,c_];omega),b,show(i+1)*s+j-s=i*s+j by rw[c_];omega];exact n
def mU(U:Nat->Value)(s:Nat):Nat->List DV->List Value
 |_,[]=>[]
 |i,_::xs=>(List.range s).map (fun j=>U (i*s+j))++mU U s (i+1) xs
theorem GK(U:Nat->Value)(s:Nat):∀(xs:List DV) (i k:Nat),(mU U s i xs)[k]?=if k<xs.length*s then some (U (i*s+k))else none
 | [],i,k=>by simp[mU]
 |x::xs,i,k=>by
  unfold mU
  by_cases h:k<s
  ·rw[bY (by simpa using h),ap (by rw[cB,c_];omega)]
   simp[h]
  ·rw[cj (by simp;omega),GK U s xs (i+1)]
   simp only[dK,Ci,cB,c_]
   by_cases a:k-s<xs.length*s
   ·rw[ap a,ap (by omega)];congr 2;omega
   ·rw[ak a,ak (by omega)]
theorem FL(U:Nat->Value)(s:Nat):∀(xs:List DV) (i:Nat),(∀(j:Nat) (x:DV),xs[j]?=some x->x.cells.length=s/\∀v:DV,v∈x.cells->v.isCell=true)->
 (∀(k:Nat) (x:DV) (j:Nat) (v:DV),xs[k]?=some x->x.cells[j]?=some v->VR g w v (U ((i+k)*s+j)))->Cells g w s xs (mU U s i xs)
 | [],i,_,_=> .nil
 |x::xs,i,h1,b=>by
  refine .cons x _ xs _ (h1 0 x rfl).1 (by simp) (h1 0 x rfl).2 (fun j v u a c=> ?_) (FL U s xs (i+1) (fun j x hx=>h1 (j+1) x hx) (fun k x j v hx a=> ?_))
  ·rw[cH,au]at c
   obtain⟨y,hy,rfl⟩:=c;obtain⟨d,he⟩:=aK.1 hy;simp at he;subst he;exact b 0 x j v rfl a
  ·have:=b (k+1) x j v hx a
   rwa[show i+(k+1)=i+1+k by omega]at this
end
def oK(w w':World)(e:Ending)(sz n:Nat)(cs:List Value):Prop:=
 ∃blk cap arr ty,e= .returned (.slice (some ⟨blk,0,none⟩) n cap)/\w.heap.size<=blk/\w'.heap[blk]?=some (.cells arr ty (0,0))/\cap*sz<=arr.size/\n<=cap/\cap<=maxLen/\(∀(j:Nat) (u:Value),cs[j]?=some u->arr[j]?=some u)/\Below w.heap.size w w'
theorem BZ{p:Id}{g:Gh}{w w':World}{e:Ending}{sz n:Nat}{xs:List DV}{cs:List Value}(hc:Core fid g w [] Ids.none)(hn:xs.length=n)(hm:oK w w' e sz n cs)(h:Cells g w sz xs cs):
 ∃u g',e= .returned u/\Post fid (from_ p 0) g w Ids.none ⟨.d (.sl .sub xs),Ids.none,[]⟩ u g' w':=by
 subst hn;obtain⟨blk,cap,arr,e,rfl,t,heap,r,hlen,y,l,hb⟩:=hm;have C:g.K blk=0:=hc.K0 blk t;have q:ExtV g w' {K:=fun b=>if b=blk then xs.length*sz else g.K b,row:=g.row,bx:=g.bx} w':=
  ⟨fun b=>by simp only;split
             ·rename_i h;rw[h,C];exact cE _
             ·exact aU _,fun _ _=>rfl,fun a x h=>h⟩
 have o:ExtV g w g w':=⟨fun _=>aU _,fun ad h=>cell_below hb ad (by
  rcases dZ ad.block w.heap.size with h1|h1
  ·exact h1
  ·rw[hc.K0 _ h1]at h;omega),fun _ _ h=>h⟩
 refine⟨_,{K:=fun b=>if b=blk then xs.length*sz else g.K b,row:=g.row,bx:=g.bx},rfl,?_,⟨fun i b h=>by obtain⟨cs,arr,e,h1,_⟩:=hc.box i b h;simp at h1,hc.inj,fun a h=>by simp[Ids.none]at h,fun a a' b x x' h=>by simp[Ids.none]at h,fun b h=> ?_⟩,⟨fun _ _ h=>h,fun _ _ h=> .inl h⟩,
  ⟨hb.os,hb.tape,hb.output,hb.size,o.trans q,fun b D _ _=>⟨hb.block b D,by simp only;rw[ak (by omega)]⟩,fun a h=>absurd rfl h,fun a b h=>by simp[Ids.none]at h,fun b c e z h=>⟨c,by rw[hb.block b (dD.1 h).1];exact h,rfl⟩⟩⟩
 ·refine .d _ _ (.row _ xs ⟨blk,0,none⟩ cap sz (fun k=>arr.getD k undef) (by simp) hlen y (fun k F=> ?_) (.inr (by simp)) (fun i x hx=>(h.get i x hx).1) (fun i x j v hi hj=> ?_) (fun a s h=>by simp at h))
  ·have m:(⟨blk,0,none⟩:Addr).add k=⟨blk,k,none⟩:=by unfold Addr.add;split<;>simp_all
   rw[m];have:k<arr.size:=mI F (cN (fb _ hlen) r);simp[World.cell?,heap,bL,this]
  ·obtain⟨u,h1,G⟩:=(h.get i x hi).2 j v hj
   simp only[bL,l _ _ h1,eE];exact G.mono (o.trans q)
 ·simp only
  rw[ak (fun he=>by
   have:=(dD.1 heap).1;omega)]
  exact hc.K0 b (cN hb.size h)
theorem xz{g:Gh}{w:World}{t:Tag}{xs:List DV}{u:Value}(hc:Core fid g w [] Ids.none)(h:VR g w (.sl t xs) u):∃(a:Option Addr) (c:Nat),u= .slice a xs.length c/\xs.length<=c/\c<=maxLen/\(a=none->xs=[]/\c=0)/\
 ∀ad,a=some ad->∃s cs,Cells g w s xs cs/\(∀(j:Nat) (v:Value),cs[j]?=some v->w.cell? (ad.add j)=some v)/\(0<cs.length->ad.spot=none/\ad.block<w.heap.size):=by
 cases h with
 |nil=>exact⟨none,0,rfl,aU _,cE _,fun _=>⟨rfl,rfl⟩,fun ad h=>by simp at h⟩
 |row _ _ ad c s U p hlen hm b n hcs hvs d=>
  refine⟨some ad,c,rfl,hlen,hm,fun h=>by simp at h,fun o h=> ?_⟩;simp only[aB]at h;subst h;have e:Cells g w s xs (mU U s 0 xs):=FL U s xs 0 hcs (fun k x j v hx l=>by rw[eQ];exact hvs k x j v hx l);refine⟨s,mU U s 0 xs,e,fun j v hj=> ?_,fun i=> ?_⟩
  ·rw[GK]at hj
   split at hj
   ·simp only[qd,eQ,aB]at hj
    subst hj;exact b j (by assumption)
   ·simp at hj
  ·rw[e.len]at i
   refine⟨?_,?_⟩
   ·have:=b 0 i
    unfold World.cell? at this;simp only[Addr.add,if_true]at this;split at this
    ·split at this
     ·simp at this
     ·rename_i h1;simpa using h1
    ·simp at this
   ·rcases dZ ad.block w.heap.size with h1|h1
    ·exact h1
    ·have:=hc.K0 ad.block h1
     rcases n with m|m
     ·omega
     ·omega
theorem Cells.size{g:Gh}{w:World}{s s':Nat}{xs:List DV}{cs:List Value}(h:Cells g w s xs cs)(hx:∀x,x∈xs->x.cells.length=s'):Cells g w s' xs cs:=by
 induction h with
 |nil=>exact .nil
 |cons x us xs cs h1 d c b i a=>
  have e:=hx x ed;exact .cons x us xs cs e (by omega) c b (a fun y hy=>hx y (dH _ hy))
end
open Go.RowKit (Below)
variable {P:Program} {fid:Nat->FuncId}
def GW(P:Program)(f:FuncId):Prop:=
 ∀(ad:Addr) (n c i:Nat) (cs:List Value) (w:World),ad.spot=none->cs.length=n*3->i<n->n<=maxLen->n*40<=140737488355328->(∀(j:Nat) (u:Value),cs[j]?=some u->w.cell? ⟨ad.block,ad.off+j,none⟩=some u)->(∀u,u∈cs->u.oneCell'=true)->
  Calls P f #[.slice (some ad) n c,.int .i64 i] w fun e w'=>oK w w' e 3 (n-1) (cs.take (i*3)++cs.drop ((i+1)*3))
abbrev f7:=Int×Value×Value×Value
def jV(x:f7):List Value:=[.int .i64 x.1,x.2.1,x.2.2.1,x.2.2.2]
def dE(xs:List f7):List Value:=xs.flatMap jV
structure BdsAt(w:World)(base:Option Addr)(n c:Nat)(xs:List f7):Prop where
 len:xs.length=n
 cap:n<=c
 capm:c<=maxLen
 lim:(n+1)*48<=140737488355328
 nil:base=none->n=0/\c=0
 one:∀x,x∈xs->x.2.1.oneCell'=true/\x.2.2.1.oneCell'=true/\x.2.2.2.oneCell'=true
 cell:∀ad,base=some ad->0<n->ad.spot=none/\∀(j:Nat) (u:Value),(dE xs)[j]?=some u->w.cell? ⟨ad.block,ad.off+j,none⟩=some u
def fH(xs:List f7)(v:Int):Nat:=xs.findIdx fun x=>decide (x.1>v)
def ku(cs vs:List Value)(i sz:Nat):List Value:=cs.take (i*sz)++vs++cs.drop (i*sz)
def HK(P:Program)(f:FuncId):Prop:=
 ∀(base:Option Addr) (n c:Nat) (xs:List f7) (v:Int) (b a t3:Value) (w:World),BdsAt w base n c xs->b.oneCell'=true->a.oneCell'=true->t3.oneCell'=true->
  Calls P f #[.slice base n c,.int .i64 v,.agg #[b,a,t3]] w fun e w'=>oK w w' e 4 (n+1) (ku (dE xs) [.int .i64 v,b,a,t3] (fH xs v) 4)
structure RowsG(w:World)(sz:Nat)(ad:Addr)(rows:List (Nat×List Value)):Prop where
 spot:ad.spot=none
 row:∀(j:Nat) (r:Nat×List Value),rows[j]?=some r->r.2.length=r.1*sz/\(∀u,u∈r.2->u.oneCell'=true)/\
  ((r.1=0/\w.cell? ⟨ad.block,ad.off+j,none⟩=some (.slice none 0 0))\/
   ∃(a:Addr) (c':Nat),w.cell? ⟨ad.block,ad.off+j,none⟩=some (.slice (some a) r.1 c')/\∀(i:Nat) (u:Value),r.2[i]?=some u->w.cell? (a.add i)=some u)
def fF(rows:List (Nat×List Value)):Nat:=(rows.map (·.1)).sum
def kT(rows:List (Nat×List Value)):List Value:=rows.flatMap (·.2)
def Kx(P:Program)(f:FuncId)(sz a:Nat):Prop:=
 ∀(ad:Addr) (c:Nat) (rows:List (Nat×List Value)) (w:World),RowsG w sz ad rows->rows.length<=c->c<=maxLen->0<fF rows->fF rows*a<=140737488355328->
  Calls P f #[.slice (some ad) rows.length c] w fun e w'=>oK w w' e sz (fF rows) (kT rows)
theorem addN{ad:Addr}(h:ad.spot=none)(j:Nat):ad.add j=⟨ad.block,ad.off+j,none⟩:=by
 obtain⟨b,o,a⟩:=ad;simp only at h;subst h;unfold Addr.add;split<;>simp_all
theorem Xw{us:Array Value}(h:us.size=2):∃a b,us= #[a,b]:=by
 obtain⟨l⟩:=us
 match l,h with
 | [a,b],_=>exact⟨a,b,rfl⟩
theorem H0{us:Array Value}(h:us.size=3):∃b c a,us= #[b,c,a]:=by
 obtain⟨l⟩:=us
 match l,h with
 | [b,c,a],_=>exact⟨b,c,a,rfl⟩
theorem W9{us:Array Value}(h:us.size=1):∃a,us= #[a]:=by
 obtain⟨l⟩:=us
 match l,h with
 | [a],_=>exact⟨a,rfl⟩
theorem Rc{x:DV}(h:jm x=true):x.cells.length=3:=by
 unfold jm at h;split at h
 ·rfl
 ·simp at h
theorem W_{k:Nat}(Q:lI P (fid k))(hj:GW P (fid k)):hU P fid k (de jS):=by
 refine⟨Q,fun p args v A hd h g w us J o l G=> ?_⟩;unfold de at h;obtain⟨ds,C,h⟩:=aw.1 h;obtain⟨v',y,h⟩:=au.1 h
 match ds,C,y with
 | [.sl t xs,.int .i64 i],C,y=>
  have b:=ft C;simp only[bo,cv]at b;subst b;obtain⟨X,W,rfl⟩:=Xw J;have H:=o 0 _ X rfl rfl;have I:=o 1 _ W rfl rfl;cases I with
  |d _ _ I=>
  cases I;simp only[jS]at y;split at y
  case isFalse=>simp at y
  rename_i hle;obtain⟨F,Y,M,hbig⟩:=hle;simp only[aB]at y;subst y;simp only[pg,di]at h;obtain⟨rfl,rfl⟩:=h;cases H with
  |d _ _ H=>
  obtain⟨a,c,rfl,N,S,D,r⟩:=xz l H;obtain⟨m,rfl⟩:∃m:Nat,i=m:=⟨i.toNat,by omega⟩;have hm:m<xs.length:=by omega
  cases a with
  |none=>rw[(D rfl).1]at hm;simp at hm
  |some ad=>
   obtain⟨s,cs,O,q,hsp⟩:=r ad rfl;have n:Cells g w 3 xs cs:=O.size fun x hx=>Rc (bu.1 F x hx)
   have hlen:=n.len;obtain⟨hsp,K⟩:=hsp (by omega);refine(hj ad xs.length c m cs w hsp hlen hm (by unfold maxLen;omega) hbig (fun j u V=>by rw[<-addN hsp];exact q j u V) n.one).mono ?_;intro e w' z;obtain⟨u,g',h1,R⟩:=BZ (fid:=fid) (p:=p) l (xs:=(xs.take m++xs.drop (m+1)).map DV.sh) (by simp;omega) z (((n.take m).append (n.drop (m+1))).sh);exact⟨u,g',h1,by simpa using R⟩
theorem Mc{g:Gh}{w:World}:∀{xs:List DV} {vs:List Int} {cs:List Value},Cells g w 4 xs cs->ic xs=some vs->∃bs:List f7,dE bs=cs/\bs.map (·.1)=vs/\bs.length=xs.length/\∀x,x∈bs->x.2.1.oneCell'=true/\x.2.2.1.oneCell'=true/\x.2.2.2.oneCell'=true:=by
 intro xs vs cs h
 induction h generalizing vs with
 |nil=>intro d;simp[ic]at d;subst d;exact⟨[],rfl,rfl,rfl,by simp⟩
 |cons x us xs cs h1 p J e I o=>
  intro d;simp only[ic]at d;obtain⟨v,c,d⟩:=aw.1 d;obtain⟨q,i,rfl⟩:=au.1 d;obtain⟨bs,k,r,u,z⟩:=o i;unfold mG at c;split at c
  case h_2=>simp at c
  rename_i v0 a b t ks;simp only[aB]at c;subst c
  match us,p with
  | [H,j,m,l],_=>
   have G:=e 0 _ H rfl rfl;have F:=e 1 _ j rfl rfl;have D:=e 2 _ m rfl rfl;have e3:=e 3 _ l rfl rfl;have n:=(j6 F rfl).1;have C:=(j6 D rfl).1;have y:=(j6 e3 rfl).1;cases G;refine⟨((v0,j,m,l):f7)::bs,?_,?_,by simp[u],fun x hx=> ?_⟩
   ·unfold dE at k⊢;rw[ei,k];rfl
   ·simp[r]
   ·rcases br.1 hx with rfl|hx
    ·exact⟨n,C,y⟩
    ·exact z x hx
theorem Hl{x:DV}:∀{xs:List DV} {vs:List Int},ic xs=some vs->x∈xs->x.cells.length=4
 |y::ys,vs,h,hx=>by
  simp only[ic]at h;obtain⟨v,a,h⟩:=aw.1 h;obtain⟨c,b,rfl⟩:=au.1 h;rcases br.1 hx with rfl|hx
  ·unfold mG at a
   split at a
   ·rfl
   ·simp at a
  ·exact Hl b hx
theorem ZC{k:Nat}(hf:lI P (fid k))(hj:HK P (fid k)):hU P fid k (de jD):=by
 refine⟨hf,fun p args v A hd h g w us V o C N=> ?_⟩;unfold de at h;obtain⟨ds,F,h⟩:=aw.1 h;obtain⟨v',i,h⟩:=au.1 h
 match ds,F,i with
 | [.sl t xs,.int .i64 m,.agg [.int .i64 a,.int .i64 b,.sl t' ks]],F,i=>
  have r:=ft F;simp only[bo,cv]at r;subst r;obtain⟨u0,u1,u2,rfl⟩:=H0 V;have Y:=o 0 _ u0 rfl rfl;have Z:=o 1 _ u1 rfl rfl;have W:=o 2 _ u2 rfl rfl;cases Z with
  |d _ _ Z=>
  cases Z;cases W with
  |d _ _ W=>
  cases W with
  |agg _ tt S h3 G=>
  obtain⟨M,O,t3,rfl⟩:=H0 (by simpa using S);have e1:=G 0 _ M rfl rfl;have e2:=G 1 _ O rfl rfl;have e3:=G 2 _ t3 rfl rfl;simp only[jD]at i;obtain⟨vs,hvs,i⟩:=aw.1 i;split at i
  case isFalse=>simp at i
  rename_i hbig;simp only[aB]at i;subst i;simp only[pg,di]at h;obtain⟨rfl,rfl⟩:=h;cases Y with
  |d _ _ Y=>
  obtain⟨ad,c,rfl,X,R,q,H⟩:=xz C Y;have key:∃cs,Cells g w 4 xs cs/\∀l,ad=some l->0<xs.length->l.spot=none/\∀(j:Nat) (u:Value),cs[j]?=some u->w.cell? ⟨l.block,l.off+j,none⟩=some u:=by
   cases ad with
   |none=>rw[(q rfl).1];exact⟨[],.nil,fun l h=>by simp at h⟩
   |some ad=>
    obtain⟨s,cs,J,n,hsp⟩:=H ad rfl;have I:Cells g w 4 xs cs:=J.size fun x hx=>Hl hvs hx
    have hlen:=I.len;refine⟨cs,I,fun l h hp=> ?_⟩;simp only[aB]at h;subst h;obtain⟨hsp,_⟩:=hsp (by omega);exact⟨hsp,fun j u z=>by rw[<-addN hsp];exact n j u z⟩
  obtain⟨cs,J,n⟩:=key;obtain⟨bs,q1,q2,q3,q4⟩:=Mc J hvs;have hB:BdsAt w ad xs.length c bs:=
   ⟨q3,X,R,hbig,fun h=>by obtain⟨h1,Q⟩:=q h;rw[h1];exact⟨rfl,Q⟩,q4,fun l h hp=>by rw[q1];exact n l h hp⟩
  have K:fH bs m=hZ vs m:=by
   unfold fH hZ;rw[<-q2,List.findIdx_map];rfl
  refine(hj ad xs.length c bs m M O t3 w hB (j6 e1 rfl).1 (j6 e2 rfl).1 (j6 e3 rfl).1).mono ?_;intro e w' y;rw[K,q1]at y;have hx:Cells g w 4 [.agg [.int .i64 m,.int .i64 a,.int .i64 b,.sl t' ks]] [.int .i64 m,M,O,t3]:=
   .cons _ [.int .i64 m,M,O,t3] [] [] rfl rfl (fun v i=>by
    simp only[DV.cells,br,kU,lT]at i;rcases i with rfl|rfl|rfl|rfl<;>rfl) (fun j v u i z=>by
    match j,i,z with
    |0,i,z=>cases i;cases z;exact .int _ _
    |1,i,z=>cases i;cases z;exact e1
    |2,i,z=>cases i;cases z;exact e2
    |3,i,z=>cases i;cases z;exact e3) .nil
  have hle:hZ vs m<=xs.length:=by
   have:hZ vs m<=vs.length:=BR;have hl:vs.length=xs.length:=by rw[<-q2,dK,q3]
   omega
  have D:=(((J.take (hZ vs m)).append hx).append (J.drop (hZ vs m))).sh;obtain⟨u,g',h1,Q⟩:=BZ (fid:=fid) (p:=p) C (by simp;omega) y D;exact⟨u,g',h1,by simpa using Q⟩
theorem P_{g:Gh}{w:World}{sz:Nat}(hc:Core fid g w [] Ids.none):∀{rs:List DV} {l:List (List DV)} {cs:List Value},Cells g w 1 rs cs->rowsOf rs=some l->(∀x,x∈l.flatten->x.cells.length=sz)->
 ∃R:List (Nat×List Value),R.length=rs.length/\fF R=l.flatten.length/\Cells g w sz l.flatten (kT R)/\∀(j:Nat) (r:Nat×List Value),R[j]?=some r->r.2.length=r.1*sz/\(∀u,u∈r.2->u.oneCell'=true)/\
  ∃u,cs[j]?=some u/\((r.1=0/\u= .slice none 0 0)\/∃(a:Addr) (c':Nat),u= .slice (some a) r.1 c'/\∀(i:Nat) (v:Value),r.2[i]?=some v->w.cell? (a.add i)=some v):=by
 intro rs l cs h
 induction h generalizing l with
 |nil=>intro b _;simp[rowsOf]at b;subst b;exact⟨[],rfl,rfl,.nil,by simp⟩
 |cons x us xs cs h1 p S J Q o=>
  intro b hsz
  match x,us,p with
  | .sl t ys,[N],_=>
   simp only[rowsOf]at b;obtain⟨O,m,rfl⟩:=au.1 b;obtain⟨R,y,G,I,K⟩:=o m (fun x hx=>hsz x (by rw[jh];exact mF _ hx));have M:=J 0 _ N rfl rfl;obtain⟨a,c,rfl,C,F,e,k⟩:=xz hc M;have key:∃ds:List Value,Cells g w sz ys ds/\((ys.length=0/\Value.slice a ys.length c= .slice none 0 0)\/∃(a':Addr) (c':Nat),Value.slice a ys.length c= .slice (some a') ys.length c'/\∀(i:Nat) (v:Value),ds[i]?=some v->w.cell? (a'.add i)=some v):=by
    cases a with
    |none=>obtain⟨z,q⟩:=e rfl;subst z q;exact⟨[],.nil,.inl ⟨rfl,rfl⟩⟩
    |some ad=>
     obtain⟨s,ds,D,d,_⟩:=k ad rfl;exact⟨ds,D.size fun x hx=>hsz x (by rw[jh];exact kj _ hx),.inr ⟨ad,c,rfl,d⟩⟩
   obtain⟨ds,n,H⟩:=key;refine⟨(ys.length,ds)::R,by simp[y],by unfold fF at*;simp[G],by unfold kT at*;rw[jh,ei];exact n.append I,fun j r hj=> ?_⟩;cases j with
   |zero=>
    simp only[d9,aB]at hj;subst hj;exact⟨n.len,n.one,_,rfl,H⟩
   |succ j=>simpa using K j r (by simpa using hj)
  | .int _ _,_,_=>simp[rowsOf]at b
  | .bool _,_,_=>simp[rowsOf]at b
  | .str _,_,_=>simp[rowsOf]at b
  | .agg _,_,_=>simp[rowsOf]at b
  | .tup _,_,_=>simp[rowsOf]at b
theorem Lv{x:DV}:∀{rs:List DV} {l:List (List DV)},rowsOf rs=some l->x∈rs->x.cells.length=1
 | .sl _ ys::rs,l,h,hx=>by
  simp only[rowsOf]at h;obtain⟨b,a,rfl⟩:=au.1 h;rcases br.1 hx with rfl|hx
  ·rfl
  ·exact Lv a hx
theorem Oh{k sz J:Nat}(hf:lI P (fid k))(hj:Kx P (fid k) sz J):hU P fid k (de (jr sz J)):=by
 refine⟨hf,fun p args v A hd h g w us Q D b M=> ?_⟩;unfold de at h;obtain⟨ds,q,h⟩:=aw.1 h;obtain⟨v',m,h⟩:=au.1 h
 match ds,q,m with
 | [.sl t rs],q,m=>
  have i:=ft q;simp only[bo,cv]at i;subst i;obtain⟨u0,rfl⟩:=W9 Q;have V:=D 0 _ u0 rfl rfl;simp only[jr]at m;obtain⟨l,K,m⟩:=aw.1 m;split at m
  case isFalse=>simp at m
  rename_i hle;obtain⟨F,n,hbig⟩:=hle;simp only[aB]at m;subst m;simp only[pg,di]at h;obtain⟨rfl,rfl⟩:=h;cases V with
  |d _ _ V=>
  obtain⟨a,c,rfl,I,N,y,C⟩:=xz b V;have H:rs≠[]:=fun h=>by subst h;simp[rowsOf]at K;subst K;simp at n
  cases a with
  |none=>exact absurd (y rfl).1 H
  |some ad=>
   obtain⟨s,cs,hC,o,hsp⟩:=C ad rfl;have G:Cells g w 1 rs cs:=hC.size fun x hx=>Lv K hx
   have hlen:=G.len;have h3:0<rs.length:=v_.2 H;obtain⟨hsp,W⟩:=hsp (by omega);obtain⟨R,Z,O,q3,q4⟩:=P_ (sz:=sz) b G K (fun x hx=>by simpa using bu.1 F x hx);rw[<-Z]at I⊢
   refine(hj ad c R w ⟨hsp,fun j r hr=> ?_⟩ I N (by rw[O];exact n) (by rw[O];exact hbig)).mono ?_
   ·obtain⟨z1,Y,u,z3,z4⟩:=q4 j r hr
    have S:=o j u z3;rw[addN hsp]at S;refine⟨z1,Y,?_⟩;rcases z4 with⟨z4,rfl⟩|⟨a',c',rfl,z4⟩
    ·exact .inl ⟨z4,S⟩
    ·exact .inr ⟨a',c',S,z4⟩
   ·intro e w' z
    obtain⟨u,g',h1,X⟩:=BZ (fid:=fid) (p:=p) b (xs:=l.flatten.map DV.sh) (by rw[dK,O]) z q3.sh;exact⟨u,g',h1,X⟩
end Go.Proofs.YtpcoohnjllclnaaGreat.VS
