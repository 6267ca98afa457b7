/- Functions of the library that are told by what they compute. -/
import Derived.Test.YtbcbkiaineacpaaGreatEngD
import Derived.Test.YtbcbkiaineacpaaGreatNat0
import Derived.Below
set_option linter.unusedSimpArgs false
set_option linter.unusedVariables false
namespace Go.Proofs.YtbcbkiaineacpaaGreat.VS
open Go.RowKit (Below)
variable {P:Program} {fid:Nat->FuncId}
theorem cell_below{w w':World}{B:Nat}(h:Below B w w')(ad:Addr)(hb:ad.block<B):w'.cell? ad=w.cell? ad:=by
 unfold World.cell?;rw[h.block _ hb]
end Go.Proofs.YtbcbkiaineacpaaGreat.VS
namespace Go.Proofs.YtbcbkiaineacpaaGreat.VS
open Go.RowKit (Below)
variable {P:Program} {fid:Nat->FuncId}
theorem qhe(x:DV):x.sh.cells=x.cells.map DV.sh:=by
 cases x<;>simp[DV.sh,DV.cells,qe2]
theorem qkc(x:DV):x.sh.isCell=x.isCell:=by cases x<;>simp[DV.sh,DV.isCell]
theorem VR.sh{g:Gh}{w:World}{v:DV}{u:Value}(h:VR g w v u):VR g w v.sh u:=by
 induction h with
 |int k n=>simp only[DV.sh];exact .int k n
 |bool b=>simp only[DV.sh];exact .bool b
 |str s=>simp only[DV.sh];exact .str s
 |agg cs us h1 h2 h3 ih=>
  simp only[DV.sh,qe2];refine .agg _ _ (by simpa using h1) (fun v hv=> ?_) (fun j v u hv hu=> ?_)
  ·obtain⟨x,hx,rfl⟩:=List.mem_map.1 hv
   rw[qkc];exact h2 x hx
  ·rw[List.getElem?_map,ya_]at hv
   obtain⟨x,hx,rfl⟩:=hv;exact ih j x u hx hu
 |tup cs us h1 h3 ih=>
  simp only[DV.sh,qe2];refine .tup _ _ (by simpa using h1) (fun j v u hv hu=> ?_);rw[List.getElem?_map,ya_]at hv;obtain⟨x,hx,rfl⟩:=hv;exact ih j x u hx hu
 |nil=>simp only[DV.sh,DV.shs,if_true];exact .nil
 |row t xs ad c s U ht hlen hm hcell hK hcs hvs hown ih=>
  simp only[DV.sh,qe2,if_neg ht];have hl:(xs.map DV.sh).length=xs.length:=List.length_map _;have:=VR.row (g:=g) (w:=w) .sub (xs.map DV.sh) ad c s U (by simp) (by rw[hl];exact hlen) hm (by rw[hl];exact hcell) (by rw[hl];exact hK) (fun i x hx=>by
   rw[List.getElem?_map,ya_]at hx;obtain⟨y,hy,rfl⟩:=hx;obtain⟨q1,q2⟩:=hcs i y hy;rw[qhe];refine⟨by simpa using q1,fun v hv=> ?_⟩;obtain⟨z,hz,rfl⟩:=List.mem_map.1 hv;rw[qkc];exact q2 z hz) (fun i x j v hx hv=>by
   rw[List.getElem?_map,ya_]at hx;obtain⟨y,hy,rfl⟩:=hx;rw[qhe,List.getElem?_map,ya_]at hv;obtain⟨z,hz,rfl⟩:=hv;exact ih i y j z hy hz) (fun a sz h=>by simp at h)
  rwa[hl]at this
inductive Cells(g:Gh)(w:World)(s:Nat):List DV->List Value->Prop
 |nil:Cells g w s [] []
 |cons (x:DV) (us:List Value) (xs:List DV) (cs:List Value):x.cells.length=s->us.length=s->(∀v:DV,v∈x.cells->v.isCell=true)->(∀(j:Nat) (v:DV) (u:Value),x.cells[j]?=some v->us[j]?=some u->VR g w v u)->Cells g w s xs cs->Cells g w s (x::xs) (us++cs)
section
variable {g:Gh} {w:World} {s:Nat}
theorem Cells.len{xs:List DV}{cs:List Value}(h:Cells g w s xs cs):cs.length=xs.length*s:=by
 induction h with
 |nil=>simp
 |cons x us xs cs h1 h2 h3 h4 h5 ih=>simp only[yg_,List.length_cons,h2,ih,Nat.add_mul];omega
theorem Cells.append{xs ys:List DV}{cs ds:List Value}(h:Cells g w s xs cs)(h':Cells g w s ys ds):Cells g w s (xs++ys) (cs++ds):=by
 induction h with
 |nil=>exact h'
 |cons x us xs cs h1 h2 h3 h4 h5 ih=>rw[yh_];exact .cons x us _ _ h1 h2 h3 h4 ih
theorem Cells.take{xs:List DV}{cs:List Value}(h:Cells g w s xs cs):∀k:Nat,Cells g w s (xs.take k) (cs.take (k*s)):=by
 induction h with
 |nil=>intro k;simpa using Cells.nil
 |cons x us xs cs h1 h2 h3 h4 h5 ih=>
  intro k;cases k with
  |zero=>simpa using Cells.nil
  |succ k=>
   have e:(k+1)*s=us.length+k*s:=by rw[h2,Nat.add_mul];omega
   rw[e,List.take_length_add_append,List.take_succ_cons];exact .cons x us _ _ h1 h2 h3 h4 (ih k)
theorem Cells.drop{xs:List DV}{cs:List Value}(h:Cells g w s xs cs):∀k:Nat,Cells g w s (xs.drop k) (cs.drop (k*s)):=by
 induction h with
 |nil=>intro k;simpa using Cells.nil
 |cons x us xs cs h1 h2 h3 h4 h5 ih=>
  intro k;cases k with
  |zero=>simpa using Cells.cons x us _ _ h1 h2 h3 h4 h5
  |succ k=>
   have e:(k+1)*s=us.length+k*s:=by rw[h2,Nat.add_mul];omega
   rw[e,List.drop_length_add_append,List.drop_succ_cons];exact ih k
theorem Cells.sh{xs:List DV}{cs:List Value}(h:Cells g w s xs cs):Cells g w s (xs.map DV.sh) cs:=by
 induction h with
 |nil=>exact .nil
 |cons x us xs cs h1 h2 h3 h4 h5 ih=>
  refine .cons _ us _ _ (by rw[qhe];simpa using h1) h2 (fun v hv=> ?_) (fun j v u hv hu=> ?_) ih
  ·rw[qhe]at hv
   obtain⟨z,hz,rfl⟩:=List.mem_map.1 hv;rw[qkc];exact h3 z hz
  ·rw[qhe,List.getElem?_map,ya_]at hv
   obtain⟨z,hz,rfl⟩:=hv;exact(h4 j z u hz hu).sh
theorem Cells.one{xs:List DV}{cs:List Value}(h:Cells g w s xs cs):∀u,u∈cs->u.oneCell'=true:=by
 induction h with
 |nil=>intro u hu;simp at hu
 |cons x us xs cs h1 h2 h3 h4 h5 ih=>
  intro u hu;rcases List.mem_append.1 hu with h|h
  ·obtain⟨j,hj,rfl⟩:=List.getElem_of_mem h
   have hv:x.cells[j]?=some (x.cells[j]'(by omega)):=by simp
   exact(qeY (h4 j _ _ hv (by simp)) (h3 _ (List.mem_of_getElem? hv))).1
  ·exact ih u h
theorem Cells.get{xs:List DV}{cs:List Value}(h:Cells g w s xs cs):∀(i:Nat) (x:DV),xs[i]?=some x->(x.cells.length=s/\∀v:DV,v∈x.cells->v.isCell=true)/\∀(j:Nat) (v:DV),x.cells[j]?=some v->∃u,cs[i*s+j]?=some u/\VR g w v u:=by
 induction h with
 |nil=>intro i x hx;simp at hx
 |cons x us xs cs h1 h2 h3 h4 h5 ih=>
  intro i y hy;cases i with
  |zero=>
   simp only[List.getElem?_cons_zero,Option.some.injEq]at hy;subst hy;refine⟨⟨h1,h3⟩,fun j v hv=> ?_⟩;have hj:=(List.getElem?_eq_some_iff.1 hv).1;refine⟨us[j]'(by omega),by rw[Nat.zero_mul,Nat.zero_add,ye_ (by omega)];simp,h4 j v _ hv (by simp)⟩
  |succ i=>
   rw[List.getElem?_cons_succ]at hy;obtain⟨q1,q2⟩:=ih i y hy;refine⟨q1,fun j v hv=> ?_⟩;obtain⟨u,u1,u2⟩:=q2 j v hv;refine⟨u,?_,u2⟩;rw[yd_ (by rw[h2,Nat.add_mul];omega),h2,show(i+1)*s+j-s=i*s+j by rw[Nat.add_mul];omega];exact u1
def qg2(U:Nat->Value)(s:Nat):Nat->List DV->List Value
 |_,[]=>[]
 |i,_::xs=>(List.range s).map (fun j=>U (i*s+j))++qg2 U s (i+1) xs
theorem qlO(U:Nat->Value)(s:Nat):∀(xs:List DV) (i k:Nat),(qg2 U s i xs)[k]?=if k<xs.length*s then some (U (i*s+k))else none
 | [],i,k=>by simp[qg2]
 |x::xs,i,k=>by
  unfold qg2
  by_cases h:k<s
  ·rw[ye_ (by simpa using h),if_pos (by rw[List.length_cons,Nat.add_mul];omega)]
   simp[h]
  ·rw[yd_ (by simp;omega),qlO U s xs (i+1)]
   simp only[List.length_map,List.length_range,List.length_cons,Nat.add_mul]
   by_cases h2:k-s<xs.length*s
   ·rw[if_pos h2,if_pos (by omega)];congr 2;omega
   ·rw[if_neg h2,if_neg (by omega)]
theorem qrx(U:Nat->Value)(s:Nat):∀(xs:List DV) (i:Nat),(∀(j:Nat) (x:DV),xs[j]?=some x->x.cells.length=s/\∀v:DV,v∈x.cells->v.isCell=true)->
 (∀(k:Nat) (x:DV) (j:Nat) (v:DV),xs[k]?=some x->x.cells[j]?=some v->VR g w v (U ((i+k)*s+j)))->Cells g w s xs (qg2 U s i xs)
 | [],i,_,_=> .nil
 |x::xs,i,h1,h2=>by
  refine .cons x _ xs _ (h1 0 x rfl).1 (by simp) (h1 0 x rfl).2 (fun j v u hv hu=> ?_) (qrx U s xs (i+1) (fun j x hx=>h1 (j+1) x hx) (fun k x j v hx hv=> ?_))
  ·rw[List.getElem?_map,ya_]at hu
   obtain⟨y,hy,rfl⟩:=hu;obtain⟨hlt,he⟩:=List.getElem?_eq_some_iff.1 hy;simp at he;subst he;exact h2 0 x j v rfl hv
  ·have:=h2 (k+1) x j v hx hv
   rwa[show i+(k+1)=i+1+k by omega]at this
end
def qiW(w w':World)(e:Ending)(sz n:Nat)(cs:List Value):Prop:=
 ∃blk cap arr ty,e= .returned (.slice (some ⟨blk,0,none⟩) n cap)/\w.heap.size<=blk/\w'.heap[blk]?=some (.cells arr ty (0,0))/\cap*sz<=arr.size/\n<=cap/\cap<=maxLen/\(∀(j:Nat) (u:Value),cs[j]?=some u->arr[j]?=some u)/\Below w.heap.size w w'
theorem qot{p:Id}{g:Gh}{w w':World}{e:Ending}{sz n:Nat}{xs:List DV}{cs:List Value}(hc:Core fid g w [] Ids.none)(hn:xs.length=n)(hm:qiW w w' e sz n cs)(h:Cells g w sz xs cs):
 ∃u g',e= .returned u/\Post fid (from_ p 0) g w Ids.none ⟨.d (.sl .sub xs),Ids.none,[]⟩ u g' w':=by
 subst hn;obtain⟨blk,cap,arr,e,rfl,hblk,heap,harr,hlen,hcm,hcells,hb⟩:=hm;have hK0:g.K blk=0:=hc.K0 blk hblk;have hE1:ExtV g w' {K:=fun b=>if b=blk then xs.length*sz else g.K b,row:=g.row,bx:=g.bx} w':=
  ⟨fun b=>by simp only;split
             ·rename_i h;rw[h,hK0];exact Nat.zero_le _
             ·exact Nat.le_refl _,fun _ _=>rfl,fun a x h=>h⟩
 have hE0:ExtV g w g w':=⟨fun _=>Nat.le_refl _,fun ad h=>cell_below hb ad (by
  rcases Nat.lt_or_ge ad.block w.heap.size with h1|h1
  ·exact h1
  ·rw[hc.K0 _ h1]at h;omega),fun _ _ h=>h⟩
 refine⟨_,{K:=fun b=>if b=blk then xs.length*sz else g.K b,row:=g.row,bx:=g.bx},rfl,?_,⟨fun i b h=>by obtain⟨cs,arr,e,h1,_⟩:=hc.box i b h;simp at h1,hc.inj,fun a h=>by simp[Ids.none]at h,fun a a' b x x' h=>by simp[Ids.none]at h,fun b h=> ?_⟩,⟨fun _ _ h=>h,fun _ _ h=> .inl h⟩,
  ⟨hb.os,hb.tape,hb.output,hb.size,hE0.trans hE1,fun b hlt _ _=>⟨hb.block b hlt,by simp only;rw[if_neg (by omega)]⟩,fun a h=>absurd rfl h,fun a b h=>by simp[Ids.none]at h,fun b c e z h=>⟨c,by rw[hb.block b (Array.getElem?_eq_some_iff.1 h).1];exact h,rfl⟩⟩⟩
 ·refine .d _ _ (.row _ xs ⟨blk,0,none⟩ cap sz (fun k=>arr.getD k undef) (by simp) hlen hcm (fun k hk=> ?_) (.inr (by simp)) (fun i x hx=>(h.get i x hx).1) (fun i x j v hi hj=> ?_) (fun a s h=>by simp at h))
  ·have hadd:(⟨blk,0,none⟩:Addr).add k=⟨blk,k,none⟩:=by unfold Addr.add;split<;>simp_all
   rw[hadd];have:k<arr.size:=Nat.lt_of_lt_of_le hk (Nat.le_trans (Nat.mul_le_mul_right _ hlen) harr);simp[World.cell?,heap,yf_,this]
  ·obtain⟨u,h1,h2⟩:=(h.get i x hi).2 j v hj
   simp only[yf_,hcells _ _ h1,Option.getD_some];exact h2.mono (hE0.trans hE1)
 ·simp only
  rw[if_neg (fun he=>by
   have:=(Array.getElem?_eq_some_iff.1 heap).1;omega)]
  exact hc.K0 b (Nat.le_trans hb.size h)
theorem qhf{g:Gh}{w:World}{t:Tag}{xs:List DV}{u:Value}(hc:Core fid g w [] Ids.none)(h:VR g w (.sl t xs) u):∃(a:Option Addr) (c:Nat),u= .slice a xs.length c/\xs.length<=c/\c<=maxLen/\(a=none->xs=[]/\c=0)/\
 ∀ad,a=some ad->∃s cs,Cells g w s xs cs/\(∀(j:Nat) (v:Value),cs[j]?=some v->w.cell? (ad.add j)=some v)/\(0<cs.length->ad.spot=none/\ad.block<w.heap.size):=by
 cases h with
 |nil=>exact⟨none,0,rfl,Nat.le_refl _,Nat.zero_le _,fun _=>⟨rfl,rfl⟩,fun ad h=>by simp at h⟩
 |row _ _ ad c s U ht hlen hm hcell hK hcs hvs hown=>
  refine⟨some ad,c,rfl,hlen,hm,fun h=>by simp at h,fun ad' h=> ?_⟩;simp only[Option.some.injEq]at h;subst h;have hC:Cells g w s xs (qg2 U s 0 xs):=qrx U s xs 0 hcs (fun k x j v hx hv=>by rw[Nat.zero_add];exact hvs k x j v hx hv);refine⟨s,qg2 U s 0 xs,hC,fun j v hj=> ?_,fun hp=> ?_⟩
  ·rw[qlO]at hj
   split at hj
   ·simp only[Nat.zero_mul,Nat.zero_add,Option.some.injEq]at hj
    subst hj;exact hcell j (by assumption)
   ·simp at hj
  ·rw[hC.len]at hp
   refine⟨?_,?_⟩
   ·have:=hcell 0 hp
    unfold World.cell? at this;simp only[Addr.add,if_true]at this;split at this
    ·split at this
     ·simp at this
     ·rename_i h1;simpa using h1
    ·simp at this
   ·rcases Nat.lt_or_ge ad.block w.heap.size with h1|h1
    ·exact h1
    ·have:=hc.K0 ad.block h1
     rcases hK with h2|h2
     ·omega
     ·omega
theorem Cells.size{g:Gh}{w:World}{s s':Nat}{xs:List DV}{cs:List Value}(h:Cells g w s xs cs)(hx:∀x,x∈xs->x.cells.length=s'):Cells g w s' xs cs:=by
 induction h with
 |nil=>exact .nil
 |cons x us xs cs h1 h2 h3 h4 h5 ih=>
  have e:=hx x List.mem_cons_self;exact .cons x us xs cs e (by omega) h3 h4 (ih fun y hy=>hx y (List.mem_cons_of_mem _ hy))
end Go.Proofs.YtbcbkiaineacpaaGreat.VS
namespace Go.Proofs.YtbcbkiaineacpaaGreat.VS
open Go.RowKit (Below)
variable {P:Program} {fid:Nat->FuncId}
def ql8(P:Program)(f:FuncId):Prop:=
 ∀(ad:Addr) (n c i:Nat) (cs:List Value) (w:World),ad.spot=none->cs.length=n*3->i<n->n<=maxLen->n*40<=140737488355328->(∀(j:Nat) (u:Value),cs[j]?=some u->w.cell? ⟨ad.block,ad.off+j,none⟩=some u)->(∀u,u∈cs->u.oneCell'=true)->
  Calls P f #[.slice (some ad) n c,.int .i64 i] w fun e w'=>qiW w w' e 3 (n-1) (cs.take (i*3)++cs.drop ((i+1)*3))
abbrev BdV:=Int×Value×Value×Value
def qfz(x:BdV):List Value:=[.int .i64 x.1,x.2.1,x.2.2.1,x.2.2.2]
def qjF(xs:List BdV):List Value:=xs.flatMap qfz
structure BdsAt(w:World)(base:Option Addr)(n c:Nat)(xs:List BdV):Prop where
 len:xs.length=n
 cap:n<=c
 capm:c<=maxLen
 lim:(n+1)*48<=140737488355328
 nil:base=none->n=0/\c=0
 one:∀x,x∈xs->x.2.1.oneCell'=true/\x.2.2.1.oneCell'=true/\x.2.2.2.oneCell'=true
 cell:∀ad,base=some ad->0<n->ad.spot=none/\∀(j:Nat) (u:Value),(qjF xs)[j]?=some u->w.cell? ⟨ad.block,ad.off+j,none⟩=some u
def qto(xs:List BdV)(v:Int):Nat:=xs.findIdx fun x=>decide (x.1>v)
def qIH(cs vs:List Value)(i sz:Nat):List Value:=cs.take (i*sz)++vs++cs.drop (i*sz)
def qGc(P:Program)(f:FuncId):Prop:=
 ∀(base:Option Addr) (n c:Nat) (xs:List BdV) (v:Int) (t1 t2 t3:Value) (w:World),BdsAt w base n c xs->t1.oneCell'=true->t2.oneCell'=true->t3.oneCell'=true->
  Calls P f #[.slice base n c,.int .i64 v,.agg #[t1,t2,t3]] w fun e w'=>qiW w w' e 4 (n+1) (qIH (qjF xs) [.int .i64 v,t1,t2,t3] (qto xs v) 4)
structure RowsG(w:World)(sz:Nat)(ad:Addr)(rows:List (Nat×List Value)):Prop where
 spot:ad.spot=none
 row:∀(j:Nat) (r:Nat×List Value),rows[j]?=some r->r.2.length=r.1*sz/\(∀u,u∈r.2->u.oneCell'=true)/\
  ((r.1=0/\w.cell? ⟨ad.block,ad.off+j,none⟩=some (.slice none 0 0))\/
   ∃(a:Addr) (c':Nat),w.cell? ⟨ad.block,ad.off+j,none⟩=some (.slice (some a) r.1 c')/\∀(i:Nat) (u:Value),r.2[i]?=some u->w.cell? (a.add i)=some u)
def qgN(rows:List (Nat×List Value)):Nat:=(rows.map (·.1)).sum
def qpQ(rows:List (Nat×List Value)):List Value:=rows.flatMap (·.2)
def qxR(P:Program)(f:FuncId)(sz by_:Nat):Prop:=
 ∀(ad:Addr) (c:Nat) (rows:List (Nat×List Value)) (w:World),RowsG w sz ad rows->rows.length<=c->c<=maxLen->0<qgN rows->qgN rows*by_<=140737488355328->
  Calls P f #[.slice (some ad) rows.length c] w fun e w'=>qiW w w' e sz (qgN rows) (qpQ rows)
theorem addN{ad:Addr}(h:ad.spot=none)(j:Nat):ad.add j=⟨ad.block,ad.off+j,none⟩:=by
 obtain⟨b,o,sp⟩:=ad;simp only at h;subst h;unfold Addr.add;split<;>simp_all
theorem qQF{us:Array Value}(h:us.size=2):∃u0 u1,us= #[u0,u1]:=by
 obtain⟨l⟩:=us
 match l,h with
 | [u0,u1],_=>exact⟨u0,u1,rfl⟩
theorem qJD{us:Array Value}(h:us.size=3):∃u0 u1 u2,us= #[u0,u1,u2]:=by
 obtain⟨l⟩:=us
 match l,h with
 | [u0,u1,u2],_=>exact⟨u0,u1,u2,rfl⟩
theorem qQG{us:Array Value}(h:us.size=1):∃u0,us= #[u0]:=by
 obtain⟨l⟩:=us
 match l,h with
 | [u0],_=>exact⟨u0,rfl⟩
theorem qoK{x:DV}(h:qet x=true):x.cells.length=3:=by
 unfold qet at h;split at h
 ·rfl
 ·simp at h
theorem qx5{k:Nat}(hf:quv P (fid k))(hj:ql8 P (fid k)):qmn P fid k (qme qdg):=by
 refine⟨hf,fun p args v A hd h g w us hus hrel hcore hfresh=> ?_⟩;unfold qme at h;obtain⟨ds,hds,h⟩:=yb_.1 h;obtain⟨v',hv,h⟩:=ya_.1 h
 match ds,hds,hv with
 | [.sl t xs,.int .i64 i],hds,hv=>
  have hargs:=qbz hds;simp only[List.map_cons,List.map_nil]at hargs;subst hargs;obtain⟨u0,u1,rfl⟩:=qQF hus;have r0:=hrel 0 _ u0 rfl rfl;have r1:=hrel 1 _ u1 rfl rfl;cases r1 with
  |d _ _ r1=>
  cases r1;simp only[qdg]at hv;split at hv
  case isFalse=>simp at hv
  rename_i hle;obtain⟨hall,hi0,hil,hbig⟩:=hle;simp only[Option.some.injEq]at hv;subst hv;simp only[qVx,Prod.mk.injEq]at h;obtain⟨rfl,rfl⟩:=h;cases r0 with
  |d _ _ r0=>
  obtain⟨a,c,rfl,hlc,hcm,hnone,hsome⟩:=qhf hcore r0;obtain⟨m,rfl⟩:∃m:Nat,i=m:=⟨i.toNat,by omega⟩;have hm:m<xs.length:=by omega
  cases a with
  |none=>rw[(hnone rfl).1]at hm;simp at hm
  |some ad=>
   obtain⟨s,cs,hC,hcell,hsp⟩:=hsome ad rfl;have hC3:Cells g w 3 xs cs:=hC.size fun x hx=>qoK (List.all_eq_true.1 hall x hx)
   have hlen:=hC3.len;obtain⟨hsp,hblk⟩:=hsp (by omega);refine(hj ad xs.length c m cs w hsp hlen hm (by unfold maxLen;omega) hbig (fun j u hu=>by rw[<-addN hsp];exact hcell j u hu) hC3.one).mono ?_;intro e w' hmade;obtain⟨u,g',h1,h2⟩:=qot (fid:=fid) (p:=p) hcore (xs:=(xs.take m++xs.drop (m+1)).map DV.sh) (by simp;omega) hmade (((hC3.take m).append (hC3.drop (m+1))).sh);exact⟨u,g',h1,by simpa using h2⟩
theorem qFT{g:Gh}{w:World}:∀{xs:List DV} {vs:List Int} {cs:List Value},Cells g w 4 xs cs->qjE xs=some vs->∃bs:List BdV,qjF bs=cs/\bs.map (·.1)=vs/\bs.length=xs.length/\∀x,x∈bs->x.2.1.oneCell'=true/\x.2.2.1.oneCell'=true/\x.2.2.2.oneCell'=true:=by
 intro xs vs cs h
 induction h generalizing vs with
 |nil=>intro hv;simp[qjE]at hv;subst hv;exact⟨[],rfl,rfl,rfl,by simp⟩
 |cons x us xs cs h1 h2 h3 h4 h5 ih=>
  intro hv;simp only[qjE]at hv;obtain⟨v,hv1,hv⟩:=yb_.1 hv;obtain⟨vs',hv2,rfl⟩:=ya_.1 hv;obtain⟨bs,q1,q2,q3,q4⟩:=ih hv2;unfold qPF at hv1;split at hv1
  case h_2=>simp at hv1
  rename_i v0 a b t ks;simp only[Option.some.injEq]at hv1;subst hv1
  match us,h2 with
  | [u0,u1,u2,u3],_=>
   have e0:=h4 0 _ u0 rfl rfl;have e1:=h4 1 _ u1 rfl rfl;have e2:=h4 2 _ u2 rfl rfl;have e3:=h4 3 _ u3 rfl rfl;have o1:=(qeY e1 rfl).1;have o2:=(qeY e2 rfl).1;have o3:=(qeY e3 rfl).1;cases e0;refine⟨((v0,u1,u2,u3):BdV)::bs,?_,?_,by simp[q3],fun x hx=> ?_⟩
   ·unfold qjF at q1⊢;rw[List.flatMap_cons,q1];rfl
   ·simp[q2]
   ·rcases List.mem_cons.1 hx with rfl|hx
    ·exact⟨o1,o2,o3⟩
    ·exact q4 x hx
theorem qlU{x:DV}:∀{xs:List DV} {vs:List Int},qjE xs=some vs->x∈xs->x.cells.length=4
 |y::ys,vs,h,hx=>by
  simp only[qjE]at h;obtain⟨v,hv1,h⟩:=yb_.1 h;obtain⟨vs',hv2,rfl⟩:=ya_.1 h;rcases List.mem_cons.1 hx with rfl|hx
  ·unfold qPF at hv1
   split at hv1
   ·rfl
   ·simp at hv1
  ·exact qlU hv2 hx
theorem qS5{k:Nat}(hf:quv P (fid k))(hj:qGc P (fid k)):qmn P fid k (qme qGj):=by
 refine⟨hf,fun p args v A hd h g w us hus hrel hcore hfresh=> ?_⟩;unfold qme at h;obtain⟨ds,hds,h⟩:=yb_.1 h;obtain⟨v',hv,h⟩:=ya_.1 h
 match ds,hds,hv with
 | [.sl t xs,.int .i64 m,.agg [.int .i64 a,.int .i64 b,.sl t' ks]],hds,hv=>
  have hargs:=qbz hds;simp only[List.map_cons,List.map_nil]at hargs;subst hargs;obtain⟨u0,u1,u2,rfl⟩:=qJD hus;have r0:=hrel 0 _ u0 rfl rfl;have r1:=hrel 1 _ u1 rfl rfl;have r2:=hrel 2 _ u2 rfl rfl;cases r1 with
  |d _ _ r1=>
  cases r1;cases r2 with
  |d _ _ r2=>
  cases r2 with
  |agg _ tt hts htc htv=>
  obtain⟨t1,t2,t3,rfl⟩:=qJD (by simpa using hts);have e1:=htv 0 _ t1 rfl rfl;have e2:=htv 1 _ t2 rfl rfl;have e3:=htv 2 _ t3 rfl rfl;simp only[qGj]at hv;obtain⟨vs,hvs,hv⟩:=yb_.1 hv;split at hv
  case isFalse=>simp at hv
  rename_i hbig;simp only[Option.some.injEq]at hv;subst hv;simp only[qVx,Prod.mk.injEq]at h;obtain⟨rfl,rfl⟩:=h;cases r0 with
  |d _ _ r0=>
  obtain⟨ad,c,rfl,hlc,hcm,hnone,hsome⟩:=qhf hcore r0;have key:∃cs,Cells g w 4 xs cs/\∀ad',ad=some ad'->0<xs.length->ad'.spot=none/\∀(j:Nat) (u:Value),cs[j]?=some u->w.cell? ⟨ad'.block,ad'.off+j,none⟩=some u:=by
   cases ad with
   |none=>rw[(hnone rfl).1];exact⟨[],.nil,fun ad' h=>by simp at h⟩
   |some ad=>
    obtain⟨s,cs,hC,hcell,hsp⟩:=hsome ad rfl;have hC4:Cells g w 4 xs cs:=hC.size fun x hx=>qlU hvs hx
    have hlen:=hC4.len;refine⟨cs,hC4,fun ad' h hp=> ?_⟩;simp only[Option.some.injEq]at h;subst h;obtain⟨hsp,_⟩:=hsp (by omega);exact⟨hsp,fun j u hu=>by rw[<-addN hsp];exact hcell j u hu⟩
  obtain⟨cs,hC,hcell⟩:=key;obtain⟨bs,q1,q2,q3,q4⟩:=qFT hC hvs;have hB:BdsAt w ad xs.length c bs:=
   ⟨q3,hlc,hcm,hbig,fun h=>by obtain⟨h1,h2⟩:=hnone h;rw[h1];exact⟨rfl,h2⟩,q4,fun ad' h hp=>by rw[q1];exact hcell ad' h hp⟩
  have hpos:qto bs m=qzZ vs m:=by
   unfold qto qzZ;rw[<-q2,List.findIdx_map];rfl
  refine(hj ad xs.length c bs m t1 t2 t3 w hB (qeY e1 rfl).1 (qeY e2 rfl).1 (qeY e3 rfl).1).mono ?_;intro e w' hmade;rw[hpos,q1]at hmade;have hx:Cells g w 4 [.agg [.int .i64 m,.int .i64 a,.int .i64 b,.sl t' ks]] [.int .i64 m,t1,t2,t3]:=
   .cons _ [.int .i64 m,t1,t2,t3] [] [] rfl rfl (fun v hv=>by
    simp only[DV.cells,List.mem_cons,List.not_mem_nil,or_false]at hv;rcases hv with rfl|rfl|rfl|rfl<;>rfl) (fun j v u hv hu=>by
    match j,hv,hu with
    |0,hv,hu=>cases hv;cases hu;exact .int _ _
    |1,hv,hu=>cases hv;cases hu;exact e1
    |2,hv,hu=>cases hv;cases hu;exact e2
    |3,hv,hu=>cases hv;cases hu;exact e3) .nil
  have hle:qzZ vs m<=xs.length:=by
   have:qzZ vs m<=vs.length:=List.findIdx_le_length;have hl:vs.length=xs.length:=by rw[<-q2,List.length_map,q3]
   omega
  have hCells:=(((hC.take (qzZ vs m)).append hx).append (hC.drop (qzZ vs m))).sh;obtain⟨u,g',h1,h2⟩:=qot (fid:=fid) (p:=p) hcore (by simp;omega) hmade hCells;exact⟨u,g',h1,by simpa using h2⟩
theorem qyl{g:Gh}{w:World}{sz:Nat}(hc:Core fid g w [] Ids.none):∀{rs:List DV} {l:List (List DV)} {cs:List Value},Cells g w 1 rs cs->rowsOf rs=some l->(∀x,x∈l.flatten->x.cells.length=sz)->
 ∃R:List (Nat×List Value),R.length=rs.length/\qgN R=l.flatten.length/\Cells g w sz l.flatten (qpQ R)/\∀(j:Nat) (r:Nat×List Value),R[j]?=some r->r.2.length=r.1*sz/\(∀u,u∈r.2->u.oneCell'=true)/\
  ∃u,cs[j]?=some u/\((r.1=0/\u= .slice none 0 0)\/∃(a:Addr) (c':Nat),u= .slice (some a) r.1 c'/\∀(i:Nat) (v:Value),r.2[i]?=some v->w.cell? (a.add i)=some v):=by
 intro rs l cs h
 induction h generalizing l with
 |nil=>intro hv _;simp[rowsOf]at hv;subst hv;exact⟨[],rfl,rfl,.nil,by simp⟩
 |cons x us xs cs h1 h2 h3 h4 h5 ih=>
  intro hv hsz
  match x,us,h2 with
  | .sl t ys,[u0],_=>
   simp only[rowsOf]at hv;obtain⟨l',hv2,rfl⟩:=ya_.1 hv;obtain⟨R,q1,q2,q3,q4⟩:=ih hv2 (fun x hx=>hsz x (by rw[List.flatten_cons];exact List.mem_append_right _ hx));have e0:=h4 0 _ u0 rfl rfl;obtain⟨a,c,rfl,hlc,hcm,hnone,hsome⟩:=qhf hc e0;have key:∃ds:List Value,Cells g w sz ys ds/\((ys.length=0/\Value.slice a ys.length c= .slice none 0 0)\/∃(a':Addr) (c':Nat),Value.slice a ys.length c= .slice (some a') ys.length c'/\∀(i:Nat) (v:Value),ds[i]?=some v->w.cell? (a'.add i)=some v):=by
    cases a with
    |none=>obtain⟨z1,z2⟩:=hnone rfl;subst z1 z2;exact⟨[],.nil,.inl ⟨rfl,rfl⟩⟩
    |some ad=>
     obtain⟨s,ds,hC,hcell,_⟩:=hsome ad rfl;exact⟨ds,hC.size fun x hx=>hsz x (by rw[List.flatten_cons];exact List.mem_append_left _ hx),.inr ⟨ad,c,rfl,hcell⟩⟩
   obtain⟨ds,hD,hu⟩:=key;refine⟨(ys.length,ds)::R,by simp[q1],by unfold qgN at*;simp[q2],by unfold qpQ at*;rw[List.flatten_cons,List.flatMap_cons];exact hD.append q3,fun j r hj=> ?_⟩;cases j with
   |zero=>
    simp only[List.getElem?_cons_zero,Option.some.injEq]at hj;subst hj;exact⟨hD.len,hD.one,_,rfl,hu⟩
   |succ j=>simpa using q4 j r (by simpa using hj)
  | .int _ _,_,_=>simp[rowsOf]at hv
  | .bool _,_,_=>simp[rowsOf]at hv
  | .str _,_,_=>simp[rowsOf]at hv
  | .agg _,_,_=>simp[rowsOf]at hv
  | .tup _,_,_=>simp[rowsOf]at hv
theorem qi9{x:DV}:∀{rs:List DV} {l:List (List DV)},rowsOf rs=some l->x∈rs->x.cells.length=1
 | .sl _ ys::rs,l,h,hx=>by
  simp only[rowsOf]at h;obtain⟨l',h2,rfl⟩:=ya_.1 h;rcases List.mem_cons.1 hx with rfl|hx
  ·rfl
  ·exact qi9 h2 hx
theorem qVi{k sz by_:Nat}(hf:quv P (fid k))(hj:qxR P (fid k) sz by_):qmn P fid k (qme (qGl sz by_)):=by
 refine⟨hf,fun p args v A hd h g w us hus hrel hcore hfresh=> ?_⟩;unfold qme at h;obtain⟨ds,hds,h⟩:=yb_.1 h;obtain⟨v',hv,h⟩:=ya_.1 h
 match ds,hds,hv with
 | [.sl t rs],hds,hv=>
  have hargs:=qbz hds;simp only[List.map_cons,List.map_nil]at hargs;subst hargs;obtain⟨u0,rfl⟩:=qQG hus;have r0:=hrel 0 _ u0 rfl rfl;simp only[qGl]at hv;obtain⟨l,hl,hv⟩:=yb_.1 hv;split at hv
  case isFalse=>simp at hv
  rename_i hle;obtain⟨hall,hpos,hbig⟩:=hle;simp only[Option.some.injEq]at hv;subst hv;simp only[qVx,Prod.mk.injEq]at h;obtain⟨rfl,rfl⟩:=h;cases r0 with
  |d _ _ r0=>
  obtain⟨a,c,rfl,hlc,hcm,hnone,hsome⟩:=qhf hcore r0;have hne:rs≠[]:=fun h=>by subst h;simp[rowsOf]at hl;subst hl;simp at hpos
  cases a with
  |none=>exact absurd (hnone rfl).1 hne
  |some ad=>
   obtain⟨s,cs,hC,hcell,hsp⟩:=hsome ad rfl;have hC1:Cells g w 1 rs cs:=hC.size fun x hx=>qi9 hl hx
   have hlen:=hC1.len;have hrl:0<rs.length:=List.length_pos_iff.2 hne;obtain⟨hsp,hblk⟩:=hsp (by omega);obtain⟨R,q1,q2,q3,q4⟩:=qyl (sz:=sz) hcore hC1 hl (fun x hx=>by simpa using List.all_eq_true.1 hall x hx);rw[<-q1]at hlc⊢
   refine(hj ad c R w ⟨hsp,fun j r hr=> ?_⟩ hlc hcm (by rw[q2];exact hpos) (by rw[q2];exact hbig)).mono ?_
   ·obtain⟨z1,z2,u,z3,z4⟩:=q4 j r hr
    have hu:=hcell j u z3;rw[addN hsp]at hu;refine⟨z1,z2,?_⟩;rcases z4 with⟨z4,rfl⟩|⟨a',c',rfl,z4⟩
    ·exact .inl ⟨z4,hu⟩
    ·exact .inr ⟨a',c',hu,z4⟩
   ·intro e w' hmade
    obtain⟨u,g',h1,h2⟩:=qot (fid:=fid) (p:=p) hcore (xs:=l.flatten.map DV.sh) (by rw[List.length_map,q2]) hmade q3.sh;exact⟨u,g',h1,h2⟩
end Go.Proofs.YtbcbkiaineacpaaGreat.VS
