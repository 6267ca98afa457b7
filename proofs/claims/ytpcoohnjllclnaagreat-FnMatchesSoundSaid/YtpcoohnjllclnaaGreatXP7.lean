/- Contracts of the program's functions on the evaluator without names, and plain lemmas: part 7. -/
import Derived.Test.YtpcoohnjllclnaaGreatXP6
set_option linter.unusedSimpArgs false
set_option linter.unusedVariables false
namespace Go.Proofs.YtpcoohnjllclnaaGreat.VS
open Go.RowKit
variable {P:Program} {fid:Nat->FuncId}
variable{X:XEnv}
theorem Lx(z:XOK X)(hE:EnvOK P fid X.env){f:Nat}{xs:aA}{B:ar}{v':AV}{B':ar}(h:ap X f xs B=some (v',B')){vs:aA}{Bv:ar}(F:AV.fits xs vs)(C:qbe B Bv)
 (m:∀ℓ,aI (bo 0 xs) B (bo 0 vs) Bv ℓ=[]) {g:Gh} {w:World} {us:cA} (o:us.size=vs.length) (l:∀(j:Nat) (v:AV) (u:Value),vs[j]?=some v->us[j]?=some u->AVR fid g w v u)
 (hc:Core fid g w Bv Ids.none) (q:ge g [] 0):Calls P (fid f) us w fun e w'=>∃u g' r A' d,e= .returned u/\v'.fit r/\qbe B' d/\Post fid (from_ [] 0) g w Ids.none ⟨r,A',d⟩ u g' w':=by
 obtain⟨n,G⟩:=jD.1 h;obtain⟨v,d,A',t,y,s,_⟩:=IB z n f _ _ _ _ G [] vs Bv Ids.none (fun _=>False) F C
  ⟨fun ℓ=>by rw[m];simp,fun ℓ ℓ' a i=>by rw[m]at i;simp at i,fun ℓ a i=>by rw[m]at i;simp at i,fun a i=>by simp at i⟩ (fun j _=>m (.reg j)) (fun a i=>by simp[Ids.none]at i)
 obtain⟨_,p⟩:=Mk hE n [] f vs Bv Ids.none _ t;exact(p g w us o l hc q).mono fun e w' ⟨u,g',D,x⟩=>⟨u,g',v,A',d,D,y,s,x⟩
structure IntsAt(w:World)(base:ib)(n c:Nat)(xs:aX):Prop where
 len:xs.length=n
 cap:n<=c
 lim:(n+1)*8<=140737488355328
 capm:c<=maxLen
 nil:base=none->n=0/\c=0
 cell:∀ad,base=some ad->0<n->ad.spot=none/\∀(j:Nat) (x:Int),xs[j]?=some x->w.cell? ⟨ad.block,ad.off+j,none⟩=some (.int .i64 x)
variable{b:Nat}
theorem Wi{w:World}{o:Nat}{v:Value}(h:w.cell? ⟨b,o,none⟩=some v):b<w.heap.size:=by
 unfold World.cell? at h;split at h
 ·rename_i a;exact(d9.1 a).1
 ·simp at h
variable{xs:aX}{n c:Nat}{base:ib}
theorem IntsAt.lt{w:World}(h:IntsAt w base n c xs){ad:Addr}(d:base=some ad)(e:0<n):ad.block<w.heap.size:=by
 have g:xs[0]?=some xs[0]!:=by have:=h.len;cases xs with|nil=>simp at this;omega|cons a r=>simp
 exact Wi ((h.cell ad d e).2 0 _ g)
def iA(base:ib)(n:Nat)(bx:Nat->a_):Gh:={K:=fun b=>match base with|some ad=>if b=ad.block/\0<n then ad.off+n else 0|none=>0,row:=fun _=>none,bx:=bx}
def tY(base:ib):Tag:=match base with|some _=> .sub|none=> .nil
theorem Jb{w:World}(h:IntsAt w base n c xs)(bx:Nat->a_):VR (iA base n bx) w (.sl (tY base) (xs.map (.int .i64))) (.slice base n c):=by
 cases base with
 |none=>obtain⟨rfl,rfl⟩:=h.nil rfl;have:xs=[]:=jX.1 h.len;subst this;exact .nil
 |some ad=>
  have key:VR (iA (some ad) n bx) w (.sl .sub (xs.map (.int .i64))) (.slice (some ad) (xs.map (DV.int .i64)).length c):=by
   refine .row _ _ ad c 1 (fun k=> .int .i64 (xs.getD k 0)) (by simp) (by simpa[h.len]using h.cap) h.capm (fun k q=> ?_) ?_ (fun i x g=> ?_) (fun i x j v hi e=> ?_) (fun a sz r=>by simp at r)
   ·have d:k<xs.length:=by simpa using q
    obtain⟨l,p⟩:=h.cell ad rfl (by have:=h.len;omega);have:ad.add k=⟨ad.block,ad.off+k,none⟩:=by obtain⟨u,o,z⟩:=ad;simp only at l;subst l;unfold Addr.add;split<;>simp_all
    rw[this,p k xs[k] (by simp[d])];simp[List.getD,d]
   ·by_cases t:0<n
    ·right
     simp only[iA];rw[aw ⟨trivial,t⟩];simp[h.len]
    ·left;have:=h.len;simp;cases xs with|nil=>rfl|cons _ _=>simp at this;omega
   ·simp only[c7,ay]at g
    obtain⟨y,_,rfl⟩:=g;exact⟨rfl,fun v m=>by simp[DV.cells]at m;subst m;rfl⟩
   ·simp only[c7,ay]at hi
    obtain⟨y,s,rfl⟩:=hi;cases j with
    |succ j=>simp[DV.cells]at e
    |zero=>
     simp[DV.cells]at e;subst e
     simp only[Nat.mul_one,qk,List.getD,s,fy];exact .int _ _
  rw[eo,h.len]at key;exact key
theorem Hv{w:World}(h:IntsAt w base n c xs)(bx:Nat->a_)(b:Nat)(d:w.heap.size<=b):(iA base n bx).K b=0:=by
 cases base with
 |none=>rfl
 |some ad=>
  simp only[iA];rw[au]
  rintro⟨rfl,a⟩
  have:=h.lt rfl a;omega
theorem I_(t:Tag)(xs:aX):(AV.d (is xs)).fit (.d (.sl t (xs.map (.int .i64)))):=by simp only[AV.fit,DV.fit];refine⟨_,rfl,_,_,rfl,?_,.inl rfl⟩;rw[DV.qbl];refine⟨rfl,fun i x y a e=> ?_⟩;rw[a]at e;simp only[aL]at e;subst e;simp only[c7,ay]at a;obtain⟨z,_,rfl⟩:=a;simp only[DV.fit]
theorem Lk(t:Tag)(xs:aX):(AV.d (is xs)).own (.d (.sl t (xs.map (.int .i64))))=[]:=by
 have g:(.sub:Tag)≠U:=by decide
 simp only[AV.own,DV.own,g,As,if_false,dG];have:∀(l:aX) (m:al),DV.owns (l.map (.int .i64)) m=[]:=by
  intro l
  induction l with
  |nil=>intro m;simp[DV.owns]
  |cons a r e=>intro m;cases m<;>simp[DV.owns,DV.own,e]
 exact this xs _
variable{k:Nat}
theorem Py(H:XOK X)(hE:EnvOK P fid X.env)(K:∀(l:aX) (n:Int),l.length<=140737488355328->ap X k [.d (is l),aa n] []=some (ax (l.contains n),[]))
 {w:World}(h:IntsAt w base n c xs) (m:Int):
 Calls P (fid k) #[.slice base n c,.int .i64 m] w fun e w'=>e= .returned (.bool (xs.contains m))/\Below w.heap.size w w':=by
 have F:=h.lim;have C:∀ℓ,aI (bo 0 [.d (is xs),aa m]) [] (bo 0 [.d (.sl (tY base) (xs.map (.int .i64))),aa m]) [] ℓ=[]:=by
  intro ℓ;cases ℓ with
  |box j=>simp[aI,bp,aT]
  |reg t=>
   simp only[aI,br,bo,lk]
   by_cases G:t=0
   ·subst G;simp only[if_true];exact Lk _ _
   ·by_cases I:t=0+1
    ·subst I;simp[AV.own,DV.own]
    ·simp[G]
     split<;>simp_all
 refine(Lx (P:=P) (fid:=fid) H hE (K xs m (by rw[h.len];omega)) (vs:=[.d (.sl (tY base) (xs.map (.int .i64))),aa m]) (Bv:=[]) ?_ ⟨rfl,by simp⟩ C (g:=iA base n (fun _=>none)) (w:=w) rfl ?_ ?_ (fun q j _=>rfl)).mono ?_
 ·simp only[AV.fits]
  exact⟨_,_,rfl,I_ _ _,_,_,rfl,by simp only[AV.fit,DV.fit];exact⟨_,rfl,rfl⟩,rfl⟩
 ·intro j v u s p
  match j with
  |0=>simp at s p;subst s;subst p;exact .d _ _ (Jb h _)
  |1=>simp at s p;subst s;subst p;exact .d _ _ (.int _ _)
  |j+2=>simp at s
 ·exact⟨fun i b z=>by simp[iA]at z,fun i j b z=>by simp[iA]at z,fun a D=>by simp[Ids.none]at D,fun a a' b x x' D=>by simp[Ids.none]at D,Hv h _⟩
 ·rintro e w' ⟨u,g',M,A',J,rfl,o,_,r⟩
  simp only[AV.fit,DV.fit]at o;obtain⟨y,rfl,rfl⟩:=o;have p:=jq r.val;subst p;exact⟨rfl,r.step.os,r.step.tape,r.step.output,r.step.size,fun b z=>(r.step.keep b z (fun i h=>by simp[iA]at h) (fun a h=>by simp[Ids.none]at h)).1⟩
theorem qpK(hX:XOK X)(hE:EnvOK P fid X.env){kc:Nat}(hq:∀(l:aX) (n:Int),l.length<=140737488355328->ap X k [.d (is l),.fn kc [.ptr 0 0]] [some [aa n]]=some (aa (dw (a8 (fun i=>decide (dM l i>n)) l.length 0)),[some [aa n]]))
 {w:World}(h:IntsAt w base n c xs) (m:Int) (p:Nat) (ty:TypeId) (K:w.heap[p]?=some (.cells #[.int .i64 m] ty (0,0))) (S:∀ad,base=some ad->0<n->ad.block≠p):
 Calls P (fid k) #[.slice base n c,.func (.func (fid kc)) #[] #[.pointer (some ⟨p,0,none⟩)]] w fun e w'=>e= .returned (.int .i64 (dw (a8 (fun i=>decide (dM xs i>m)) xs.length 0)))/\
  w'.os=w.os/\w'.tape=w.tape/\w'.output=w.output/\w.heap.size<=w'.heap.size/\(∀b,b<w.heap.size->b≠p->w'.heap[b]?=w.heap[b]?)/\w'.cell? ⟨p,0,none⟩=some (.int .i64 m):=by
 have V:=h.lim;have J:∀ℓ,aI (bo 0 [.d (is xs),.fn kc [.ptr 0 0]]) [some [aa m]] (bo 0 [.d (.sl (tY base) (xs.map (.int .i64))),.fn kc [.ptr 0 0]]) [some [aa m]] ℓ=[]:=by
  intro ℓ;cases ℓ with
  |box j=>
   cases j with
   |zero=>simp[aI,bp,aT,AV.owns,AV.own,DV.own]
   |succ j=>simp[aI,bp,aT]
  |reg t=>
   simp only[aI,br,bo,lk]
   by_cases Y:t=0
   ·subst Y;simp only[if_true];exact Lk _ _
   ·by_cases s:t=0+1
    ·subst s;simp[AV.own]
    ·simp[Y]
     split<;>simp_all
 have r:∀i b,(iA base n (fun i=>if i=0 then some p else none)).bx i=some b->i=0/\b=p:=by
  intro i b o;simp only[iA]at o;split at o
  ·rename_i hi;simp at o;exact⟨hi,o.symm⟩
  ·simp at o
 refine(Lx (P:=P) (fid:=fid) hX hE (hq xs m (by rw[h.len];omega)) (vs:=[.d (.sl (tY base) (xs.map (.int .i64))),.fn kc [.ptr 0 0]]) (Bv:=[some [aa m]]) ?_ ?_ J (g:=iA base n (fun i=>if i=0 then some p else none)) (w:=w) rfl ?_ ?_ (fun q j _=>rfl)).mono ?_
 ·simp only[AV.fits]
  refine⟨_,_,rfl,I_ _ _,_,_,rfl,?_,rfl⟩;simp only[AV.fit,AV.fits];exact⟨_,rfl,⟨_,_,rfl,rfl,rfl⟩,by simp[AV.owns,AV.own]⟩
 ·refine⟨rfl,fun i=> ?_⟩
  cases i with
  |zero=>exact⟨by simp,fun cs H=>by simp at H;subst H;exact⟨_,rfl,AV.qeg (by simp only[AV.fit,DV.fit];exact⟨_,rfl,rfl⟩)⟩⟩
  |succ i=>simp
 ·intro j v u G D
  match j with
  |0=>simp at G D;subst G;subst D;exact .d _ _ (Jb h _)
  |1=>
   simp at G D;subst G;subst D
   exact .fn kc _ _ rfl fun j v u s F=>by
    cases j with
    |zero=>simp at s F;subst s;subst F;exact .ptr 0 0 p rfl
    |succ j=>simp at s
  |j+2=>simp at G
 ·refine⟨fun i b o=> ?_,fun i j b o N=>by rw[(r i b o).1,(r j b N).1],fun a O=>by simp[Ids.none]at O,fun a a' b x x' O=>by simp[Ids.none]at O,Hv h _⟩
  obtain⟨rfl,rfl⟩:=r i b o;refine⟨[aa m],_,ty,rfl,K,by simp,fun j v u s F=> ?_,fun v W=>by simp at W;subst W;exact⟨rfl,bd _ _⟩,?_⟩
  ·cases j with
   |zero=>simp at s F;subst s;subst F;exact .d _ _ (.int _ _)
   |succ j=>simp at s
  ·cases base with
   |none=>rfl
   |some ad=>simp only[iA];rw[au];rintro⟨he,hn⟩;exact S ad rfl hn he.symm
 ·rintro e w' ⟨u,g',vv,A',h3,rfl,z,R,C⟩
  simp only[AV.fit,DV.fit]at z;obtain⟨y,rfl,rfl⟩:=z;have D:=eO C.val;subst D;refine⟨rfl,C.step.os,C.step.tape,C.step.output,C.step.size,fun b o Q=>(C.step.keep b o (fun i h=>Q (r i b h).2) (fun a h=>by simp[Ids.none]at h)).1,?_⟩;have M:=C.boxes.old 0 p rfl;obtain⟨cs,arr,e',c1,c2,c3,Z,_⟩:=C.core.box 0 p M;obtain⟨ds,d1,d2⟩:=(R.2 0).2 _ rfl;rw[c1]at d1;simp at d1;subst d1
  simp only[AV.fits,AV.fit,DV.fit]at d2;obtain⟨_,_,rfl,⟨_,rfl,rfl⟩,rfl⟩:=d2;have I:0<arr.size:=by simp at c3;omega
  have:=eO (Z 0 _ arr[0] rfl (by simp[I]));simp[World.cell?,c2,I,this]
theorem qa(b:Nat):∀(vs:bW) (o:Nat) (w:World) (arr:cA) (t:TypeId),w.heap[b]?=some (.cells arr t (0,0))->∃arr',(w.setCells b o vs).heap[b]?=some (.cells arr' t (0,0))/\arr'.size=arr.size
 | [],o,w,arr,t,h=>⟨arr,h,rfl⟩
 |v::r,o,w,arr,t,h=>by obtain⟨arr',d,a⟩:=qa b r (o+1) (w.setCell ⟨b,o,none⟩ v) _ t (heap_setCell_same w b o arr t v h);exact⟨arr',d,by rw[a];simp⟩
theorem oP(b:Nat):∀(vs:bW) (o:Nat) (w:World) (k:Nat),k≠b->(w.setCells b o vs).heap[k]?=w.heap[k]?
 | [],o,w,k,h=>rfl
 |v::r,o,w,k,h=>by rw[World.setCells,oP b r (o+1) _ k h];exact heap_setCell_other w _ k v h
theorem pu(b:Nat):∀(vs:bW) (o:Nat) (w:World),(w.setCells b o vs).os=w.os/\(w.setCells b o vs).tape=w.tape/\(w.setCells b o vs).output=w.output/\(w.setCells b o vs).heap.size=w.heap.size
 | [],o,w=>⟨rfl,rfl,rfl,rfl⟩
 |v::r,o,w=>by obtain⟨d,a,g,e⟩:=pu b r (o+1) (w.setCell ⟨b,o,none⟩ v);exact⟨d,a,g,by rw[World.setCells,e];simp[World.setCell]⟩
structure InsertSays(P:Program)(f:FuncId)(T:TypeId):Prop where
 shift:∀(b off n c i vb voff m vc:Nat) (cs vs:bW) (w:World),i<n->0<m->n+m<=c->c<=9223372036854775807->vb≠b->cs.length=n->vs.length=m->
  (∀(j:Nat) (v:Value),cs[j]?=some v->w.cell? ⟨b,off+j,none⟩=some v)->(∀j,j<n+m->(w.cell? ⟨b,off+j,none⟩).isSome=true)->(∀j,j<n+m->w.frozen? ⟨b,off+j,none⟩=false)->
  (∀(j:Nat) (v:Value),vs[j]?=some v->w.cell? ⟨vb,voff+j,none⟩=some v)->(∀v∈cs,v.oneCell'=true)->(∀v∈vs,v.oneCell'=true)->∀(tA tB:TypeId) (kA kB:Nat),w.shape? vb=some (tA,kA)->w.shape? b=some (tB,kB)->kB≠0->
  w.frozen? ⟨vb,voff,none⟩=false->w.frozen? ⟨vb,kA,none⟩=false->Calls P f #[.slice (some ⟨b,off,none⟩) n c,.int .i64 i,.slice (some ⟨vb,voff,none⟩) m vc] w fun e w'=>e= .returned (.slice (some ⟨b,off,none⟩) (n+m) c)/\w'=(w.drew.setCells b (off+(i+m)) (cs.drop i)).setCells b (off+i) vs
 room:∀(b off n c vb voff m vc:Nat) (vs:bW) (w:World),0<m->n+m<=c->c<=9223372036854775807->vs.length=m->(∀j,j<m->(w.cell? ⟨b,off+n+j,none⟩).isSome=true)->(∀j,j<m->w.frozen? ⟨b,off+n+j,none⟩=false)->
  (∀(j:Nat) (v:Value),vs[j]?=some v->w.cell? ⟨vb,voff+j,none⟩=some v)->(∀v∈vs,v.oneCell'=true)->Calls P f #[.slice (some ⟨b,off,none⟩) n c,.int .i64 n,.slice (some ⟨vb,voff,none⟩) m vc] w fun e w'=>e= .returned (.slice (some ⟨b,off,none⟩) (n+m) c)/\w'=w.setCells b (off+n) vs
 endGrow:∀(base:ib) (n c vb voff m vc:Nat) (cs vs:bW) (w:World),0<m->n<=c->c<n+m->(n+m)*8<=140737488355328->cs.length=n->vs.length=m->(base=none->n=0)->
  (∀a,base=some a->∀(j:Nat) (v:Value),cs[j]?=some v->w.cell? (a.add j)=some v)->(∀(j:Nat) (v:Value),vs[j]?=some v->w.cell? ⟨vb,voff+j,none⟩=some v)->(∀v∈vs,v.oneCell'=true)->
  Calls P f #[.slice base n c,.int .i64 n,.slice (some ⟨vb,voff,none⟩) m vc] w fun e w'=>e= .returned (.slice (some ⟨w.heap.size,0,none⟩) (n+m) (grownCap w (n+m) c T))/\
   w'=w.drew.alloc (.cells ((cs++vs).toArray++Builtin.zeroCells (Value.int .i64 0).cells (grownCap w (n+m) c T-(n+m))) T)
 grow:∀(b off n c i vb voff m vc:Nat) (cs vs:bW) (w:World),i<n->0<m->n<=c->c<n+m->(n+m)*8<=140737488355328->cs.length=n->vs.length=m->(∀(j:Nat) (v:Value),cs[j]?=some v->w.cell? ⟨b,off+j,none⟩=some v)->
  (∀(j:Nat) (v:Value),vs[j]?=some v->w.cell? ⟨vb,voff+j,none⟩=some v)->(∀v∈cs,v.oneCell'=true)->(∀v∈vs,v.oneCell'=true)->Calls P f #[.slice (some ⟨b,off,none⟩) n c,.int .i64 i,.slice (some ⟨vb,voff,none⟩) m vc] w fun e w'=>
   e= .returned (.slice (some ⟨w.heap.size,0,none⟩) (n+m) (grownCap w (n+m) c T))/\
   w'=(((w.alloc (.cells ((cs.take i).toArray++Builtin.zeroCells (Value.int .i64 0).cells (n+m-i)++Builtin.zeroCells (Value.int .i64 0).cells (grownCap w (n+m) c T-(n+m))) T)).drew.setCells w.heap.size i vs).drew).setCells w.heap.size (i+m) (cs.drop i)
theorem iQ{w:World}{arr:cA}{t:TypeId}{z:Nat×Nat}(h:w.heap[b]?=some (.cells arr t z))(k:Nat):w.cell? ⟨b,k,none⟩=arr[k]?:=by simp[World.cell?,h]
theorem kM(w:World)(o:Obj):(w.alloc o).heap[w.heap.size]?=some o:=by show(w.heap.push o)[w.heap.size]?=some o;simp
theorem eA(w:World)(o:Obj):(w.alloc o).heap.size=w.heap.size+1:=by show(w.heap.push o).size=_;simp
theorem BC(n:Nat):(Builtin.zeroCells (Value.int .i64 0).cells n).size=n:=by rw[size_zeroCells];simp[Value.cells]
theorem Ha(l:aX):∀v∈l.map (Value.int .i64),v.oneCell'=true:=by intro v a;obtain⟨x,_,rfl⟩:=cw.1 a;rfl
structure Inserted(w w':World)(e:Ending)(xs:aX)(g:a_):Prop where
 ret:∃blk cap arr ty,e= .returned (.slice (some ⟨blk,0,none⟩) xs.length cap)/\(g=some blk\/w.heap.size<=blk)/\w'.heap[blk]?=some (.cells arr ty (0,0))/\cap<=arr.size/\xs.length<=cap/\cap<=maxLen/\
  ∀(j:Nat) (x:Int),xs[j]?=some x->arr[j]?=some (.int .i64 x)
 os:w'.os=w.os
 tape:w'.tape=w.tape
 output:w'.output=w.output
 size:w.heap.size<=w'.heap.size
 block:∀b,b<w.heap.size->g≠some b->w'.heap[b]?=w.heap[b]?
variable{f:FuncId}
theorem TK{T:TypeId}(hi:InsertSays P f T)(w:World)(vb:Nat)(v:Int)(g:w.cell? ⟨vb,0,none⟩=some (.int .i64 v))(base:ib):
 Calls P f #[.slice base 0 0,.int .i64 (0:Nat),.slice (some ⟨vb,0,none⟩) 1 1] w fun e w'=>Inserted w w' e [v] none:=by
 refine(hi.endGrow base 0 0 vb 0 1 1 [] [.int .i64 v] w (by omega) (by omega) (by omega) (by omega) rfl rfl (fun _=>rfl) (fun a _ j x d=>by simp at d) (fun j x d=>by
  cases j with
  |zero=>simp at d;subst d;exact g
  |succ j=>simp at d) (fun x d=>by simp at d;subst d;rfl)).mono ?_
 rintro e w' ⟨rfl,rfl⟩
 have h:=grownCap_ge w (0+1) 0 T;refine⟨⟨w.heap.size,_,_,T,rfl,.inr (bf _),kM w.drew _,?_,h,grownCap_le_maxLen w _ _ _ (by unfold maxLen;omega),fun j x d=> ?_⟩,rfl,rfl,rfl,by rw[eA];exact ch _,fun b i _=>Below.heap_alloc w.drew _ b i⟩
 ·rw[nX,BC];simp;omega
 ·cases j with
  |zero=>simp at d;subst d;rw[kN (by simp)];rfl
  |succ j=>simp at d
theorem JI{T:TypeId}(hi:InsertSays P f T)(w:World)(g cap:Nat)(arr:cA)(ty:TypeId)(xs:aX)(i:Nat)(vb:Nat)(Z:TypeId)(v:Int)(Y:w.heap[g]?=some (.cells arr ty (0,0)))(x2:cap<=arr.size)(hn:xs.length<=cap)(hm:cap<=maxLen)
 (K:∀(j:Nat) (x:Int),xs[j]?=some x->arr[j]?=some (.int .i64 x)) (F:(xs.length+1)*8<=140737488355328) (hv:w.heap[vb]?=some (.cells #[.int .i64 v] Z (0,0))) (h3:vb≠g) (x3:i<=xs.length):
 Calls P f #[.slice (some ⟨g,0,none⟩) xs.length cap,.int .i64 (i:Nat),.slice (some ⟨vb,0,none⟩) 1 1] w fun e w'=>Inserted w w' e (xs.take i++v::xs.drop i) (some g):=by
 have o:∀k,w.cell? ⟨g,k,none⟩=arr[k]?:=iQ Y;have h4:w.cell? ⟨vb,0,none⟩=some (.int .i64 v):=by rw[iQ hv];rfl
 have u:∀(j:Nat) (x:Value),[Value.int .i64 v][j]?=some x->w.cell? ⟨vb,0+j,none⟩=some x:=fun j x d=>by
  cases j with
  |zero=>simp at d;subst d;exact h4
  |succ j=>simp at d
 have z:∀x∈[Value.int .i64 v],x.oneCell'=true:=fun x d=>by simp at d;subst d;rfl
 have I:∀(j:Nat) (x:Value),(xs.map (Value.int .i64))[j]?=some x->w.cell? ⟨g,0+j,none⟩=some x:=fun j x d=>by simp only[c7,ay]at d;obtain⟨y,hy,rfl⟩:=d;rw[fR,o];exact K j y hy
 have O:∀k,w.frozen? ⟨g,k,none⟩=false:=fun k=>by simp[World.frozen?,Y]
 have m:∀k,k<arr.size->(w.cell? ⟨g,k,none⟩).isSome=true:=fun k J=>by rw[o];simp[J]
 have hmx:maxLen=9223372036854775807:=rfl;have l:(xs.take i++v::xs.drop i).length=xs.length+1:=by simp;omega
 have s:∀j,(xs.take i++v::xs.drop i)[j]?=if j<i then xs[j]? else if j=i then some v else xs[j-1]?:=by
  intro j
  by_cases p:j<i
  ·rw[aw p,cf (by simp;omega),eY,aw p]
  ·rw[au p,cF (by simp;omega)]
   have:(xs.take i).length=i:=by simp;omega
   rw[this]
   by_cases q:j=i
   ·subst q;simp
   ·rw[au q,show j-i=(j-i-1)+1 by omega,mP,gP]
    congr 1;omega
 by_cases hroom:xs.length+1<=cap
 ·by_cases t:i=xs.length
  ·subst t
   refine(hi.room g 0 xs.length cap vb 0 1 1 [.int .i64 v] w (by omega) hroom (by omega) rfl (fun j G=>m _ (by omega)) (fun j _=>O _) u z).mono ?_
   rintro e w' ⟨rfl,rfl⟩
   obtain⟨arr',D,a2⟩:=qa g [.int .i64 v] (0+xs.length) w arr ty Y;obtain⟨R,Q,W,r4⟩:=pu g [.int .i64 v] (0+xs.length) w;refine⟨⟨g,cap,arr',ty,by rw[l],.inl rfl,D,by omega,by rw[l];exact hroom,hm,fun j x d=> ?_⟩,R,Q,W,by omega,fun b V C=>oP g _ _ w b (fun h=>C (by rw[h]))⟩;rw[s]at d;rw[<-iQ D]
   by_cases p:j<xs.length
   ·rw[aw p]at d
    rw[World.cell?_setCells_out g _ _ w _ (fun _ _=> .inl (by simpa using p)),o];exact K j x d
   ·rw[au p]at d
    by_cases q:j=xs.length
    ·rw[aw q]at d;simp at d;subst d;subst q
     have:=World.cell?_setCells_in g [.int .i64 v] (0+xs.length) w (fun j G=>m _ (by simp at G;omega)) 0 (by simp);simpa using this
    ·rw[au q]at d
     have:=(aU.1 d).1;omega
  ·have N:i<xs.length:=by omega
   refine(hi.shift g 0 xs.length cap i vb 0 1 1 (xs.map (.int .i64)) [.int .i64 v] w N (by omega) hroom (by omega) h3 (by simp) rfl I (fun j G=>by rw[fR];exact m _ (by omega)) (fun j _=>O _) u (Ha xs) z Z ty 1 arr.size
    (by simp[World.shape?,hv]) (by simp[World.shape?,Y]) (by omega) (by simp[World.frozen?,hv]) (by simp[World.frozen?,hv])).mono ?_
   rintro e w' ⟨rfl,rfl⟩
   obtain⟨r,D,a2⟩:=qa g ((xs.map (Value.int .i64)).drop i) (0+(i+1)) w.drew arr ty Y;obtain⟨arr',S,b2⟩:=qa g [.int .i64 v] (0+i) _ r ty D;obtain⟨R,Q,W,r4⟩:=pu g ((xs.map (Value.int .i64)).drop i) (0+(i+1)) w.drew;obtain⟨s1,s2,s3,s4⟩:=pu g [.int .i64 v] (0+i) (w.drew.setCells g (0+(i+1)) ((xs.map (Value.int .i64)).drop i));refine⟨⟨g,cap,arr',ty,by rw[l],.inl rfl,S,by omega,by rw[l];exact hroom,hm,fun j x d=> ?_⟩,s1.trans R,s2.trans Q,s3.trans W,by rw[s4,r4];exact bf _,fun b V C=>by rw[oP g _ _ _ b (fun h=>C (by rw[h])),oP g _ _ _ b (fun h=>C (by rw[h]))];rfl⟩
   rw[s]at d;rw[<-iQ S];have x1:∀(j:Nat),j<((xs.map (Value.int .i64)).drop i).length->(w.drew.cell? ⟨g,0+(i+1)+j,none⟩).isSome=true:=fun j G=>by simp at G;exact m _ (by omega)
   by_cases p:j<i
   ·rw[aw p]at d
    rw[World.cell?_setCells_out g _ _ _ _ (fun _ _=> .inl (by simpa using p)),World.cell?_setCells_out g _ _ _ _ (fun _ _=> .inl (by show j<0+(i+1);omega))];exact(o j).trans (K j x d)
   ·rw[au p]at d
    by_cases q:j=i
    ·rw[aw q]at d;simp at d;subst d;subst q
     have:=World.cell?_setCells_in g [.int .i64 v] (0+j) (w.drew.setCells g (0+(j+1)) ((xs.map (Value.int .i64)).drop j)) (fun k J=>by rw[iQ D];simp at J;simp;omega) 0 (by simp);simpa using this
    ·rw[au q]at d
     have h5:=(aU.1 d).1;rw[World.cell?_setCells_out g _ _ _ _ (fun _ _=> .inr (by show 0+i+1<=j;omega))];have:=World.cell?_setCells_in g ((xs.map (Value.int .i64)).drop i) (0+(i+1)) w.drew x1 (j-(i+1)) (by simp;omega);rw[show 0+(i+1)+(j-(i+1))=j by omega]at this;rw[this];have M:xs[j-1]=x:=(aU.1 d).2;simp only[List.getElem_drop,xH];rw[<-M]
     congr 3;omega
 ·by_cases t:i=xs.length
  ·subst t
   refine(hi.endGrow (some ⟨g,0,none⟩) xs.length cap vb 0 1 1 (xs.map (.int .i64)) [.int .i64 v] w (by omega) hn (by omega) F (by simp) rfl (fun h=>by simp at h) (fun a ha j x d=>by
    simp only[aL]at ha;subst ha
    have:(⟨g,0,none⟩:Addr).add j=⟨g,0+j,none⟩:=by unfold Addr.add;split<;>simp_all
    rw[this];exact I j x d) u z).mono ?_
   rintro e w' ⟨rfl,rfl⟩
   have H:=grownCap_ge w (xs.length+1) cap T;refine⟨⟨w.heap.size,_,_,T,by rw[l],.inr (bf _),kM w.drew _,?_,by rw[l];exact H,grownCap_le_maxLen w _ _ _ (by omega),fun j x d=> ?_⟩,rfl,rfl,rfl,by rw[eA];exact ch _,fun b V _=>Below.heap_alloc w.drew _ b V⟩
   ·rw[nX,BC];simp;omega
   ·have G:=(aU.1 d).1
    rw[l]at G;rw[fG,Ch]at d;rw[kN (by simp;omega)];have:(xs.map (Value.int .i64)++[Value.int .i64 v])=(xs++[v]).map (Value.int .i64):=by simp
    rw[this,qt,c7,d];rfl
  ·have N:i<xs.length:=by omega
   refine(hi.grow g 0 xs.length cap i vb 0 1 1 (xs.map (.int .i64)) [.int .i64 v] w N (by omega) hn (by omega) F (by simp) rfl I u (Ha xs) z).mono ?_
   rintro e w' ⟨rfl,rfl⟩
   have H:=grownCap_ge w (xs.length+1) cap T;generalize hA:(((xs.map (Value.int .i64)).take i).toArray++Builtin.zeroCells (Value.int .i64 0).cells (xs.length+1-i)++Builtin.zeroCells (Value.int .i64 0).cells (grownCap w (xs.length+1) cap T-(xs.length+1)))=A0;have a3:A0.size=grownCap w (xs.length+1) cap T:=by rw[<-hA,nX,nX,BC,BC];simp;omega
   obtain⟨r,D,a2⟩:=qa w.heap.size [.int .i64 v] i (w.alloc (.cells A0 T)).drew A0 T (kM w _);obtain⟨arr',S,b2⟩:=qa w.heap.size ((xs.map (Value.int .i64)).drop i) (i+1) (((w.alloc (.cells A0 T)).drew.setCells w.heap.size i [.int .i64 v]).drew) r T D;obtain⟨R,Q,W,r4⟩:=pu w.heap.size [.int .i64 v] i (w.alloc (.cells A0 T)).drew;obtain⟨s1,s2,s3,s4⟩:=pu w.heap.size ((xs.map (Value.int .i64)).drop i) (i+1) (((w.alloc (.cells A0 T)).drew.setCells w.heap.size i [.int .i64 v]).drew);refine⟨⟨w.heap.size,_,arr',T,by rw[l],.inr (bf _),S,by omega,by rw[l];exact H,grownCap_le_maxLen w _ _ _ (by omega),fun j x d=> ?_⟩,s1.trans R,s2.trans Q,s3.trans W,by
    rw[s4];show w.heap.size<=((w.alloc (.cells A0 T)).drew.setCells w.heap.size i [.int .i64 v]).heap.size;rw[r4];show w.heap.size<=(w.alloc (.cells A0 T)).heap.size;rw[eA];exact ch _,fun b V _=>by
    rw[oP _ _ _ _ b (by omega)];show((w.alloc (.cells A0 T)).drew.setCells w.heap.size i [.int .i64 v]).heap[b]?=_;rw[oP _ _ _ _ b (by omega)];exact Below.heap_alloc w _ b V⟩
   rw[s]at d;rw[<-iQ S];have c1:∀k,(w.alloc (.cells A0 T)).drew.cell? ⟨w.heap.size,k,none⟩=A0[k]?:=iQ (kM w (.cells A0 T));have c2:∀k,(((w.alloc (.cells A0 T)).drew.setCells w.heap.size i [.int .i64 v]).drew).cell? ⟨w.heap.size,k,none⟩=r[k]?:=iQ D
   by_cases p:j<i
   ·rw[aw p]at d
    rw[World.cell?_setCells_out _ _ _ _ _ (fun _ _=> .inl (by show j<i+1;omega))];show((w.alloc (.cells A0 T)).drew.setCells w.heap.size i [.int .i64 v]).cell? ⟨w.heap.size,j,none⟩=_;rw[World.cell?_setCells_out _ _ _ _ _ (fun _ _=> .inl p),c1,<-hA,B7,kN (by simp;omega)];simp[p,d]
   ·rw[au p]at d
    by_cases q:j=i
    ·rw[aw q]at d;simp at d;subst d;subst q
     rw[World.cell?_setCells_out _ _ _ _ _ (fun _ _=> .inl (by show j<j+1;omega))];have:=World.cell?_setCells_in w.heap.size [.int .i64 v] j (w.alloc (.cells A0 T)).drew (fun k J=>by rw[c1];simp at J;simp;omega) 0 (by simp);simpa using this
    ·rw[au q]at d
     have h5:=(aU.1 d).1;have:=World.cell?_setCells_in w.heap.size ((xs.map (Value.int .i64)).drop i) (i+1) (((w.alloc (.cells A0 T)).drew.setCells w.heap.size i [.int .i64 v]).drew) (fun k J=>by rw[c2];simp at J;simp;omega) (j-(i+1)) (by simp;omega);rw[show i+1+(j-(i+1))=j by omega]at this;rw[this];have M:xs[j-1]=x:=(aU.1 d).2;simp only[List.getElem_drop,xH];rw[<-M]
     congr 3;omega
end Go.Proofs.YtpcoohnjllclnaaGreat.VS
