/- The engine, part 2: a call of the program answers what an evaluator of values without memory answers, for the functions whose code is the one that the evaluator is given. -/
import Derived.Test.YtpcoohnjllclnaaGreatEngA
import Derived.Laws.Append
import Derived.Laws.AppendOwn
import Derived.LoopN
import Derived.Tactics
set_option linter.unusedSimpArgs false
set_option linter.unusedVariables false
namespace Go.Proofs.YtpcoohnjllclnaaGreat.VS
variable{s:St}{v:AV}{a:Act}{o:Oper}{N:Id->Prop}{cs:aA}{i sz b:Nat}{agg:Bool}{t:TypeId}{af:ae}{gd:mg}{x:VX}
section
variable {P:Program} {fid:Nat->FuncId} {g:Gh} {w:World}
def under(k:Nat)(p:Id)(a:Id):Prop:=∃q,a=q++k::p
structure Does(P:Program)(fid:Nat->FuncId)(N:Id->Prop)(g:Gh)(w:World)(a:Act)(o:Oper)(s s':St) where
 n:Next
 u:Value
 w':World
 g':Gh
 run:(execOp a.eval o).run P w= .ok n w'
 res:n= .value u\/(n= .skip/\u=undef)
 core:Core fid g' w' s'.B s'.A
 boxes:Boxes g w g'
 step:Step N g w s.A g' w' s'.A
 regs:qdc fid g' w' s'.r (a.put o.dst u).tmps
theorem lW(a:Act)(dst:a_)(u:Value)(t:Nat):
 (a.put dst u).tmps.getD t undef=if dst=some t/\t<a.tmps.size then u else a.tmps.getD t undef:=by
 cases dst with
 |none=>simp[Act.put]
 |some d=>
  simp only[Act.put,aL]
  by_cases h:d=t
  ·subst h
   by_cases n:d<a.tmps.size
   ·simp[n,bZ]
   ·simp[n,bZ]
  ·simp[h,bZ,kg h]
theorem gw{dst:a_}{u:Value}(q:qdc fid g w s.r a.tmps)(C:AVR fid g w v u)(D:∀d,dst=some d->d<a.tmps.size):
 qdc fid g w (s.put dst v).r (a.put dst u).tmps:=by
 intro t x n;rw[lW];cases dst with
 |none=>simp[St.put]at n;simpa using q t x n
 |some d=>
  simp only[St.put,lk]at n;split at n
  ·rename_i h
   subst h;simp at n;subst n
   simp[D t rfl,C]
  ·rename_i h
   rw[au (by simp;intro h';exact absurd h'.symm h)];exact q t x n
theorem gY(s:St)(dst:a_)(v:AV):(s.put dst v).B=s.B:=by cases dst<;>rfl
theorem dP(s:St)(dst:a_)(v:AV):(s.put dst v).A=s.A:=by cases dst<;>rfl
theorem fS(s:St)(dst:a_)(v:AV):(s.put dst v).c=s.c:=by cases dst<;>rfl
def Does.still(u:Value)(hcore:Core fid g w s.B s.A)(C:qdc fid g w s.r a.tmps)(q:∀d,o.dst=some d->d<a.tmps.size)
 (n:(execOp a.eval o).run P w= .ok (.value u) w) (h:AVR fid g w v u):Does P fid N g w a o s (s.put o.dst v):=
 ⟨.value u,u,w,g,n,.inl rfl,by rw[gY,dP];exact hcore,.refl g w,by rw[dP];exact .refl N g w s.A,gw C h q⟩
theorem gu:∀{cs:aA} {ds:al},aV cs=some ds->cs=ds.map .d
 | [],ds,h=>by simp[aV]at h;subst h;rfl
 | .d v::r,ds,h=>by simp only[aV]at h;obtain⟨q,n,rfl⟩:=ay.1 h;rw[gu n];rfl
 | .ptr _ _::_,_,h=>by simp[aV]at h
 | .ep _::_,_,h=>by simp[aV]at h
 | .nilp::_,_,h=>by simp[aV]at h
 | .fn _ _::_,_,h=>by simp[aV]at h
 | .bsl _ _ _ _ _::_,_,h=>by simp[aV]at h
 | .tsl _ _ _ _::_,_,h=>by simp[aV]at h
 | .ag _ _::_,_,h=>by simp[aV]at h
 | .und::_,_,h=>by simp[aV]at h
theorem jF{B:ar}:aT B i=some cs↔B[i]?=some (some cs):=by
 unfold aT;split
 ·rename_i h;rw[h];simp
 ·rename_i h
  constructor
  ·intro h';simp at h'
  ·intro h';exact absurd h' (by intro d;exact h _ d)
theorem LB{B:ar}{A:Ids}(hc:Core fid g w B A){off:Nat}(X:g.bx i=some b)(h:aP B agg sz i off=some v):
 ∃u,AVR fid g w v u/\(agg=true->∃f:Nat->Value,u= .agg ((List.range sz).map f).toArray/\∀j,j<sz->w.cell? ((⟨b,off,none⟩:Addr).add j)=some (f j))/\(agg=false->w.cell? ⟨b,off,none⟩=some u):=by
 obtain⟨cs,arr,e,R,W,Y,M,V,Z⟩:=hc.box i b X;have C:∀j,w.cell? ((⟨b,off,none⟩:Addr).add j)=arr[off+j]?:=by
  intro j;have:(⟨b,off,none⟩:Addr).add j=⟨b,off+j,none⟩:=by unfold Addr.add;split<;>simp_all
  rw[this];simp[World.cell?,W]
 unfold aP at h;rw[jF.2 R]at h;simp only[a9]at h;cases agg with
 |true=>
  simp only[if_true]at h;split at h
  case isFalse=>simp at h
  rename_i Q;cases hds:aV ((cs.drop off).take sz)with
  |none=>
   rw[hds]at h;simp only[jH]at h;split at h
   ·simp only[aL]at h
    subst h;refine⟨.agg ((List.range sz).map fun j=>arr.getD (off+j) undef).toArray,.ag _ _ (by simp;omega) (fun j v u D J=> ?_),fun _=>⟨_,rfl,fun j D=> ?_⟩,by simp⟩
    ·have q:j<sz:=by have:=(aU.1 D).1;simp at this;omega
     rw[eY,aw q,gP]at D;simp[q]at J;have n:off+j<arr.size:=by omega
     rw[<-J];simp only[kX n,fy];exact M _ _ (arr[off+j]) D (by simp[n])
    ·rw[C]
     have n:off+j<arr.size:=by omega
     simp[n,bZ]
   ·simp at h
  |some ds=>
  rw[hds]at h;simp only[jH,aL]at h;subst h;have O:=gu hds;have G:∀j,j<sz->∃x,ds[j]?=some x/\cs[off+j]?=some (.d x):=by
   intro j D;have:(cs.drop off).take sz=ds.map .d:=O;have H:=mM (·[j]?) this;simp[gP,D]at H;have n:off+j<cs.length:=by omega
   rw[eJ n]at H;cases F:ds[j]? with
   |none=>rw[F]at H;simp at H
   |some x=>rw[F]at H;simp at H;exact⟨x,rfl,by rw[eJ n,H]⟩
  have K:ds.length=sz:=by have:=mM List.length O;simp at this;omega
  refine⟨.agg ((List.range sz).map fun j=>arr.getD (off+j) undef).toArray,.d _ _ (.agg _ _ (by simp[K]) (fun v S=> ?_) fun j v u D J=> ?_),fun _=>⟨_,rfl,fun j D=> ?_⟩,by simp⟩
  ·obtain⟨j,D⟩:=dH.1 S
   have q:j<sz:=by have:=(aU.1 D).1;omega
   obtain⟨x,F,I⟩:=G j q;rw[D]at F;simp at F;subst F
   exact(V _ (cg I)).1
  ·have q:j<sz:=by have:=(aU.1 D).1;omega
   obtain⟨x,F,I⟩:=G j q;rw[D]at F;simp at F;subst F
   simp[q]at J;have n:off+j<arr.size:=by omega
   have:=M _ _ (arr[off+j]) I (by simp[n]);rw[<-J];simp[n];exact dr this
  ·rw[C]
   have n:off+j<arr.size:=by omega
   simp[n,bZ]
 |false=>
  simp at h;have n:off<arr.size:=by have:=(aU.1 h).1;omega
  refine⟨arr[off],M _ _ _ h (by simp[n]),by simp,fun _=> ?_⟩;have:=C 0;simpa[Addr.add,n]using this
section
variable {p:Id} {call:ct} {draw:Bool} {L0 i:Nat} {a:Act} {o:Oper} {s s':St}
theorem EQ{ad:Addr}{u:Value}(n:pw P t=some agg)(h:eT P t=some sz)
 (q:agg=true->∃f:Nat->Value,u= .agg ((List.range sz).map f).toArray/\∀j,j<sz->w.cell? (ad.add j)=some (f j)) (d:agg=false->w.cell? ad=some u):
 (loadVar t ad).run P w= .ok u w:=by
 unfold loadVar;simp only[Sem.run_bind,qVm n,Result.andThen_ok];cases agg with
 |true=>obtain⟨f,rfl,C⟩:=q rfl;simp only[if_true,Sem.run_bind,qi h,Result.andThen_ok];rw[run_loadCells w ad sz f C];simp
 |false=>simp[d rfl]
theorem K2(hcore:Core fid g w s.B s.A)(F:qdc fid g w s.r a.tmps)(S:∀d,o.dst=some d->d<a.tmps.size)(h:aM P fid o.op (.load agg sz x)=true)
(C:aY call p draw L0 i ⟨o.dst,.load agg sz x,gd,af⟩ s=some s') (N:Id->Prop):Nonempty (Does P fid N g w a o s s'):=by
 obtain⟨dst,op,ty,pos,after,guard⟩:=o;cases op with
 |load t y=>
  simp only[aM,aQ,bu]at h;obtain⟨⟨Q,R⟩,O⟩:=h;simp only[aY]at C;split at C
  ·rename_i cs K
   obtain⟨v,D,rfl⟩:=ay.1 C;have n:=bG (w:=w) F O K;generalize V:a.eval y=q at n;cases n with
   |ep _ ad U Z Y J=>obtain⟨u,H,G,I⟩:=TC (g:=g) (w:=w) D ad U J;refine⟨Does.still u hcore F S ?_ (.d _ _ H)⟩;have:=EQ (P:=P) (w:=w) (ad:=ad) (u:=u) Q R (fun e=>⟨U,(G e).1,(G e).2⟩) (fun e=>by have:=I e;rw[this.1];simpa[Addr.add]using this.2);simp[execOp,Instr.loadAt,V,Instr.sureAddr,this]
  ·rename_i b off K
   split at C
   ·simp at C
   ·obtain⟨v,W,rfl⟩:=ay.1 C
    obtain⟨blk,I,X⟩:=fM (bG (w:=w) F O K);obtain⟨u,H,G,M⟩:=LB hcore I W;refine⟨Does.still u hcore F S ?_ H⟩;have:=EQ (P:=P) (w:=w) (ad:=⟨blk,off,none⟩) (u:=u) Q R G M;simp[execOp,Instr.loadAt,X,Instr.sureAddr,this]
  ·simp at C
 |_=>simp[aM]at h
end
end
variable{m:Nat}{e:TypeId}{arr:cA}{y:VX}
section
variable {P:Program} {fid:Nat->FuncId} {g:Gh} {w:World}
theorem ID:∀{l:aA},AV.safe.safes m l=true->∀v:AV,v∈l->v.safe m=true
 | [],_,v,h=>by simp at h
 |a::r,d,v,h=>by
  unfold AV.safe.safes at d;simp only[aQ]at d;rcases bK.1 h with rfl|h
  ·exact d.1
  ·exact ID d.2 v h
theorem Hg{t:Bool}(h:(AV.ag t cs).safe m=true):∀v:AV,v∈(AV.ag t cs).cells->v.safe m=true:=by
 intro v d;cases t with
 |false=>unfold AV.safe at h;exact ID h v d
 |true=>simp[AV.cells]at d;subst d;exact h
theorem U5{u:Value}(h:AVR fid g w v u)(hc:v.isCell=true):u.oneCell'=true:=by
 cases h with
 |d v u n=>cases n<;>first|rfl|simp[AV.isCell,DV.isCell]at hc
 |ag cs us q h=>simp[AV.isCell]at hc
 |tp cs us q h=>simp[AV.isCell]at hc
 |und=>simp[AV.isCell]at hc
 |_=>rfl
theorem si{u:Value}(h:AVR fid g w v u)(hc:v.cells.all AV.isCell=true):
 u.cells.size=v.cells.length/\(∀(j:Nat) (c:AV) (x:Value),v.cells[j]?=some c->u.cells[j]?=some x->AVR fid g w c x)/\(∀x,x∈u.cells.toList->x.oneCell'=true):=by
 have one:∀(v:AV) (u:Value),v.cells=[v]->u.cells= #[u]->u.oneCell'=true->AVR fid g w v u->
  u.cells.size=v.cells.length/\(∀(j:Nat) (c:AV) (x:Value),v.cells[j]?=some c->u.cells[j]?=some x->AVR fid g w c x)/\(∀x,x∈u.cells.toList->x.oneCell'=true):=by
  intro v u F D M J;rw[F,D];refine⟨rfl,fun j c x I K=> ?_,fun x H=>by simp at H;subst H;exact M⟩;cases j<;>simp at I K
  subst I;subst K;exact J
 cases h with
 |d v u q=>
  cases v with
  |agg cs=>
   have O:∀c,c∈(DV.agg cs).cells->c.isCell=true:=by intro c V;have:=bB.1 hc (.d c) (by simp[AV.cells];exact V);exact this
   obtain⟨F,D,M⟩:=Fq q O;refine⟨by simpa[AV.cells,DV.cells]using F,fun j c x J I=> ?_,M⟩;simp only[AV.cells,c7]at J;obtain⟨c',K,rfl⟩:=ay.1 J;exact .d _ _ (D j c' x K I)
  |tup cs=>simp[AV.cells,AV.isCell,DV.isCell]at hc
  |int k n=>exact one _ _ rfl (by cases q;rfl) (by cases q;rfl) (.d _ _ q)
  |bool b=>exact one _ _ rfl (by cases q;rfl) (by cases q;rfl) (.d _ _ q)
  |str b=>exact one _ _ rfl (by cases q;rfl) (by cases q;rfl) (.d _ _ q)
  |sl t xs=>exact one _ _ rfl (by cases q<;>rfl) (by cases q<;>rfl) (.d _ _ q)
 |ptr i off b h=>exact one _ _ rfl rfl rfl (.ptr i off b h)
 |ep cs ad U C S h=>exact one _ _ rfl rfl rfl (.ep cs ad U C S h)
 |nilp=>exact one _ _ rfl rfl rfl .nilp
 |fn f cap us C h=>exact one _ _ rfl rfl rfl (.fn f cap us C h)
 |bsl id ag i sz n b h=>exact one _ _ rfl rfl rfl (.bsl id ag i sz n b h)
 |tsl ag i sz n c b h F D=>exact one _ _ rfl rfl rfl (.tsl ag i sz n c b h F D)
 |ag cs us C h=>
  refine⟨C,h,fun x H=> ?_⟩;obtain⟨j,R⟩:=dH.1 H;have G:us[j]?=some x:=by simpa[Value.cells]using R
  have Q:j<cs.length:=by have:=(d9.1 G).1;omega
  exact U5 (h j cs[j] x (by simp[Q]) G) (bB.1 hc _ (by simp[AV.cells]))
 |tp cs us C h=>simp[AV.cells,AV.isCell]at hc
 |und=>simp[AV.cells,AV.isCell]at hc
theorem G4{arr':cA}(u:w.heap[b]?=some (.cells arr e (0,0)))(q:g.K b=0):Ext g w g (w.setRow b arr'):=by
 refine⟨⟨fun _=>bf _,fun ad n=> ?_,fun _ _ h=>h⟩,fun _ _ h=>h⟩;have d:ad.block≠b:=fun h=>by rw[h,q]at n;omega
 simp only[World.cell?];rw[setRow_other w b ad.block arr' d]
section
variable {p:Id} {call:ct} {draw:Bool} {L0 i:Nat} {a:Act} {o:Oper} {s s':St}
theorem Fi(hcore:Core fid g w s.B s.A)(hr:qdc fid g w s.r a.tmps)(hd:∀d,o.dst=some d->d<a.tmps.size){X:Bool}(h:aM P fid o.op (.store X sz x y)=true)
(W:aY call p draw L0 i ⟨o.dst,.store X sz x y,gd,af⟩ s=some s') (N:Id->Prop):Nonempty (Does P fid N g w a o s s'):=by
 obtain⟨dst,op,ty,pos,after,guard⟩:=o;cases op with
 |store t x' y'=>
  simp only[aM,aQ,bu]at h;obtain⟨⟨h1,h2⟩,h3⟩:=h;simp only[aY]at W;split at W
  ·rename_i b off v hx hy
   split at W
   ·simp at W
   ·obtain⟨s1,F,rfl⟩:=ay.1 W
    unfold jr at F;obtain⟨cs,x1,F⟩:=az.1 F;split at F
    ·rename_i S
     obtain⟨hsz,hlen,Q,K⟩:=S;simp at F;subst F
     obtain⟨blk,Z,he⟩:=fM (bG (w:=w) hr h2 hx);have h4:=bG (w:=w) hr h3 hy;generalize hq:a.eval y'=q at h4;obtain⟨c1,c2,c3⟩:=si h4 Q;obtain⟨R,arr,e,b1,b2,b3,b4,b5,b6⟩:=hcore.box b blk Z;have:R=cs:=by have:=jF.1 x1;rw[b1]at this;simpa using this
     subst this;have x2:=run_storeCells_at (P:=P) blk off e q.cells.toList 0 arr w b2 (by simp;omega) c3;have O:(execOp a.eval ⟨dst,.store t x' y',ty,pos,after,guard⟩).run P w= .ok .skip (w.setRow blk (arr.toList.take (off+0)++q.cells.toList++arr.toList.drop (off+0+q.cells.toList.length)).toArray):=by simp only[execOp,Instr.storeAt,he,Instr.sureAddr,hq,Sem.run_bind,Sem.run_pure,Result.andThen_ok,storeVar,qi h1];rw[au (by simp;omega),x2];simp
     have Y:(arr.toList.take (off+0)++q.cells.toList++arr.toList.drop (off+0+q.cells.toList.length))=splice arr.toList off q.cells.toList:=by simp[splice]
     rw[Y]at O;have D:=G4 (g:=g) (arr':=(splice arr.toList off q.cells.toList).toArray) b2 b6;have I:=setRow_heap w blk arr (splice arr.toList off q.cells.toList).toArray e (0,0) b2;have G:∀b',b'≠blk->(w.setRow blk (splice arr.toList off q.cells.toList).toArray).heap[b']?=w.heap[b']?:=fun b' C=>setRow_other w blk b' _ C
     have a2:b<s.B.length:=(aU.1 b1).1;refine⟨⟨.skip,undef,_,g,O,.inr ⟨rfl,rfl⟩,?_,.refl g w,?_,?_⟩⟩
     ·rw[gY,dP]
      refine⟨fun i b' C=> ?_,hcore.inj,fun id V=> ?_,hcore.apart,fun b' C=>hcore.K0 b' (by simpa[World.setRow]using C)⟩
      ·by_cases hi:i=b
       ·subst hi
        rw[Z]at C;simp at C;subst C
        refine⟨splice R off v.cells,_,e,by simp[a2],I,?_,fun j v' u' H M=> ?_,fun v' hm=> ?_,b6⟩
        ·simp only[iV]
         rw[kK R _ _ (by omega),kK arr.toList _ _ (by simp;omega)];simpa using b3
        ·rw[ke _ _ _ (by omega)]at H
         simp only[qt]at M;rw[ke _ _ _ (by simp;omega)]at M
         by_cases hc:off<=j/\j<off+v.cells.length
         ·rw[aw hc]at H
          rw[aw (by simp;omega)]at M;exact(c2 _ _ _ H (by simpa using M)).mono fid D
         ·rw[au hc]at H
          rw[au (by simp;omega)]at M;exact(b4 _ _ _ H (by simpa using M)).mono fid D
        ·obtain⟨j,H⟩:=dH.1 hm
         rw[ke _ _ _ (by omega)]at H;split at H
         ·have u:=cg H
          refine⟨bB.1 Q _ u,?_⟩;cases v with
          |d dv=>
           have:∃d',v'= .d d':=by cases dv<;>simp[AV.cells]at u<;>first|exact⟨_,u⟩|(obtain⟨d',_,rfl⟩:=u;exact⟨d',rfl⟩)
           obtain⟨d',rfl⟩:=this;unfold AV.safe;rfl
          |ag tp cs=>exact Hg K _ u
          |_=>simp[AV.cells]at u;subst u;exact K
         ·exact b5 _ (cg H)
       ·obtain⟨a3,J,e2,d1,d2,d3,d4,d5,d6⟩:=hcore.box i b' C
        have a1:b'≠blk:=fun h=>hi (hcore.inj i b b' C (by rw[h];exact Z))
        refine⟨a3,J,e2,by rw[dK (by omega)];exact d1,by rw[G _ a1];exact d2,d3,fun j v' u' H M=>(d4 j v' u' H M).mono fid D,d5,d6⟩
      ·obtain⟨bb,n,c,x3,J,e2,o1,o2,o3,o4,o5,o6⟩:=hcore.opn id V
       exact⟨bb,n,c,x3,J,e2,o1,by rw[G _ (fun h=>o6 b (by rw[h];exact Z))];exact o2,o3,o4,o5,o6⟩
     ·rw[dP]
      refine⟨rfl,rfl,rfl,by simp[World.setRow],D.toExtV,fun b' hlt' h5 _=>⟨G b' (fun h=>h5 b (by rw[h];exact Z)),rfl⟩,fun _ h=>absurd rfl h,fun id b' V C=> .inr ⟨id,V,C⟩,fun b' c' e' z' h'=>by
       by_cases he:b'=blk
       ·subst he
        rw[b2]at h';simp only[aL,Obj.cells.injEq]at h';obtain⟨rfl,rfl,rfl⟩:=h';exact⟨_,I,by rw[iV,kK _ _ _ (by simp;omega)];simp⟩
       ·exact⟨c',by rw[G b' he];exact h',rfl⟩⟩
     ·exact gw (s:={s with B:=_}) (hr.mono fid D) .und hd
    ·simp at F
  ·simp at W
 |_=>simp[aM]at h
end
end
variable{i0 k:Nat}
section
variable {P:Program} {fid:Nat->FuncId} {g:Gh} {w:World}
theorem to(w:World)(o:Obj)(h:b<w.heap.size):({w with heap:=w.heap.push o}:World).heap[b]?=w.heap[b]?:=by simp[Array.getElem?_push,Nat.ne_of_lt h]
theorem Xn(w:World)(o:Obj):({w with heap:=w.heap.push o}:World).heap[w.heap.size]?=some o:=by simp
theorem Pb{K0:∀b,w.heap.size<=b->g.K b=0}(o:Obj):ExtV g w g {w with heap:=w.heap.push o}:=by
 refine⟨fun _=>bf _,fun ad n=> ?_,fun _ _ h=>h⟩;have d:ad.block<w.heap.size:=by
  rcases eN ad.block w.heap.size with h|h
  ·exact h
  ·rw[K0 _ h]at n;omega
 simp only[World.cell?];rw[to w o d]
theorem Qk{B:ar}:cO B i=true↔B[i]?=some none:=by
 unfold cO;split
 ·rename_i h;rw[h];simp
 ·rename_i h
  constructor
  ·intro h';simp at h'
  ·intro h';exact absurd h' h
theorem Core.lt{B:ar}{A:Ids}(hc:Core fid g w B A)(h:g.bx i=some b):b<w.heap.size:=by obtain⟨cs,arr,e,_,d,_⟩:=hc.box i b h;exact(d9.1 d).1
theorem RG{B:ar}{A:Ids}(hc:Core fid g w B A)(hf:cO B i0=true)(cs:aA)(arr:cA)(e:TypeId)(M:arr.size=cs.length)
 (hv:∀(j:Nat) (v:AV) (u:Value),cs[j]?=some v->arr[j]?=some u->AVR fid g w v u) (F:∀v,v∈cs->v.isCell=true/\v.safe i0=true) (N:Id->Prop):
 ∃g1,Core fid g1 {w with heap:=w.heap.push (.cells arr e)} (B.set i0 (some cs)) A/\Boxes g w g1/\Step N g w A g1 {w with heap:=w.heap.push (.cells arr e)} A/\
  Ext g w g1 {w with heap:=w.heap.push (.cells arr e)}/\g1.bx i0=some w.heap.size:=by
 have V:=Qk.1 hf;have R:i0<B.length:=(aU.1 V).1;have D:g.bx i0=none:=by
  cases h:g.bx i0 with
  |none=>rfl
  |some b=>obtain⟨G,arr',S,d,_⟩:=hc.box i0 b h;rw[V]at d;simp at d
 have hE:ExtV g w g {w with heap:=w.heap.push (.cells arr e)}:=Pb (K0:=hc.K0) _;have q:Ext g w {g with bx:=fun j=>if j=i0 then some w.heap.size else g.bx j} {w with heap:=w.heap.push (.cells arr e)}:=by refine⟨⟨hE.K,hE.cell,hE.row⟩,fun i b h=> ?_⟩;simp only;rw[au (fun he=>by rw[he,D]at h;simp at h)];exact h
 refine⟨{g with bx:=fun j=>if j=i0 then some w.heap.size else g.bx j},⟨fun i b h=> ?_,fun i j b d C=> ?_,fun a ha=> ?_,hc.apart,fun b H=>hc.K0 b (by simp at H;omega)⟩,⟨q.bx,fun i b h=> ?_⟩,?_,q,by simp⟩
 ·simp only at h
  by_cases hi:i=i0
  ·subst hi
   simp at h;subst h
   exact⟨cs,arr,e,by simp[R],Xn w _,Nat.le_of_eq M.symm,fun j v u d C=>(hv j v u d C).mono fid q,F,hc.K0 _ (bf _)⟩
  ·rw[au hi]at h
   obtain⟨G,arr',S,d,C,X,h4,h5,h6⟩:=hc.box i b h;exact⟨G,arr',S,by rw[dK (Ne.symm hi)];exact d,by rw[to w _ (hc.lt h)];exact C,X,fun j v u h7 h8=>(h4 j v u h7 h8).mono fid q,h5,h6⟩
 ·simp only at d C
  by_cases hi:i=i0<;>by_cases J:j=i0
  ·rw[hi,J]
  ·rw[aw hi]at d;rw[au J]at C
   simp at d;subst d
   have:=hc.lt C;omega
  ·rw[au hi]at d;rw[aw J]at C
   simp at C;subst C
   have:=hc.lt d;omega
  ·rw[au hi]at d;rw[au J]at C
   exact hc.inj i j b d C
 ·obtain⟨b,n,c,sz,I,e2,o1,W,o3,Y,o5,Z⟩:=hc.opn a ha
  have O:b<w.heap.size:=(d9.1 W).1;refine⟨b,n,c,sz,I,e2,o1,by rw[to w _ O];exact W,o3,Y,o5,fun i h=> ?_⟩;simp only at h;split at h
  ·simp at h;omega
  ·exact Z i h
 ·simp only at h
  split at h
  ·simp at h;subst h;exact .inr (bf _)
  ·exact .inl h
 ·refine⟨rfl,rfl,rfl,by simp,⟨hE.K,hE.cell,hE.row⟩,fun b H _ _=>⟨to w _ H,rfl⟩,fun _ h=>absurd rfl h,fun id b Q H=> .inr ⟨id,Q,H⟩,fun b c e z h=>⟨c,by rw[to w _ (d9.1 h).1];exact h,rfl⟩⟩
section
variable {p:Id} {call:ct} {draw:Bool} {L0 i:Nat} {a:Act} {o:Oper} {s s':St}
theorem GG(hcore:Core fid g w s.B s.A)(H:qdc fid g w s.r a.tmps)(F:∀d,o.dst=some d->d<a.tmps.size)(G:cO s.B i0=true)(q:arr.size=cs.length)
 (K:∀(j:Nat) (v:AV) (u:Value),cs[j]?=some v->arr[j]?=some u->AVR fid g w v u) (h:∀v,v∈cs->v.isCell=true/\v.safe i0=true) (N:Id->Prop) {u:Value}
 (n:(execOp a.eval o).run P w= .ok (.value u) {w with heap:=w.heap.push (.cells arr e)})
 (J:∀(g1:Gh) (M:World),g1.bx i0=some w.heap.size->AVR fid g1 M v u):
 Nonempty (Does P fid N g w a o s ({s with B:=s.B.set i0 (some cs)}.put o.dst v)):=by
 obtain⟨g1,c1,C,s1,D,I⟩:=RG hcore G cs arr e q K h N;refine⟨⟨_,u,_,g1,n,.inl rfl,by rw[gY,dP];exact c1,C,by rw[dP];exact s1,gw (s:={s with B:=_}) (H.mono fid D) (J g1 _ I) F⟩⟩
theorem SU(hcore:Core fid g w s.B s.A)(M:qdc fid g w s.r a.tmps)(K:∀d,o.dst=some d->d<a.tmps.size){zero:al}(h:aM P fid o.op (.alloc k zero)=true)
(q:aY call p draw L0 i ⟨o.dst,.alloc k zero,gd,af⟩ s=some s') (N:Id->Prop):Nonempty (Does P fid N g w a o s s'):=by
 obtain⟨dst,op,ty,pos,after,guard⟩:=o;cases op with
 |alloc t=>
  simp only[aM]at h;unfold wc at h;split at h
  ·rename_i z I
   obtain⟨it,D,hzero⟩:=az.1 I;simp only[aY]at q;split at q
   ·rename_i hc
    simp at q;subst q
    have n:=HQ (g:=g) (w:=w) h;refine GG (arr:=z.cells) (e:=t) (u:= .pointer (some ⟨w.heap.size,0,none⟩)) hcore M K hc.1 (by simpa using n.1) (fun j v u F H=> ?_) (fun v G=> ?_) N ?_ (fun g1 O J=> .ptr _ _ _ J)
    ·simp only[c7]at F
     obtain⟨d,C,rfl⟩:=ay.1 F;exact .d _ _ (n.2.2 j d u C H)
    ·simp at G
     obtain⟨d,C,rfl⟩:=G;exact⟨n.2.1 d C,by unfold AV.safe;rfl⟩
    ·simp[execOp,Instr.alloc,zeroValue,typeInfo,D,hzero,newVar,newRow]
   ·simp at q
  ·simp at h
 |_=>simp[aM]at h
theorem qXr(hcore:Core fid g w s.B s.A)(I:qdc fid g w s.r a.tmps)(M:∀d,o.dst=some d->d<a.tmps.size)(h:aM P fid o.op (.box k x)=true)
(D:aY call p draw L0 i ⟨o.dst,.box k x,gd,af⟩ s=some s') (N:Id->Prop):Nonempty (Does P fid N g w a o s s'):=by
 obtain⟨dst,op,ty,pos,after,guard⟩:=o;cases op with
 |box t y=>
  simp only[aM]at h;simp only[aY]at D;obtain⟨v,K,D⟩:=az.1 D;split at D
  ·rename_i hc
   obtain⟨O,C,n⟩:=hc;simp at D;subst D
   have H:=bG (w:=w) I h K;generalize R:a.eval y=q at H;obtain⟨c1,Q,V⟩:=si H C;refine GG (arr:=q.cells) (e:=t) (u:= .pointer (some ⟨w.heap.size,0,none⟩)) hcore I M O c1 Q (fun v' F=> ?_) N ?_ (fun g1 W J=> .ptr _ _ _ J)
   ·refine⟨bB.1 C _ F,?_⟩
    cases v with
    |d S=>
     have:∃G,v'= .d G:=by cases S<;>simp[AV.cells]at F<;>first|exact⟨_,F⟩|(obtain⟨G,_,rfl⟩:=F;exact⟨G,rfl⟩)
     obtain⟨G,rfl⟩:=this;unfold AV.safe;rfl
    |ag tp cs=>exact Hg n _ F
    |_=>simp[AV.cells]at F;subst F;exact n
   ·simp[execOp,Instr.box,R,newVar,newRow]
  ·simp at D
 |_=>simp[aM]at h
end
end
variable{id:Id}{r:aE}{z:DV}{bytes:Nat}
section
variable {P:Program} {fid:Nat->FuncId} {g:Gh} {w:World}
theorem wrap_i64{n:Int}(h: -9223372036854775808<=n)(h':n<9223372036854775808):IntKind.i64.wrap n=n:=by show(if(true&&decide (n%18446744073709551616>=9223372036854775808))=true then n%18446744073709551616-18446744073709551616 else n%18446744073709551616)=n;simp only[fh,bu];split<;>omega
def flat(xs:al):al:=xs.flatMap DV.cells
theorem nH{s:Nat}:∀{xs:al},(∀x:DV,x∈xs->x.cells.length=s)->(flat xs).length=xs.length*s
 | [],_=>by simp[flat]
 |x::xs,h=>by
  have q:=h x (by simp);have d:=nH (xs:=xs) (fun y n=>h y (by simp[n]));simp only[flat,eI,ek,de,dF]at d⊢
  omega
theorem flat_get{s:Nat}:∀{xs:al},(∀x:DV,x∈xs->x.cells.length=s)->∀(i j:Nat) (x:DV),xs[i]?=some x->j<s->(flat xs)[i*s+j]?=x.cells[j]?
 | [],_,i,j,x,h,_=>by simp at h
 |y::d,n,i,j,x,h,q=>by
  have D:=n y (by simp);have hc:flat (y::d)=y.cells++flat d:=by simp[flat]
  cases i with
  |zero=>
   simp at h;subst h
   rw[hc,cf (by omega)];simp
  |succ i=>
   simp at h;have C:=flat_get (xs:=d) (fun z u=>n z (by simp[u])) i j x h q;rw[hc,cF (by rw[dF];omega),<-C]
   congr 1
   rw[dF];omega
theorem NV{s:Nat}:∀{xs:al} (i:Nat) (v:DV),(∀x:DV,x∈xs->x.cells.length=s)->v.cells.length=s->i<xs.length->flat (xs.set i v)=splice (flat xs) (i*s) v.cells
 | [],i,v,_,_,h=>by simp at h
 |y::F,i,v,q,n,h=>by
  have D:=q y (by simp);have hc:∀z d,flat (z::d)=z.cells++flat d:=fun z d=>by simp[flat]
  cases i with
  |zero=>simp only[nE,hc,splice,td,rS,dG,fR];rw[n,<-D,List.drop_left]
  |succ i=>
   simp only[List.set_cons_succ,hc];rw[NV i v (fun z u=>q z (by simp[u])) n (by simpa using h)];simp only[splice];have C:(i+1)*s=y.cells.length+i*s:=by rw[dF];omega
   rw[C,List.take_append,dE (l:=y.cells) (by omega),show y.cells.length+i*s-y.cells.length=i*s by omega];rw[uy,ki (as:=y.cells) (by omega),show y.cells.length+i*s+v.cells.length-y.cells.length=i*s+v.cells.length by omega];simp[cr]
theorem xS{B:ar}{A:Ids}(hc:Core fid g w B A)(H:g.row id=none)(xs:al)(sz c:Nat)(arr:cA)(e:TypeId)(M:World)
 (h1:M.heap=w.heap.push (.cells arr e)) (ho:M.os=w.os) (ht:M.tape=w.tape) (h2:M.output=w.output)
 (O:xs.length<=c) (h3:xs=[]->c=0) (hm:c<=maxLen) (X:arr.size=c*sz) (R:∀x:DV,x∈xs->x.cells.length=sz/\∀v:DV,v∈x.cells->v.isCell=true)
 (hv:∀(k:Nat) (v:DV),(flat xs)[k]?=some v->∃u,arr[k]?=some u/\VR g w v u) (N:Id->Prop) (hN:N id):
 ∃g1,Core fid g1 M B (Ids.add id A)/\Boxes g w g1/\Step N g w A g1 M (Ids.add id A)/\Ext g w g1 M/\VR g1 M (.sl (.own id sz) xs) (.slice (some ⟨w.heap.size,0,none⟩) xs.length c):=by
 have F:∀b,b<w.heap.size->M.heap[b]?=w.heap[b]?:=fun b q=>by rw[h1];simp[Array.getElem?_push,Nat.ne_of_lt q]
 have V:M.heap[w.heap.size]?=some (.cells arr e):=by rw[h1];simp
 have a1:=nH (xs:=xs) (fun x hx=>(R x hx).1);have D:Ext g w {K:=fun b=>if b=w.heap.size then xs.length*sz else g.K b,row:=fun a=>if a=id then some (w.heap.size,xs.length,c,sz)else g.row a,bx:=g.bx} M:=by
  refine⟨⟨fun b=> ?_,fun ad x3=> ?_,fun a x h=> ?_⟩,fun _ _ h=>h⟩
  ·simp only
   split
   ·rename_i q;subst q;rw[hc.K0 _ (bf _)];exact db _
   ·exact bf _
  ·have J:ad.block<w.heap.size:=by
    rcases eN ad.block w.heap.size with h|h
    ·exact h
    ·rw[hc.K0 _ h]at x3;omega
   simp only[World.cell?];rw[F _ J]
  ·simp only
   rw[au (fun he=>by rw[he,H]at h;simp at h)];exact h
 have Y:∀a b x,A a=true->g.row a=some (b,x)->b<w.heap.size:=by
  intro a b x d q;obtain⟨b',n,c',S,Q,e2,W,o2,_⟩:=hc.opn a d;rw[q]at W;simp at W
  rw[W.1];exact(d9.1 o2).1
 have C:∀a,A a=true->a≠id:=by intro a d he;obtain⟨b',n,c',S,Q,e2,W,_⟩:=hc.opn a d;rw[he,H]at W;simp at W
 refine⟨{K:=fun b=>if b=w.heap.size then xs.length*sz else g.K b,row:=fun a=>if a=id then some (w.heap.size,xs.length,c,sz)else g.row a,bx:=g.bx},⟨fun i b h=> ?_,hc.inj,fun a d=> ?_,fun a a' b x x' d G q I=> ?_,fun b q=> ?_⟩,⟨D.bx,fun i b h=> .inl h⟩,⟨ho,ht,h2,by rw[h1];simp,D.toExtV,fun b q _ _=>⟨F b q,?_⟩,fun a d=> ?_,fun a b d q=> ?_,fun b c e z h=>⟨c,by rw[F b (d9.1 h).1];exact h,rfl⟩⟩,D,?_⟩
 ·obtain⟨h4,arr',e',b1,b2,b3,b4,b5,b6⟩:=hc.box i b h
  have J:=hc.lt h;refine⟨h4,arr',e',b1,by rw[F _ J];exact b2,b3,fun j v u h7 h8=>(b4 j v u h7 h8).mono fid D,b5,?_⟩;simp only;rw[au (by omega)];exact b6
 ·simp only[Ids.add,cI,bu]at d
  rcases d with rfl|d
  ·exact⟨w.heap.size,xs.length,c,sz,arr,e,by simp,V,Nat.le_of_eq X.symm,by simp,O,fun i h=>by have:=hc.lt h;omega⟩
  ·obtain⟨b,n,c',S,Q,e2,W,o2,o3,o4,o5,o6⟩:=hc.opn a d
   have J:b<w.heap.size:=(d9.1 o2).1;refine⟨b,n,c',S,Q,e2,by simp only;rw[au (C a d)];exact W,by rw[F _ J];exact o2,o3,?_,o5,o6⟩;simp only;rw[au (by omega)];exact o4
 ·simp only[Ids.add,cI,bu]at d G
  simp only at q I;rcases d with rfl|d<;>rcases G with rfl|G
  ·rfl
  ·rw[au (C a' G)]at I
   simp at q;have:=Y a' b x' G I;omega
  ·rw[au (C a d)]at q
   simp at I;have:=Y a b x d q;omega
  ·rw[au (C a d)]at q
   rw[au (C a' G)]at I;exact hc.apart a a' b x x' d G q I
 ·rw[h1]at q
  simp at q;simp only;rw[au (by omega)];exact hc.K0 b (by omega)
 ·simp only
  rw[au (by omega)]
 ·simp only at d
  split at d
  ·rename_i he;subst he;exact hN
  ·exact absurd rfl d
 ·simp only[Ids.add,cI,bu]at d
  simp only[Gh.blk]at q;rcases d with rfl|d
  ·simp at q;left;omega
  ·rw[au (C a d)]at q
   exact .inr ⟨a,d,q⟩
 ·refine .row _ xs ⟨w.heap.size,0,none⟩ c sz (fun k=>arr.getD k undef) (by simp) O hm (fun k hk=> ?_) (.inr (by simp)) (fun i x hi=>R x (cg hi)) (fun i x j v hi hj=> ?_) (fun a S h=> ?_)
  ·have:(⟨w.heap.size,0,none⟩:Addr).add k=⟨w.heap.size,k,none⟩:=by unfold Addr.add;split<;>simp_all
   rw[this];have x2:k<arr.size:=by rw[X];exact nt hk (fP _ O)
   simp[World.cell?,V,x2,bZ]
  ·have hx:=R x (cg hi)
   have h5:j<sz:=by have:=(aU.1 hj).1;omega
   have Z:=flat_get (xs:=xs) (fun x hx=>(R x hx).1) i j x hi h5;rw[hj]at Z;obtain⟨u,hu,x1⟩:=hv _ _ Z;rw[bZ,hu];exact x1.mono D.toExtV
  ·simp at h
   obtain⟨rfl,rfl⟩:=h;exact⟨rfl,rfl,rfl,by simp,h3⟩
section
variable {p:Id} {call:ct} {draw:Bool} {L0 i:Nat} {a:Act} {o:Oper} {s s':St}
theorem Mr:∀(ps:xO) (q:i9) (xs d:al),oR fid ps q=true->df (VX.get r) sz xs q=some d->
 (∀x:DV,x∈xs->x.cells.length=sz/\∀v:DV,v∈x.cells->v.isCell=true)->
 ∃n,lT fid (fun i=>some (i*sz,sz)) ps n=true/\ez (VX.get r) (flat xs) n=some (flat d)/\d.length=xs.length/\
  (∀x:DV,x∈d->x.cells.length=sz/\∀v:DV,v∈x.cells->v.isCell=true)
 | [],[],xs,d,_,h,H=>by simp[df]at h;subst h;exact⟨[],rfl,rfl,rfl,H⟩
 |(i,o)::ps,(Z,x)::q,xs,d,F,h,H=>by
  simp only[oR,aQ,fa]at F;obtain⟨⟨rfl,O⟩,M⟩:=F;simp only[df]at h;split at h
  ·rename_i v Q
   split at h
   ·rename_i hc
    obtain⟨J,hi,u⟩:=hc;have C:∀c:DV,c∈v.cells->c.isCell=true:=fun c X=>bB.1 u c X
    have I:∀x:DV,x∈xs.set i v->x.cells.length=sz/\∀v:DV,v∈x.cells->v.isCell=true:=by
     intro y Y;rcases rY Y with G|G
     ·exact H y G
     ·subst G;exact⟨J,C⟩
    obtain⟨n,G,R,S,W⟩:=Mr ps q _ d M h I;refine⟨(i*sz,sz,x)::n,by simp[lT,O,G],?_,by simpa using S,W⟩;have K:=nH (xs:=xs) (fun x D=>(H x D).1);have V:i*sz+sz<=(flat xs).length:=by rw[K];have:=fP sz (show i+1<=xs.length by omega);rw[dF]at this;omega
    simp only[ez,Q];rw[aw ⟨J,by omega,u⟩,<-NV i v (fun x D=>(H x D).1) J hi];exact R
   ·simp at h
  ·simp at h
 | [],_::_,_,_,h,_,_=>by simp[oR]at h
 |_::_,[],_,_,h,_,_=>by simp[oR]at h
theorem MP{v:DV}{it:TypeInfo}{z:Value}(n:P.info? t=some it)(D:it.zero=some z)(h:zeroV P t v=true)(hc:v.cells.all DV.isCell=true):qeu g w v.cells z.cells:=by unfold zeroV at h;simp[n,D]at h;have d:=I0 (g:=g) (w:=w) h;obtain⟨C,u,F⟩:=Fq d (fun c q=>bB.1 hc c q);exact⟨C,fun c q=>bB.1 hc c q,u⟩
theorem KJ{q:cA}(K:qeu g w z.cells q)(I:z.cells.length=sz)(n:Nat):
 qeu g w (flat (List.replicate n z)) ((Array.range (n*sz)).map fun j=>q[j%q.size]!):=by
 have R:q.size=sz:=by rw[K.1,I]
 have M:(flat (List.replicate n z)).length=n*sz:=by rw[nH (s:=sz) (fun x D=>by rw[uM D];exact I)];simp
 refine⟨by simp[M],fun v G=> ?_,fun j v u O H=> ?_⟩
 ·simp only[flat,vS]at G
  obtain⟨x,D,G⟩:=G;rw[uM D]at G;exact K.2.1 v G
 ·have d:j<n*sz:=by have:=(aU.1 O).1;omega
  have J:0<sz:=by
   rcases kY sz with h|h
   ·rw[h]at d;simp at d
   ·exact h
  have S:j/sz<n:=FQ (by rw[mK];exact d);have Q:=Nat.mod_lt j J;have C:=flat_get (xs:=List.replicate n z) (s:=sz) (fun x D=>by rw[uM D];exact I) (j/sz) (j%sz) z (by simp[S]) Q;rw[show j/sz*sz+j%sz=j by rw[mK];exact Cs j sz,O]at C;simp[d]at H;have F:j%sz<q.size:=by omega
  rw[R]at H;simp[F]at H;exact K.2.2 _ _ _ C.symm (by rw[<-H];simp[F])
theorem qpR(hcore:Core fid g w s.B s.A)(hr:qdc fid g w s.r a.tmps)(hd:∀d,o.dst=some d->d<a.tmps.size){n:Nat}{G:i9}(h:aM P fid o.op (.buildSlice sz z n G)=true)
(H:aY call p draw L0 i ⟨o.dst,.buildSlice sz z n G,gd,af⟩ s=some s') (h5:g.row ((s.c+i)::p)=none):Nonempty (Does P fid (under (s.c+i) p) g w a o s s'):=by
 obtain⟨dst,op,ty,pos,after,guard⟩:=o;cases op with
 |buildSlice t D ps=>
  simp only[aM,aQ,bu]at h;obtain⟨rfl,h⟩:=h;split at h
  ·rename_i e he
   simp only[aQ,bu]at h;obtain⟨⟨h1,Q⟩,h3⟩:=h;have hu:=qS he;obtain⟨it,F,x2⟩:=uk h1;simp only[aY]at H;split at H
   ·rename_i hc
    obtain⟨I,O,x1,S⟩:=hc;obtain⟨xs,V,rfl⟩:=ay.1 H;obtain⟨R,K⟩:∃R,it.zero=some R:=by
     unfold zeroV at Q;simp[F]at Q;cases hq:it.zero with
     |none=>simp[hq]at Q
     |some z=>exact⟨z,rfl⟩
    have hz:=MP (g:=g) (w:=w) F K Q O;have W:=KJ hz I D;obtain⟨Y,q1,q2,q3,q4⟩:=Mr ps.toList G _ xs h3 V (fun x Z=>by rw[uM Z];exact⟨I,fun v H=>bB.1 O v H⟩);obtain⟨arr,f1,f2⟩:=Dw hr _ ps.toList Y _ _ _ q1 q2 W;have C:xs.length=D:=by simpa using q3
    have h4:=nH (xs:=xs) (fun x Z=>(q4 x Z).1);obtain⟨g1,c1,b1,s1,e1,v1⟩:=xS hcore h5 xs sz D arr e {w with heap:=w.heap.push (.cells arr e)} rfl rfl rfl rfl (by omega) (fun h=>by rw[h]at C;simpa using C.symm)
     (by simp only[maxLen];omega)
     (by rw[f2.1,h4,C]) q4 (fun k v hk=>by
      have M:k<arr.size:=by have:=(aU.1 hk).1;rw[f2.1];exact this
      exact⟨arr[k],by simp[M],f2.2.2 k v _ hk (by simp[M])⟩) (under (s.c+i) p) ⟨[],rfl⟩
    refine⟨⟨_,.slice (some ⟨w.heap.size,0,none⟩) D D,_,g1,?_,.inl rfl,by rw[gY,dP];exact c1,b1,by rw[dP];exact s1,gw (s:={s with A:=_}) (hr.mono fid e1) (.d _ _ (by rw[C]at v1;exact v1)) hd⟩⟩;have X:¬(2^24<D*sz):=by omega
    have u:Instr.fill (fun i=>some (i*sz,sz)) ((Array.range (D*sz)).map fun j=>R.cells[j%R.cells.size]!) (ps.map fun(i,x)=>(i,a.eval x)).toList=some arr:=by
     have e:(ps.map fun(i,x)=>(i,a.eval x)).toList=ps.toList.map fun q=>(q.1,a.eval q.2):=by simp
     rw[e];exact f1
    simp only[execOp,Instr.buildSlice,Sem.run_bind,te hu,Result.andThen_ok,qi h1]
    by_cases h0:D*sz=0
    ·simp only[h0]at u⊢
     simp at u;have J:∀f:Nat->Value,Array.map f (Array.range 0)= #[]:=fun f=>by simp[Array.range]
     rw[J]at u;simp[J,u,newRow]
    ·simp[X,h0,zeroValue,typeInfo,F,K]
     simp at u;simp[u,newRow]
   ·simp at H
  ·simp at h
 |_=>simp[aM]at h
theorem qsd(hcore:Core fid g w s.B s.A)(X:qdc fid g w s.r a.tmps)(hd:∀d,o.dst=some d->d<a.tmps.size)(h:aM P fid o.op (.makeSlice k sz bytes z x)=true)
(D:aY call p draw L0 i ⟨o.dst,.makeSlice k sz bytes z x,gd,af⟩ s=some s') (N:Id->Prop):Nonempty (Does P fid N g w a o s s'):=by
 obtain⟨dst,op,ty,pos,after,guard⟩:=o;cases op with
 |makeSlice t l c=>
  simp only[aM,aQ]at h;obtain⟨⟨h1,h2⟩,h⟩:=h;split at h
  ·rename_i e he
   simp only[aQ,bu]at h;obtain⟨⟨h3,Y⟩,O⟩:=h;have hu:=qS he;obtain⟨it,q,G⟩:=uk h3;have H:it.bytes=bytes:=by unfold AM at Y;simp[q]at Y;exact Y
   simp only[aY]at D;split at D
   ·rename_i kk n hx
    split at D
    ·rename_i hc
     obtain⟨x1,hf,V,K,J,S,Z⟩:=hc;simp at D;subst D
     obtain⟨m,rfl⟩:=Int.eq_ofNat_of_zero_le V;simp only[AO]at K⊢
     have e1:=eO (bG (w:=w) X h1 hx);have e2:=eO (bG (w:=w) X h2 hx);obtain⟨Q,I⟩:∃Q,it.zero=some Q:=by
      unfold zeroV at O;simp[q]at O;cases hq:it.zero with
      |none=>simp[hq]at O
      |some z=>exact⟨z,rfl⟩
     have hz:=MP (g:=g) (w:=w) q I O Z;have F:=KJ hz S m;refine GG (arr:=(Array.range (m*sz)).map fun j=>Q.cells[j%Q.cells.size]!) (e:=e) (u:= .slice (some ⟨w.heap.size,0,none⟩) m m) hcore X hd hf (by rw[F.1];simp[flat]) (fun j v u q1 q2=> ?_) (fun v hm=> ?_) N ?_ (fun g1 w1 hb=> .bsl _ _ _ _ _ _ hb)
     ·simp only[c7]at q1
      obtain⟨d,R,rfl⟩:=ay.1 q1;exact .d _ _ (F.2.2 j d u R q2)
     ·simp only[cw]at hm
      obtain⟨d,R,rfl⟩:=hm;exact⟨F.2.1 d R,by unfold AV.safe;rfl⟩
     ·have C:IntKind.i64.wrap (m:Int)=m:=by
       exact wrap_i64 (by omega) J
      have x2:¬((bytes:Int)*(m:Int)>2^48):=by have h7:((m*bytes:Nat):Int)<=140737488355328:=Int.ofNat_le.2 K;rw[Int.natCast_mul,Int.mul_comm]at h7;omega
      have hc0:¬((m:Int)<0):=by omega
      have M:¬(281474976710656<(bytes:Int)*(m:Int)):=by omega
      simp only[execOp,Instr.makeSlice,Sem.run_bind,te hu,Result.andThen_ok,e1,e2]
      by_cases h0:m*sz=0
      ·have W:∀f:Nat->Value,Array.map f (Array.range 0)= #[]:=fun f=>by simp[Array.range]
       simp[asInt,asIntOf,typeInfo,q,H,C,M,hc0,sizeOf,G,h0,W,newRow]
      ·simp[asInt,asIntOf,typeInfo,q,H,C,M,hc0,sizeOf,G,h0,zeroValue,I,newRow]
    ·simp at D
   ·simp at D
  ·simp at h
 |_=>simp[aM]at h
end
end
variable{A':Ids}{c:Nat}
section
variable {P:Program} {fid:Nat->FuncId} {g:Gh} {w:World}
theorem Core.sub{B:ar}{A:Ids}(hc:Core fid g w B A)(h:∀x,A' x=true->A x=true):Core fid g w B A':=⟨hc.box,hc.inj,fun a n=>hc.opn a (h a n),fun a a' b x x' n d=>hc.apart a a' b x x' (h a n) (h a' d),hc.K0⟩
theorem Step.sub{g':Gh}{w':World}{A d:Ids}(n:Step N g w A g' w' A')(h:∀x,d x=true->A' x=true):Step N g w A g' w' d:={n with org:=fun a b q u=>n.org a b (h a q) u}
theorem IL{xs:al}{s:Nat}{U:Nat->Value}(u:∀(i:Nat) (x:DV),xs[i]?=some x->x.cells.length=s/\∀v:DV,v∈x.cells->v.isCell=true)
 (D:∀(i:Nat) (x:DV) (j:Nat) (v:DV),xs[i]?=some x->x.cells[j]?=some v->VR g w v (U (i*s+j))):
 (flat xs).length=xs.length*s/\∀(k:Nat) (v:DV),(flat xs)[k]?=some v->k<xs.length*s/\v.isCell=true/\VR g w v (U k):=by
 have n:∀x:DV,x∈xs->x.cells.length=s:=fun x C=>by obtain⟨i,hi⟩:=dH.1 C;exact(u i x hi).1
 have H:=nH n;refine⟨H,fun k v G=> ?_⟩;have d:k<xs.length*s:=by have:=(aU.1 G).1;omega
 have F:0<s:=by
  rcases kY s with h|h
  ·rw[h]at d;simp at d
  ·exact h
 have I:k/s<xs.length:=FQ (by rw[mK];exact d);have C:xs[k/s]?=some xs[k/s]:=by simp[I]
 have q:=flat_get n (k/s) (k%s) _ C (Nat.mod_lt _ F);have e:k/s*s+k%s=k:=by rw[mK];exact Cs k s
 rw[e,G]at q;have:=D _ _ _ _ C q.symm;rw[e]at this;exact⟨d,(u _ _ C).2 v (cg q.symm),this⟩
theorem IF(xs d:al):flat (xs++d)=flat xs++flat d:=by simp[flat]
theorem qvn(w:World)(t ty e F:TypeId)(i:TypeInfo)(K:P.underlying t=some (.slice e))(hi:P.info? e=some i)
 (D d h:Nat) (cur:cA) (J:w.heap[D]?=some (.cells cur F (0,0)))
 (a:Addr) (m c:Nat) (news:bW) (G:news.length=m*i.size) (n:∀j u,news[j]?=some u->w.cell? (a.add j)=some u) (H:∀u∈news,u.oneCell'=true)
 (hroom:d+m<=h) (C:d*i.size+news.length<=cur.size):
 (Builtin.append_ #[t,t] ty #[.slice (some ⟨D,0,none⟩) d h,.slice (some a) m c]).run P w=
  .ok (.slice (some ⟨D,0,none⟩) (d+m) h) (w.setRow D (cur.toList.take (d*i.size)++news++cur.toList.drop (d*i.size+news.length)).toArray):=by
 have I:=run_firstCells_some (P:=P) w i.size m a m c news G n;have q:=run_storeCells_at P D (d*i.size) F news 0 cur w J (by simpa using C) H;simp only[qk]at q;simp[Builtin.append_,run_underlying K,sizeOf,typeInfo,hi,Builtin.lenOf,hroom,I,Addr.add_lit,q]
theorem Pl(w:World)(t ty e:TypeId)(i:TypeInfo)(d:P.underlying t=some (.slice e))(hi:P.info? e=some i)(b:ib)(n c:Nat)(h:n<=c)(b':ib)(c':Nat):
 (Builtin.append_ #[t,t] ty #[.slice b n c,.slice b' 0 c']).run P w= .ok (.slice b n c) w:=by
 cases b<;>cases b'<;>simp[Builtin.append_,run_underlying d,sizeOf,typeInfo,hi,Builtin.lenOf,Builtin.firstCells,loadCells,loadCellsFrom,h,storeCells]
theorem QL{B:ar}{A:Ids}(hc:Core fid g w B A){a0:Id}(I:g.row id=none)(ha:A a0=true){n:Nat}
 (Q:g.row a0=some (b,n,c,sz)) (q:w.heap[b]?=some (.cells arr e (0,0))) (R:c*sz<=arr.size) (hK:g.K b=n*sz) (a1:∀i,g.bx i≠some b)
 (news:bW) (c2:news.length=m*sz) (hroom:n+m<=c) (hcm:c<=maxLen) (xs:al) (x3:xs.length=n+m) (hxn:xs≠[])
 (Z:∀x:DV,x∈xs->x.cells.length=sz/\∀v:DV,v∈x.cells->v.isCell=true)
 (hv:∀(k:Nat) (v:DV),(flat xs)[k]?=some v->∃u,(splice arr.toList (n*sz) news)[k]?=some u/\VR g w v u) (N:Id->Prop) (hN:N id):
 ∃g1,Core fid g1 (w.setRow b (splice arr.toList (n*sz) news).toArray) B (Ids.add id (Ids.del a0 A))/\Boxes g w g1/\
  Step N g w A g1 (w.setRow b (splice arr.toList (n*sz) news).toArray) (Ids.add id (Ids.del a0 A))/\Ext g w g1 (w.setRow b (splice arr.toList (n*sz) news).toArray)/\
  VR g1 (w.setRow b (splice arr.toList (n*sz) news).toArray) (.sl (.own id sz) xs) (.slice (some ⟨b,0,none⟩) xs.length c):=by
 have G:n*sz+news.length<=arr.toList.length:=by rw[c2];simp only[Kt,<-Nat.add_mul];exact cT (fP _ hroom) R
 have hb:b<w.heap.size:=(d9.1 q).1;have H:=setRow_heap w b arr (splice arr.toList (n*sz) news).toArray e (0,0) q;have F:∀b',b'≠b->(w.setRow b (splice arr.toList (n*sz) news).toArray).heap[b']?=w.heap[b']?:=fun b' h=>setRow_other w b b' _ h
 have O:(w.setRow b (splice arr.toList (n*sz) news).toArray).heap.size=w.heap.size:=by simp[World.setRow]
 have d:∀a,A a=true->a≠id:=by intro a ha M;obtain⟨b',n',c',x2,Y,e2,o1,_⟩:=hc.opn a ha;rw[M,I]at o1;simp at o1
 have S:∀a b' x,A a=true->a≠a0->g.row a=some (b',x)->b'≠b:=by intro a b' x h1 J W X;subst X;exact J (hc.apart a a0 b' x (n,c,sz) h1 ha W Q)
 have C:Ext g w {K:=fun k=>if k=b then(n+m)*sz else g.K k,row:=fun a=>if a=id then some (b,n+m,c,sz)else g.row a,bx:=g.bx} (w.setRow b (splice arr.toList (n*sz) news).toArray):=by
  refine⟨⟨fun k=> ?_,fun ad had=> ?_,fun a x h=> ?_⟩,fun _ _ h=>h⟩
  ·simp only
   split
   ·rename_i h;subst h;rw[hK];exact fP _ (Et _ _)
   ·exact bf _
  ·by_cases x1:ad.block=b
   ·rw[x1,hK]at had
    simp only[World.cell?,x1,H,q];split
    ·rfl
    ·rw[qt,ke _ _ _ G,au (by omega)]
     simp
   ·simp only[World.cell?]
    rw[F _ x1]
  ·simp only
   rw[au (fun M=>by rw[M,I]at h;simp at h)];exact h
 have V:∀a,Ids.add id (Ids.del a0 A) a=true->a=id\/(a≠a0/\A a=true):=by intro a h;simpa[Ids.add,Ids.del]using h
 refine⟨{K:=fun k=>if k=b then(n+m)*sz else g.K k,row:=fun a=>if a=id then some (b,n+m,c,sz)else g.row a,bx:=g.bx},⟨fun i b' h=> ?_,hc.inj,fun a h=> ?_,fun a a' b' x x' h1 J W X=> ?_,fun b' h=> ?_⟩,⟨C.bx,fun i b h=> .inl h⟩,⟨rfl,rfl,rfl,by rw[O];exact bf _,C.toExtV,fun b' hb' _ h=> ?_,fun a h=> ?_,fun a b' h1 J=> ?_,fun b' c' e' z' h=>by
  by_cases M:b'=b
  ·subst M
   rw[q]at h;simp only[aL,Obj.cells.injEq]at h;obtain⟨rfl,rfl,rfl⟩:=h;exact⟨_,H,by rw[iV,kK _ _ _ G];simp⟩
  ·exact⟨c',by rw[F b' M];exact h,rfl⟩⟩,C,?_⟩
 ·obtain⟨cs',arr',e',b1,b2,b3,b4,b5,b6⟩:=hc.box i b' h
  have D:b'≠b:=fun M=>a1 i (by rw[<-M];exact h)
  refine⟨cs',arr',e',b1,by rw[F _ D];exact b2,b3,fun j v u h7 h8=>(b4 j v u h7 h8).mono fid C,b5,?_⟩;simp only;rw[au D];exact b6
 ·rcases V a h with rfl|⟨h1,J⟩
  ·refine⟨b,n+m,c,sz,_,e,by simp,H,?_,by simp,hroom,a1⟩
   rw[iV,kK _ _ _ G];simpa using R
  ·obtain⟨b',n',c',x2,Y,e2,o1,o2,o3,o4,o5,o6⟩:=hc.opn a J
   have D:=S a b' _ J h1 o1;refine⟨b',n',c',x2,Y,e2,by simp only;rw[au (d a J)];exact o1,by rw[F _ D];exact o2,o3,?_,o5,o6⟩;simp only;rw[au D];exact o4
 ·simp only at W X
  rcases V a h1 with rfl|⟨h5,h6⟩<;>rcases V a' J with rfl|⟨h7,h8⟩
  ·rfl
  ·rw[au (d a' h8)]at X
   simp at W;exact absurd W.1.symm (S a' b' _ h8 h7 X)
  ·rw[au (d a h6)]at W
   simp at X;exact absurd X.1.symm (S a b' _ h6 h5 W)
  ·rw[au (d a h6)]at W
   rw[au (d a' h8)]at X;exact hc.apart a a' b' x x' h6 h8 W X
 ·rw[O]at h
  simp only;rw[au (by omega)];exact hc.K0 b' h
 ·have D:b'≠b:=fun M=>h a0 ha (by simp[Gh.blk,Q,M])
  refine⟨F _ D,?_⟩;simp only;rw[au D]
 ·simp only at h
  split at h
  ·rename_i M;subst M;exact hN
  ·exact absurd rfl h
 ·simp only[Gh.blk]at J
  rcases V a h1 with rfl|⟨h5,h6⟩
  ·simp at J
   exact .inr ⟨a0,ha,by simp[Gh.blk,Q,J]⟩
  ·rw[au (d a h6)]at J
   exact .inr ⟨a,h6,J⟩
 ·refine .row _ xs ⟨b,0,none⟩ c sz (fun k=>(splice arr.toList (n*sz) news).getD k undef) (by simp) (by omega) hcm (fun k hk=> ?_) (.inr (by simp[x3])) (fun i x hi=>Z x (cg hi)) (fun i x j v hi hj=> ?_) (fun a x2 h=> ?_)
  ·have a3:(⟨b,0,none⟩:Addr).add k=⟨b,k,none⟩:=by unfold Addr.add;split<;>simp_all
   rw[a3];have hk':k<(splice arr.toList (n*sz) news).length:=by rw[kK _ _ _ G];simp only[Kt];rw[x3]at hk;exact nt hk (cT (fP _ hroom) R)
   simp[World.cell?,H,hk',List.getD]
  ·have hx:=Z x (cg hi)
   have hjs:j<sz:=by have:=(aU.1 hj).1;omega
   have a2:=flat_get (xs:=xs) (fun x hx=>(Z x hx).1) i j x hi hjs;rw[hj]at a2;obtain⟨u,hu,hvr⟩:=hv _ _ a2;rw[List.getD,hu];exact hvr.mono C.toExtV
  ·simp at h
   obtain⟨rfl,rfl⟩:=h;exact⟨rfl,rfl,rfl,by simp[x3],fun h=>absurd h hxn⟩
end
section
variable {P:Program} {fid:Nat->FuncId} {g:Gh} {w:World}
theorem lY(b k:Nat):(⟨b,0,none⟩:Addr).add k=⟨b,k,none⟩:=by unfold Addr.add;split<;>simp_all
theorem source{d:al}{t:Tag}{q:Value}(h:VR g w (.sl t d) q)(G:d≠[])(H:∀y:DV,y∈d->y.cells.length=sz):
 ∃(ad:Addr) (c:Nat) (news:bW),q= .slice (some ad) d.length c/\news.length=d.length*sz/\(∀(j:Nat) (u:Value),news[j]?=some u->w.cell? (ad.add j)=some u)/\(∀u:Value,u∈news->u.oneCell'=true)/\
  ∀(k:Nat) (v:DV),(flat d)[k]?=some v->∃u,news[k]?=some u/\VR g w v u:=by
 cases h with
 |nil=>exact absurd rfl G
 |row _ _ ad c s U ht hl hm n hK D J S=>
  obtain⟨y,V⟩:=nc d G;obtain⟨i,hi⟩:=dH.1 V;have Y:s=sz:=by rw[<-(D i y hi).1];exact H y V
  subst Y;obtain⟨X,F⟩:=IL D J;refine⟨ad,c,(List.range (d.length*s)).map U,rfl,by simp,fun j u M=> ?_,fun u Q=> ?_,fun k v O=> ?_⟩
  ·simp only[c7]at M
   obtain⟨Z,K,rfl⟩:=ay.1 M;have I:=aU.1 K;obtain⟨C,R⟩:=I;simp at C R;subst R;exact n _ C
  ·simp only[cw,f_]at Q
   obtain⟨k,O,rfl⟩:=Q;have W:k<(flat d).length:=by omega
   obtain⟨_,I,C⟩:=F k (flat d)[k] (by simp);exact(lD C I).1
  ·obtain⟨K,I,C⟩:=F k v O
   exact⟨U k,by simp[K],C⟩
section
variable {p:Id} {call:ct} {draw:Bool} {L0 i:Nat} {a:Act} {o:Oper} {s s':St}
theorem Jo(hcore:Core fid g w s.B s.A)(hr:qdc fid g w s.r a.tmps)(hd:∀d,o.dst=some d->d<a.tmps.size)(h:aM P fid o.op (.append sz bytes x y)=true)
(hv:aY call p draw L0 i ⟨o.dst,.append sz bytes x y,gd,af⟩ s=some s') (hfr:g.row ((s.c+i)::p)=none):∃d:Does P fid (under (s.c+i) p) g w a o s s',(∀i' b',g.bx i'=some b'->d.w'.heap[b']?=w.heap[b']?)/\∀gx xs gy q,x.get s.r=some (.d (.sl gx xs))->y.get s.r=some (.d (.sl gy q))->q≠[]->∃bn ln cn,d.u= .slice (some ⟨bn,0,none⟩) ln cn/\∀(k:Nat) (v:DV),(flat (xs++q))[k]?=some v->∃u0,d.w'.cell? ⟨bn,k,none⟩=some u0/\VR g w v u0:=by
 obtain⟨dst,op,ty,pos,after,guard⟩:=o;cases op with
 |call cc=>
  obtain⟨callee,args,argTypes⟩:=cc;cases callee with
  |builtin b=>
   cases b with
   |append=>
    simp only[aM]at h;split at h
    ·rename_i px py t t' ha ht
     simp only[aQ,bu]at h;obtain⟨⟨⟨h1,h2⟩,rfl⟩,h3⟩:=h;have hargs:args= #[px,py]:=by cases args;simp_all
     have htys:argTypes= #[t,t]:=by cases argTypes;simp_all
     subst hargs;subst htys
     split at h3
     ·rename_i e he
      simp only[aQ,bu]at h3;obtain⟨⟨⟨⟨h4,h5⟩,h6⟩,h7⟩,h8⟩:=h3;have hu:=qS he;obtain⟨it,Z,W⟩:=uk h4;have hby:it.bytes=bytes:=by unfold AM at h5;simp[Z]at h5;exact h5
      obtain⟨z,hz,hzc⟩:∃z,it.zero=some z/\z.cells.size=sz:=by
       simp only[Z,a9]at h8;cases hq:it.zero with
       |none=>rw[hq]at h8;simp at h8
       |some z=>rw[hq]at h8;simp at h8;exact⟨z,rfl,h8⟩
      have F:∀(v:Value) (w':World),(Builtin.append_ #[t,t] ty #[a.eval px,a.eval py]).run P w= .ok v w'->
       (execOp a.eval ⟨dst,.call ⟨.builtin .append,#[px,py],#[t,t]⟩,ty,pos,after,guard⟩).run P w= .ok (.value v) w':=by
       intro v w' hr';simp[execOp,resolve,invoke,builtin,hr']
      simp only[aY]at hv;split at hv
      ·rename_i dx dy hx hy
       obtain⟨⟨rv,s1⟩,C,rfl⟩:=ay.1 hv;have rx:=dr (bG (w:=w) hr h1 hx);have ry:=dr (bG (w:=w) hr h2 hy);generalize a.eval px=qx at rx F;generalize a.eval py=qy at ry F;unfold fC at C;split at C
       ·rename_i gx xs gy q
        split at C
        ·rename_i hall0
         have X:∀y:DV,y∈q->y.cells.length=sz/\∀v:DV,v∈y.cells->v.isCell=true:=by intro y hy;have:=bB.1 hall0 y hy;simp at this;exact this
         split at C
         ·
          rename_i hemp;simp at hemp;subst hemp
          simp at C;obtain⟨rfl,rfl⟩:=C;obtain⟨by',cy,hqy⟩:∃by' cy,qy= .slice by' 0 cy:=by cases ry<;>exact⟨_,_,rfl⟩
          obtain⟨bx',cx,hqx,hlc⟩:∃bx' cx,qx= .slice bx' xs.length cx/\xs.length<=cx:=by
           cases rx with
           |nil=>exact⟨_,_,rfl,bf _⟩
           |row _ _ ad c s U ht' hl=>exact⟨_,_,rfl,hl⟩
          have D:=F _ _ (by rw[hqx,hqy];exact Pl w t ty e it hu Z bx' xs.length cx hlc by' cy);rw[<-hqx]at D;exact⟨Does.still qx hcore hr hd D (.d _ _ rx),fun _ _ _=>rfl,fun c2 xs' gy' ys' _ V q3=>by rw[hy]at V;simp at V;exact absurd V.2 q3⟩
         ·rename_i hne0
          have a2:q≠[]:=by simpa using hne0
          have hypos:0<q.length:=wC.2 a2;split at C
          ·rename_i O
           obtain⟨ad,cy,news,rfl,S,Q,hn1,hnv⟩:=source ry a2 (fun y hy=>(X y hy).1);have hfly:=nH (xs:=q) (fun y hy=>(X y hy).1);have hlim:xs.length+q.length<=140737488355328:=cT (Nat.le_mul_of_pos_right _ h7) O;split at C
           ·
            simp at C;obtain⟨rfl,rfl⟩:=C;cases rx with
            |row _ _ _ _ _ _ ht'=>exact absurd rfl ht'
            |nil=>
             have H:q.length*it.bytes<=140737488355328:=by simpa[hby]using O
             have D:=F _ _ (run_append_nil (P:=P) w t ty e it z hu Z hz ad q.length cy news (by rw[W];exact S) Q hypos (by omega) (by omega));have a1:=grownCap_ge w q.length 0 e;have x3:=grownCap_le_maxLen w q.length 0 e (by simp only[maxLen];omega);have R:∀(k:Nat) (v:DV),(flat q)[k]?=some v->∃u,(news.toArray++Builtin.zeroCells z.cells (grownCap w q.length 0 e-q.length))[k]?=some u/\VR g w v u:=fun k v K=>by obtain⟨u,I,G⟩:=hnv k v K;have b2:k<news.length:=(aU.1 I).1;exact⟨u,by rw[kN (by simpa using b2)];simpa using I,G⟩
             obtain⟨g1,c1,b1,s1,e1,v1⟩:=xS hcore hfr q sz (grownCap w q.length 0 e) (news.toArray++Builtin.zeroCells z.cells (grownCap w q.length 0 e-q.length)) e
              (w.drew.alloc (.cells (news.toArray++Builtin.zeroCells z.cells (grownCap w q.length 0 e-q.length)) e)) rfl rfl rfl rfl a1 (fun h=>absurd h a2) x3
              (by simp only[nX,iV,size_zeroCells,hzc,S,<-Nat.add_mul];congr 1;omega) X R (under (s.c+i) p) ⟨[],rfl⟩
             refine⟨⟨_,.slice (some ⟨w.heap.size,0,none⟩) q.length (grownCap w q.length 0 e),_,g1,D,.inl rfl,by rw[gY,dP];exact c1,b1,by rw[dP];exact s1,gw (s:={s with A:=_}) (hr.mono fid e1) (.d _ _ v1) hd⟩,fun i' b' x2=> ?_,fun c2 xs' gy' ys' Y V q3=>⟨_,_,_,rfl,fun k v K=> ?_⟩⟩
             ·have J:=hcore.lt x2
              exact(Dt J).trans (kX J).symm
             ·rw[hx]at Y;rw[hy]at V
              simp only[aL,AV.d.injEq,DV.sl.injEq]at Y V;obtain⟨rfl,rfl⟩:=Y;obtain⟨rfl,rfl⟩:=V;obtain⟨u0,I,G⟩:=R k v (by simpa using K);refine⟨u0,?_,G⟩;show(match (w.heap.push _)[w.heap.size]? with|some (.cells c _ _)=>if(⟨w.heap.size,k,none⟩:Addr).spot.isSome then none else c[k]?|_=>none)=some u0;rw[C0];simpa using I
           ·
            rename_i a0 sz';split at C
            ·
             rename_i hxe;have hxe':xs=[]:=by simpa using hxe
             subst hxe';simp at C;obtain⟨rfl,rfl⟩:=C;cases rx with
             |row _ _ M c sx U ht' hl hm x1 hK hcs hvs a3=>
              obtain⟨o1,o2,rfl,o4,o5⟩:=a3 a0 _ rfl;have hc0:c=0:=o5 rfl;subst hc0;have H:(([]:al).length+q.length)*it.bytes<=140737488355328:=by rw[hby];exact O
              have D:=F _ _ (run_append_grow (P:=P) w t ty e it z hu Z hz M ([]:al).length 0 [] (by simp) (by simp) ad q.length cy news (by rw[W];exact S) Q (by omega) (by simp;omega) (growslice_fits (by simp;omega) H));have a1:=grownCap_ge w (([]:al).length+q.length) 0 e;have x3:=grownCap_le_maxLen w (([]:al).length+q.length) 0 e (by simp only[maxLen,iL];omega);simp only[iL,fR]at D a1 x3;have R:∀(k:Nat) (v:DV),(flat q)[k]?=some v->∃u,(([]:bW).toArray++news.toArray++Builtin.zeroCells z.cells (grownCap w q.length 0 e-q.length))[k]?=some u/\VR g w v u:=fun k v K=>by obtain⟨u,I,G⟩:=hnv k v K;have b2:k<news.length:=(aU.1 I).1;exact⟨u,by rw[show([]:bW).toArray= #[]from rfl,Array.empty_append,kN (by simpa using b2)];simpa using I,G⟩
              obtain⟨g1,c1,b1,s1,e1,v1⟩:=xS hcore hfr q sz (grownCap w q.length 0 e)
               (([]:bW).toArray++news.toArray++Builtin.zeroCells z.cells (grownCap w q.length 0 e-q.length)) e
               (w.drew.alloc (.cells (([]:bW).toArray++news.toArray++Builtin.zeroCells z.cells (grownCap w q.length 0 e-q.length)) e)) rfl rfl rfl rfl a1 (fun h=>absurd h a2) x3
               (by simp only[nX,iV,size_zeroCells,hzc,S,iL,fR,<-Nat.add_mul];congr 1;omega) X R (under (s.c+i) p) ⟨[],rfl⟩
              refine⟨⟨_,.slice (some ⟨w.heap.size,0,none⟩) q.length (grownCap w q.length 0 e),_,g1,D,.inl rfl,by rw[gY,dP];exact c1,b1,by rw[dP];exact s1,gw (s:={s with A:=_}) (hr.mono fid e1) (.d _ _ v1) hd⟩,fun i' b' x2=> ?_,fun c2 xs' gy' ys' Y V q3=>⟨_,_,_,rfl,fun k v K=> ?_⟩⟩
              ·have J:=hcore.lt x2
               exact(Dt J).trans (kX J).symm
              ·rw[hx]at Y;rw[hy]at V
               simp only[aL,AV.d.injEq,DV.sl.injEq]at Y V;obtain⟨rfl,rfl⟩:=Y;obtain⟨rfl,rfl⟩:=V;obtain⟨u0,I,G⟩:=R k v (by simpa using K);refine⟨u0,?_,G⟩;show(match (w.heap.push _)[w.heap.size]? with|some (.cells c _ _)=>if(⟨w.heap.size,k,none⟩:Addr).spot.isSome then none else c[k]?|_=>none)=some u0;rw[C0];simpa using I
            split at C
            ·rename_i hown0
             obtain⟨rfl,ha0⟩:=hown0;simp at C;obtain⟨rfl,rfl⟩:=C;cases rx with
             |row _ _ M c sx U ht' hl hm x1 hK hcs hvs a3=>
              obtain⟨o1,o2,rfl,o4,_⟩:=a3 a0 _ rfl;obtain⟨bb,n,c',sz2,arr,e',p1,p2,p3,p4,p5,p6⟩:=hcore.opn a0 ha0;rw[o4]at p1;simp at p1;obtain⟨rfl,rfl,rfl,rfl⟩:=p1;obtain⟨hflx,hfvx⟩:=IL hcs hvs;have hadx:M=⟨M.block,0,none⟩:=by cases M;simp_all
              have hcellx:∀k,k<xs.length*sx->arr[k]?=some (U k):=by intro k K;have I:=x1 k K;rw[hadx]at I;have:=lY M.block k;rw[this]at I;simpa[World.cell?,p2]using I
              have hxl:(xs++q).length=xs.length+q.length:=by simp
              have hel:∀x:DV,x∈xs++q->x.cells.length=sx/\∀v:DV,v∈x.cells->v.isCell=true:=by
               intro x hx;rcases bC.1 hx with I|I
               ·obtain⟨j,hj⟩:=dH.1 I
                exact hcs j x hj
               ·exact X x I
              by_cases hroom:xs.length+q.length<=c
              ·have hfit:xs.length*it.size+news.length<=arr.size:=by
                rw[W,S,<-Nat.add_mul];exact cT (fP _ hroom) p3
               have D:=F _ _ (by rw[hadx];exact qvn w t ty e e' it hu Z M.block xs.length c arr p2 ad q.length cy news (by rw[W];exact S) Q hn1 hroom hfit);have hsp:(arr.toList.take (xs.length*it.size)++news++arr.toList.drop (xs.length*it.size+news.length))=splice arr.toList (xs.length*sx) news:=by rw[W];rfl
               rw[hsp]at D;have R:∀(k:Nat) (v:DV),(flat (xs++q))[k]?=some v->∃u,(splice arr.toList (xs.length*sx) news)[k]?=some u/\VR g w v u:=fun k v K=>by
                rw[IF]at K;have hfit':xs.length*sx+news.length<=arr.toList.length:=by rw[<-W];exact hfit
                rw[ke _ _ _ hfit']
                by_cases hkx:k<xs.length*sx
                ·rw[cf (by omega)]at K
                 rw[au (by omega)];exact⟨U k,by simpa using hcellx k hkx,(hfvx k v K).2.2⟩
                ·rw[cF (by omega),hflx]at K
                 obtain⟨u,I,G⟩:=hnv _ v K;have b2:k-xs.length*sx<news.length:=(aU.1 I).1;rw[aw (by omega)];exact⟨u,I,G⟩
               obtain⟨g1,c1,b1,s1,e1,v1⟩:=QL hcore hfr ha0 o4 p2 p3 p4 p6 news S hroom hm (xs++q) hxl (fun h=>absurd (GE.1 h).2 a2) hel R (under (s.c+i) p) ⟨[],rfl⟩;rw[hxl]at v1;refine⟨⟨_,.slice (some ⟨M.block,0,none⟩) (xs.length+q.length) c,_,g1,D,.inl rfl,by rw[gY,dP];exact c1,b1,by rw[dP];exact s1,gw (s:={s with A:=_}) (hr.mono fid e1) (.d _ _ v1) hd⟩,fun i' b' x2=> ?_,fun c2 xs' gy' ys' Y V q3=>⟨_,_,_,rfl,fun k v K=> ?_⟩⟩
               ·exact setRow_other w M.block b' _ (fun he=>p6 i' (by rw[<-he];exact x2))
               ·rw[hx]at Y;rw[hy]at V
                simp only[aL,AV.d.injEq,DV.sl.injEq]at Y V;obtain⟨rfl,rfl⟩:=Y;obtain⟨rfl,rfl⟩:=V;obtain⟨u0,I,G⟩:=R k v (by simpa using K);refine⟨u0,?_,G⟩;simp only[World.cell?,setRow_heap w M.block arr _ e' (0,0) p2];simpa using I
              ·have holds:∀(j:Nat) (v:Value),((List.range (xs.length*sx)).map U)[j]?=some v->w.cell? (M.add j)=some v:=by
                intro j v hj;simp only[c7]at hj;obtain⟨j',h1,rfl⟩:=ay.1 hj;obtain⟨h3,h4⟩:=aU.1 h1;simp at h3 h4;subst h4;exact x1 _ h3
               have H:(xs.length+q.length)*it.bytes<=140737488355328:=by rw[hby];exact O
               have D:=F _ _ (run_append_grow (P:=P) w t ty e it z hu Z hz M xs.length c ((List.range (xs.length*sx)).map U) (by simp[W]) holds ad q.length cy news (by rw[W];exact S) Q (by omega) (by omega) (growslice_fits (by omega) H));have a1:=grownCap_ge w (xs.length+q.length) c e;have x3:=grownCap_le_maxLen w (xs.length+q.length) c e (by simp only[maxLen];omega);have R:∀(k:Nat) (v:DV),(flat (xs++q))[k]?=some v->∃u,(((List.range (xs.length*sx)).map U).toArray++news.toArray++Builtin.zeroCells z.cells (grownCap w (xs.length+q.length) c e-(xs.length+q.length)))[k]?=some u/\VR g w v u:=fun k v K=>by
                rw[IF]at K
                by_cases hkx:k<xs.length*sx
                ·rw[cf (by omega)]at K
                 refine⟨U k,?_,(hfvx k v K).2.2⟩;rw[B7,kN (by simp[hkx])];simp[hkx]
                ·rw[cF (by omega),hflx]at K
                 obtain⟨u,I,G⟩:=hnv _ v K;have b2:k-xs.length*sx<news.length:=(aU.1 I).1;refine⟨u,?_,G⟩;rw[B7,Lw (by simp;omega),kN (by simp;omega)];simpa using I
               obtain⟨g1,c1,b1,s1,e1,v1⟩:=xS hcore hfr (xs++q) sx (grownCap w (xs.length+q.length) c e)
                (((List.range (xs.length*sx)).map U).toArray++news.toArray++Builtin.zeroCells z.cells (grownCap w (xs.length+q.length) c e-(xs.length+q.length))) e
                (w.drew.alloc (.cells (((List.range (xs.length*sx)).map U).toArray++news.toArray++Builtin.zeroCells z.cells (grownCap w (xs.length+q.length) c e-(xs.length+q.length))) e)) rfl rfl rfl rfl (by rw[hxl];exact a1) (fun h=>absurd (GE.1 h).2 a2) x3
                (by simp only[nX,iV,eo,FO,size_zeroCells,hzc,S,<-Nat.add_mul];congr 1;omega) hel
                R (under (s.c+i) p) ⟨[],rfl⟩
               rw[hxl]at v1;have hsub:∀x,Ids.add ((s.c+i)::p) (Ids.del a0 s.A) x=true->Ids.add ((s.c+i)::p) s.A x=true:=by
                intro x hx;simp[Ids.add,Ids.del]at hx⊢
                rcases hx with h|h
                ·exact .inl h
                ·exact .inr h.2
               refine⟨⟨_,.slice (some ⟨w.heap.size,0,none⟩) (xs.length+q.length) (grownCap w (xs.length+q.length) c e),_,g1,D,.inl rfl,by rw[gY,dP];exact c1.sub hsub,b1,by rw[dP];exact s1.sub hsub,gw (s:={s with A:=_}) (hr.mono fid e1) (.d _ _ v1) hd⟩,fun i' b' x2=> ?_,fun c2 xs' gy' ys' Y V q3=>⟨_,_,_,rfl,fun k v K=> ?_⟩⟩
               ·have J:=hcore.lt x2
                exact(Dt J).trans (kX J).symm
               ·rw[hx]at Y;rw[hy]at V
                simp only[aL,AV.d.injEq,DV.sl.injEq]at Y V;obtain⟨rfl,rfl⟩:=Y;obtain⟨rfl,rfl⟩:=V;obtain⟨u0,I,G⟩:=R k v (by simpa using K);refine⟨u0,?_,G⟩;show(match (w.heap.push _)[w.heap.size]? with|some (.cells c _ _)=>if(⟨w.heap.size,k,none⟩:Addr).spot.isSome then none else c[k]?|_=>none)=some u0;rw[C0];simpa using I
            ·simp at C
           ·simp at C
          ·simp at C
        ·simp at C
       ·simp at C
      ·simp at hv
     ·simp at h3
    ·simp at h
   |_=>simp[aM]at h
  |_=>simp[aM]at h
 |_=>simp[aM]at h
theorem R_(hcore:Core fid g w s.B s.A)(C:qdc fid g w s.r a.tmps)(u:∀d,o.dst=some d->d<a.tmps.size)(h:aM P fid o.op (.append sz bytes x y)=true)
(q:aY call p draw L0 i ⟨o.dst,.append sz bytes x y,gd,af⟩ s=some s') (n:g.row ((s.c+i)::p)=none):Nonempty (Does P fid (under (s.c+i) p) g w a o s s'):=by obtain⟨d,_,_⟩:=Jo hcore C u h q n;exact⟨d⟩
end
end
section
variable {P:Program} {fid:Nat->FuncId} {g:Gh} {w:World}
def from_(p:Id)(k:Nat)(a:Id):Prop:=∃q j,k<=j/\a=q++j::p
def ge(g:Gh)(p:Id)(k:Nat):Prop:=∀q j,k<=j->g.row (q++j::p)=none
def my(P:Program)(f:FuncId):Prop:=∃fn,P.funcs[f]?=some fn/\(fn.name== "runtime.NumGoroutine")=false/\fn.body.isNone=false
structure Post(fid:Nat->FuncId)(N:Id->Prop)(g:Gh)(w:World)(A:Ids)(r:Res)(u:Value)(g':Gh)(w':World):Prop where
 val:AVR fid g' w' r.v u
 core:Core fid g' w' r.B r.A
 boxes:Boxes g w g'
 step:Step N g w A g' w' r.A
def ie(P:Program)(fid:Nat->FuncId)(call:ct):Prop:=
 ∀p f args B A r,call p f args B A=some r->my P (fid f)/\∀g w (us:cA),us.size=args.length->(∀(j:Nat) (v:AV) (u:Value),args[j]?=some v->us[j]?=some u->AVR fid g w v u)->
  Core fid g w B A->ge g p 0->Calls P (fid f) us w fun e w'=>∃u g',e= .returned u/\Post fid (from_ p 0) g w A r u g' w'
def Gh.cutB(m:Nat)(g:Gh):Gh:={g with bx:=fun i=>if i<m then g.bx i else none}
mutual
theorem wS{m n:Nat}(h:m<=n):∀(v:AV),v.safe m=true->v.safe n=true
 | .d _,_=>by unfold AV.safe;rfl
 | .ep _,_=>by unfold AV.safe;rfl
 | .nilp,_=>by unfold AV.safe;rfl
 | .und,_=>by unfold AV.safe;rfl
 | .ptr i _,q=>by unfold AV.safe at q⊢;simp at q⊢;omega
 | .bsl _ _ i _ _,q=>by unfold AV.safe at q⊢;simp at q⊢;omega
 | .tsl _ i _ _,q=>by unfold AV.safe at q⊢;simp at q⊢;omega
 | .fn _ cap,q=>by
  unfold AV.safe at q⊢
  exact EE h cap q
 | .ag _ cap,q=>by
  unfold AV.safe at q⊢
  exact EE h cap q
theorem EE{m n:Nat}(h:m<=n):∀(l:aA),AV.safe.safes m l=true->AV.safe.safes n l=true
 | [],_=>by unfold AV.safe.safes;rfl
 |a::r,d=>by
  unfold AV.safe.safes at d⊢
  simp only[aQ]at d⊢
  exact⟨wS h a d.1,EE h r d.2⟩
end
theorem vg:∀{l:aA},AV.safe.safes m l=true->∀v:AV,v∈l->v.safe m=true
 | [],_,v,h=>by simp at h
 |a::r,d,v,h=>by
  unfold AV.safe.safes at d;simp only[aQ]at d;rcases bK.1 h with rfl|h
  ·exact d.1
  ·exact vg d.2 v h
theorem AVR.cutB{u:Value}(h:AVR fid g w v u)(q:v.safe m=true):AVR fid (g.cutB m) w v u:=by
 have hE:ExtV g w (g.cutB m) w:=⟨fun _=>bf _,fun _ _=>rfl,fun _ _ h=>h⟩
 induction h with
 |d v u h=>exact .d v u (h.mono hE)
 |ptr i off b h=>unfold AV.safe at q;simp at q;exact .ptr i off b (by simp[Gh.cutB,q,h])
 |ep cs ad U H J h=>exact .ep cs ad U H J fun j v I=>⟨(h j v I).1,(h j v I).2.1,(h j v I).2.2.mono hE⟩
 |nilp=>exact .nilp
 |fn f cap us C _ G=>unfold AV.safe at q;exact .fn f cap us C fun j v u D F=>G j v u D F (vg q v (cg D))
 |bsl id ag i sz n b h=>unfold AV.safe at q;simp at q;exact .bsl id ag i sz n b (by simp[Gh.cutB,q,h])
 |tsl ag i sz n c b h D F=>unfold AV.safe at q;simp at q;exact .tsl ag i sz n c b (by simp[Gh.cutB,q,h]) D F
 |ag cap us C _ G=>unfold AV.safe at q;exact .ag cap us C fun j v u D F=>G j v u D F (vg q v (cg D))
 |tp cap us C _ G=>unfold AV.safe at q;exact .tp cap us C fun j v u D F=>G j v u D F (vg q v (cg D))
 |und=>exact .und
theorem jJ(h:(g.cutB m).bx i=some b):i<m/\g.bx i=some b:=by
 simp only[Gh.cutB]at h;split at h
 ·exact⟨by assumption,h⟩
 ·simp at h
theorem Core.cutB{B:ar}{A:Ids}(hc:Core fid g w B A)(m:Nat):Core fid (g.cutB m) w (B.take m) A:=by
 refine⟨fun i b h=> ?_,fun i j b q d=>hc.inj i j b (jJ q).2 (jJ d).2,fun a O=> ?_,hc.apart,hc.K0⟩
 ·obtain⟨hi,h⟩:=jJ h
  obtain⟨cs,arr,e,q,d,F,K,D,S⟩:=hc.box i b h;exact⟨cs,arr,e,by rw[eY,aw hi];exact q,d,F,fun j v u C M=>(K j v u C M).cutB (wS (ym hi) v (D v (cg C)).2),D,S⟩
 ·obtain⟨b,n,c,sz,arr,e,I,R,G,H,Q,J⟩:=hc.opn a O
  exact⟨b,n,c,sz,arr,e,I,R,G,H,Q,fun i h=>J i (jJ h).2⟩
theorem Core.more{B B':ar}{A:Ids}(hc:Core fid g w B A)(h:∀(i:Nat) (cs:aA),B[i]?=some (some cs)->B'[i]?=some (some cs)):Core fid g w B' A:=
 ⟨fun i b q=>by obtain⟨cs,arr,e,n,d⟩:=hc.box i b q;exact⟨cs,arr,e,h i cs n,d⟩,hc.inj,hc.opn,hc.apart,hc.K0⟩
theorem HJ{B:ar}{A:Ids}(hc:Core fid g w B A){r:Res}{u:Value}{g':Gh}{w':World}{v:DV}(hv:r.v= .d v)
 (Y:Post fid N (g.cutB 0) w Ids.none r u g' w'):
 ∃g2,Core fid g2 w' B (Ids.or r.A A)/\Boxes g w g2/\Step N g w A g2 w' (Ids.or r.A A)/\Ext g w g2 w'/\AVR fid g2 w' (.d v) u:=by
 have C:=Y.step;have H:∀b,b<w.heap.size->w'.heap[b]?=w.heap[b]?/\g'.K b=g.K b:=fun b G=>C.keep b G (fun i h=>by have:=(jJ h).1;omega) (fun a q=>by simp[Ids.none]at q)
 have hE:ExtV g w {K:=g'.K,row:=g'.row,bx:=g.bx} w':=⟨C.ext.K,C.ext.cell,C.ext.row⟩;have O:Ext g w {K:=g'.K,row:=g'.row,bx:=g.bx} w':=⟨hE,fun _ _ h=>h⟩;have I:∀a b,r.A a=true->g'.blk a=some b->w.heap.size<=b:=fun a b q G=>by
  rcases C.org a b q G with h|⟨a0,h,_⟩
  ·exact h
  ·simp[Ids.none]at h
 have F:∀a,A a=true->∃b x,g.row a=some (b,x)/\g'.row a=some (b,x)/\b<w.heap.size:=fun a q=>by obtain⟨b,n,c,sz,arr,e,Q,S,_⟩:=hc.opn a q;exact⟨b,_,Q,C.ext.row a _ Q,(d9.1 S).1⟩
 refine⟨{K:=g'.K,row:=g'.row,bx:=g.bx},⟨fun i b h=> ?_,hc.inj,fun a q=> ?_,fun a a' b x x' q D G M=> ?_,Y.core.K0⟩,⟨fun _ _ h=>h,fun _ _ h=> .inl h⟩,⟨C.os,C.tape,C.output,C.size,hE,fun b G _ _=>H b G,C.new,fun a b q G=> ?_,C.arr⟩,O,?_⟩
 ·obtain⟨cs,arr,e,R,J,W,h4,X,h6⟩:=hc.box i b h
  have V:=H b (hc.lt h);exact⟨cs,arr,e,R,by rw[V.1];exact J,W,fun j v u h7 h8=>(h4 j v u h7 h8).mono fid O,X,by rw[<-h6];exact V.2⟩
 ·simp only[Ids.or,cI]at q
  rcases q with q|q
  ·obtain⟨b,n,c,sz,arr,e,Q,S,o3,o4,o5,o6⟩:=Y.core.opn a q
   refine⟨b,n,c,sz,arr,e,Q,S,o3,o4,o5,fun i h=> ?_⟩;have:=hc.lt h;have:=I a b q (by simp[Gh.blk,Q]);omega
  ·obtain⟨b,n,c,sz,arr,e,Q,S,o3,o4,o5,o6⟩:=hc.opn a q
   have V:=H b (d9.1 S).1;exact⟨b,n,c,sz,arr,e,C.ext.row a _ Q,by rw[V.1];exact S,o3,by rw[<-o4];exact V.2,o5,o6⟩
 ·simp only[Ids.or,cI]at q D
  simp only at G M;rcases q with q|q<;>rcases D with D|D
  ·exact Y.core.apart a a' b x x' q D G M
  ·obtain⟨b2,Z,R,J,W⟩:=F a' D
   rw[M]at J;simp at J;have:=I a b q (by simp[Gh.blk,G]);omega
  ·obtain⟨b2,Z,R,J,W⟩:=F a q
   rw[G]at J;simp at J;have:=I a' b D (by simp[Gh.blk,M]);omega
  ·obtain⟨b2,Z,R,J,W⟩:=F a q
   obtain⟨b3,x3,h4,X,h6⟩:=F a' D;rw[G]at J;rw[M]at X
   simp only[aL,dJ]at J X;refine hc.apart a a' b Z x3 q D (by rw[R,J.1]) (by rw[h4,X.1])
 ·simp only[Ids.or,cI]at q
  rcases q with q|q
  ·exact .inl (I a b q G)
  ·obtain⟨b2,Z,R,J,W⟩:=F a q
   simp only[Gh.blk,J]at G;exact .inr ⟨a,q,by simpa[Gh.blk,R]using G⟩
 ·have:=Y.val
  rw[hv]at this;cases this with
  |d _ _ h=>have e:ExtV g' w' {K:=g'.K,row:=g'.row,bx:=g.bx} w':=⟨fun _=>bf _,fun _ _=>rfl,fun _ _ h=>h⟩;exact .d _ _ (h.mono e)
end
section
variable {P:Program} {fid:Nat->FuncId}
theorem wX{f:AV->cZ}:∀{cs:aA} {ds:al},cQ f cs=some ds->ds.length=cs.length/\∀(j:Nat) (d:DV),ds[j]?=some d->∃v,cs[j]?=some v/\f v=some d
 | [],ds,h=>by simp[cQ]at h;subst h;exact⟨rfl,fun j d h=>by simp at h⟩
 |v::r,ds,h=>by
  simp only[cQ]at h;obtain⟨d,u,q⟩:=az.1 h;obtain⟨C,H,rfl⟩:=ay.1 q;obtain⟨F,D⟩:=wX H;refine⟨by simp[F],fun j G n=> ?_⟩;cases j with
  |zero=>simp at n;subst n;exact⟨v,rfl,u⟩
  |succ j=>simp at n;exact D j G n
theorem SR{B:ar}:∀{n:Nat} {v:AV} {d:DV},v.frzC B n=some d->v.isCell=true->d.isCell=true
 |0,.d _,d,h,hc=>by simp only[AV.frzC,aL]at h;subst h;exact hc
 |n+1,.d _,d,h,hc=>by simp only[AV.frzC,aL]at h;subst h;exact hc
 |n+1,.tsl _ _ _ _,d,h,hc=>by
  simp only[AV.frzC]at h;obtain⟨cs,C,u⟩:=az.1 h;obtain⟨ds,D,q⟩:=az.1 u;split at q
  ·obtain⟨xs,_,rfl⟩:=ay.1 q;rfl
  ·simp at q
 |0,.tsl _ _ _ _,d,h,_=>by simp[AV.frzC]at h
 |n,.ptr _ _,d,h,_=>by cases n<;>simp[AV.frzC]at h
 |n,.ep _,d,h,_=>by cases n<;>simp[AV.frzC]at h
 |n,.nilp,d,h,_=>by cases n<;>simp[AV.frzC]at h
 |n,.fn _ _,d,h,_=>by cases n<;>simp[AV.frzC]at h
 |n,.bsl _ _ _ _ _,d,h,_=>by cases n<;>simp[AV.frzC]at h
 |n,.ag _ _,d,h,_=>by cases n<;>simp[AV.frzC]at h
 |n,.und,d,h,_=>by cases n<;>simp[AV.frzC]at h
theorem v7:∀{n:Nat} {cs xs:al},(∀v:DV,v∈cs->v.isCell=true)->chunks agg sz n cs=some xs->xs.length=n/\
 ∀(i:Nat) (x:DV),xs[i]?=some x->x.cells.length=sz/\(∀v:DV,v∈x.cells->v.isCell=true)/\∀(j:Nat) (v:DV),x.cells[j]?=some v->cs[i*sz+j]?=some v
 |0,cs,xs,_,h=>by
  simp[chunks]at h;subst h
  exact⟨rfl,fun i x h=>by simp at h⟩
 |n+1,cs,xs,hc,h=>by
  simp only[chunks]at h;obtain⟨v,q,D⟩:=az.1 h;split at D
  ·rename_i I
   obtain⟨V,J,rfl⟩:=ay.1 D;obtain⟨Q,O⟩:=v7 (fun v M=>hc v (sV M)) J;refine⟨by simp[Q],fun i x C=> ?_⟩;cases i with
   |zero=>
    simp at C;subst C
    refine⟨I.1,fun v' H=>bB.1 I.2 v' H,fun j u d=> ?_⟩;unfold cut at q;split at q
    ·split at q
     ·simp at q;subst q
      simp[DV.cells,eY]at d;simpa using d.2
     ·simp at q
    ·have G:=hc v (cg q)
     have F:v.cells=[v]:=by cases v<;>simp_all[DV.cells,DV.isCell]
     rw[F]at d;cases j with
     |zero=>simp at d;subst d;simpa using q
     |succ j=>simp at d
   |succ i=>simp at C;obtain⟨S,K,R⟩:=O i x C;refine⟨S,K,fun j u d=> ?_⟩;have:=R j u d;rw[gP]at this;rw[show(i+1)*sz+j=sz+(i*sz+j)by rw[Nat.succ_mul];omega];exact this
  ·simp at D
end
section
variable {P:Program} {fid:Nat->FuncId}
section
variable {g g2:Gh} {w:World} {A:Ids}
end
end
section
variable {P:Program} {fid:Nat->FuncId}
noncomputable def Gh.back(g g':Gh)(w:World)(L:Nat)(l:eq):Gh:=
 {K:=fun b=>open Classical in if b<w.heap.size then g.K b else if∃a,a∈l/\g'.blk a=some b then 0 else g'.K b
  row:=g'.row
  bx:=fun i=>if i<L then g.bx i else(l[i-L]?).bind g'.blk}
section
variable {g g2:Gh} {w:World} {A:Ids}
end
end
variable{j:Nat}{es:al}
section
variable {P:Program} {fid:Nat->FuncId} {g:Gh} {w:World}
theorem I3{B:ar}{A:Ids}(hc:Core fid g w B A){r:Res}{u:Value}{g':Gh}{w':World}(J:Post fid N g w Ids.none r u g' w'):
 Post fid N g w A ⟨r.v,Ids.or r.A A,r.B⟩ u g' w':=by
 have q:=J.step;have I:∀b,b<w.heap.size->(∀i,g.bx i≠some b)->w'.heap[b]?=w.heap[b]?/\g'.K b=g.K b:=fun b F Z=>q.keep b F Z (fun a d=>by simp[Ids.none]at d)
 have G:∀a b,r.A a=true->g'.blk a=some b->w.heap.size<=b:=fun a b d F=>by
  rcases q.org a b d F with h|⟨a0,h,_⟩
  ·exact h
  ·simp[Ids.none]at h
 have D:∀a,A a=true->∃b x,g.row a=some (b,x)/\g'.row a=some (b,x)/\b<w.heap.size:=fun a d=>by obtain⟨b,n,c,sz,arr,e,Q,R,_⟩:=hc.opn a d;exact⟨b,_,Q,q.ext.row a _ Q,(d9.1 R).1⟩
 refine⟨J.val,⟨J.core.box,J.core.inj,fun a d=> ?_,fun a a' b x x' d C F M=> ?_,J.core.K0⟩,J.boxes,⟨q.os,q.tape,q.output,q.size,q.ext,fun b F Z _=>I b F Z,q.new,fun a b d F=> ?_,q.arr⟩⟩
 ·simp only[Ids.or,cI]at d
  rcases d with d|d
  ·exact J.core.opn a d
  ·obtain⟨b,n,c,sz,arr,e,Q,R,o3,o4,o5,o6⟩:=hc.opn a d
   have X:=(d9.1 R).1;have hk:=I b X o6;refine⟨b,n,c,sz,arr,e,q.ext.row a _ Q,by rw[hk.1];exact R,o3,by rw[<-o4];exact hk.2,o5,fun i h=> ?_⟩;rcases J.boxes.new i b h with O|O
   ·exact o6 i O
   ·omega
 ·simp only[Ids.or,cI]at d C
  rcases d with d|d<;>rcases C with C|C
  ·exact J.core.apart a a' b x x' d C F M
  ·obtain⟨Y,S,O,H,V⟩:=D a' C
   rw[M]at H;simp at H;have:=G a b d (by simp[Gh.blk,F]);omega
  ·obtain⟨Y,S,O,H,V⟩:=D a d
   rw[F]at H;simp at H;have:=G a' b C (by simp[Gh.blk,M]);omega
  ·obtain⟨Y,S,O,H,V⟩:=D a d
   obtain⟨b3,x3,h4,W,h6⟩:=D a' C;rw[F]at H;rw[M]at W
   simp only[aL,dJ]at H W;exact hc.apart a a' b S x3 d C (by rw[O,H.1]) (by rw[h4,W.1])
 ·simp only[Ids.or,cI]at d
  rcases d with d|d
  ·exact .inl (G a b d F)
  ·obtain⟨Y,S,O,H,V⟩:=D a d
   simp only[Gh.blk,H]at F;exact .inr ⟨a,d,by simpa[Gh.blk,O]using F⟩
def Gh.solo(i:Nat)(g:Gh):Gh:={g with bx:=fun j=>if j=0 then g.bx i else none}
theorem yI(h:(g.solo i).bx j=some b):j=0/\g.bx i=some b:=by
 simp only[Gh.solo]at h;split at h
 ·rename_i d;exact⟨d,h⟩
 ·simp at h
theorem Sj{B:ar}{A:Ids}(hc:Core fid g w B A)(H:aT B i=some cs)(S:aV cs=some es):Core fid (g.solo i) w [some cs] Ids.none:=by
 have hE:ExtV g w (g.solo i) w:=⟨fun _=>bf _,fun _ _=>rfl,fun _ _ h=>h⟩;refine⟨fun j b h=> ?_,fun j k b F D=>by rw[(yI F).1,(yI D).1],fun a I=>by simp[Ids.none]at I,fun a a' b x x' I=>by simp[Ids.none]at I,hc.K0⟩;obtain⟨rfl,h⟩:=yI h;obtain⟨n,arr,e,F,D,Q,K,J,R⟩:=hc.box i b h;have:n=cs:=by have:=jF.1 H;rw[F]at this;simpa using this
 subst this;have q:=gu S;refine⟨n,arr,e,rfl,D,Q,fun j v u C M=> ?_,fun v G=>⟨(J v G).1,?_⟩,R⟩
 ·have O:=K j v u C M
  rw[q]at C;simp only[c7]at C;obtain⟨d,_,rfl⟩:=ay.1 C;exact AVR.data fid hE O
 ·rw[q]at G
  obtain⟨d,_,rfl⟩:=cw.1 G;exact bd _ _
theorem ZM{B:ar}{A:Ids}(hc:Core fid g w B A){b0:Nat}{Q:aA}{b1:al}(hi:g.bx i=some b0)(c2:aT B i=some cs)(hd:aV cs=some es)(hd':aV Q=some b1)
{v:DV} {A1:Ids} {u:Value} {g':Gh} {w':World} (Y:Post fid N (g.solo i) w Ids.none ⟨.d v,A1,[some Q]⟩ u g' w'):
 ∃g2,Core fid g2 w' (B.set i (some Q)) (Ids.or A1 A)/\Boxes g w g2/\Step N g w A g2 w' (Ids.or A1 A)/\Ext g w g2 w'/\AVR fid g2 w' (.d v) u:=by
 have C:=Y.step;have I:∀b,b<w.heap.size->b≠b0->w'.heap[b]?=w.heap[b]?/\g'.K b=g.K b:=fun b H hne=>C.keep b H (fun j h=>by have:=(yI h).2;rw[hi]at this;simp at this;exact hne this.symm) (fun a q=>by simp[Ids.none]at q)
 have hE:ExtV g w {K:=g'.K,row:=g'.row,bx:=g.bx} w':=⟨C.ext.K,C.ext.cell,C.ext.row⟩;have x1:ExtV g' w' {K:=g'.K,row:=g'.row,bx:=g.bx} w':=⟨fun _=>bf _,fun _ _=>rfl,fun _ _ h=>h⟩;have R:Ext g w {K:=g'.K,row:=g'.row,bx:=g.bx} w':=⟨hE,fun _ _ h=>h⟩;have a3:i<B.length:=(aU.1 (jF.1 c2)).1;have J:∀a b,A1 a=true->g'.blk a=some b->w.heap.size<=b:=fun a b q H=>by
  rcases C.org a b q H with h|⟨a0,h,_⟩
  ·exact h
  ·simp[Ids.none]at h
 have F:∀a,A a=true->∃b x,g.row a=some (b,x)/\g'.row a=some (b,x)/\b<w.heap.size:=fun a q=>by obtain⟨b,n,c,sz,arr,e,W,o2,_⟩:=hc.opn a q;exact⟨b,_,W,C.ext.row a _ W,(d9.1 o2).1⟩
 have hb0:g'.bx 0=some b0:=Y.boxes.old 0 b0 (by simp[Gh.solo,hi]);refine⟨{K:=g'.K,row:=g'.row,bx:=g.bx},⟨fun j b h=> ?_,hc.inj,fun a q=> ?_,fun a a' b x x' q D H M=> ?_,Y.core.K0⟩,⟨fun _ _ h=>h,fun _ _ h=> .inl h⟩,⟨C.os,C.tape,C.output,C.size,hE,fun b H hn _=>I b H (fun he=>hn i (by rw[he];exact hi)),C.new,fun a b q H=> ?_,C.arr⟩,R,?_⟩
 ·by_cases V:j=i
  ·subst V
   have:b=b0:=by rw[hi]at h;simpa using h.symm
   subst this;obtain⟨a1,arr,e,O,G,S,h4,X,h6⟩:=Y.core.box 0 b hb0;simp only[eG,aL]at O;subst O;have a2:=gu hd';refine⟨Q,arr,e,by rw[iM a3],G,S,fun k v u Z h8=> ?_,fun v hv=>⟨(X v hv).1,?_⟩,h6⟩
   ·have h9:=h4 k v u Z h8
    rw[a2]at Z;simp only[c7]at Z;obtain⟨d,_,rfl⟩:=ay.1 Z;exact AVR.data fid x1 h9
   ·rw[a2]at hv
    obtain⟨d,_,rfl⟩:=cw.1 hv;exact bd _ _
  ·obtain⟨a1,arr,e,O,G,S,h4,X,h6⟩:=hc.box j b h
   have hk:=I b (hc.lt h) (fun he=>V (hc.inj j i b h (by rw[he];exact hi)));exact⟨a1,arr,e,by rw[dK (Ne.symm V)];exact O,by rw[hk.1];exact G,S,fun k v u Z h8=>(h4 k v u Z h8).mono fid R,X,by rw[<-h6];exact hk.2⟩
 ·simp only[Ids.or,cI]at q
  rcases q with q|q
  ·obtain⟨b,n,c,sz,arr,e,W,o2,o3,o4,o5,o6⟩:=Y.core.opn a q
   refine⟨b,n,c,sz,arr,e,W,o2,o3,o4,o5,fun j h=> ?_⟩;have:=hc.lt h;have:=J a b q (by simp[Gh.blk,W]);omega
  ·obtain⟨b,n,c,sz,arr,e,W,o2,o3,o4,o5,o6⟩:=hc.opn a q
   have hk:=I b (d9.1 o2).1 (fun he=>o6 i (by rw[he];exact hi));exact⟨b,n,c,sz,arr,e,C.ext.row a _ W,by rw[hk.1];exact o2,o3,by rw[<-o4];exact hk.2,o5,o6⟩
 ·simp only[Ids.or,cI]at q D
  simp only at H M;rcases q with q|q<;>rcases D with D|D
  ·exact Y.core.apart a a' b x x' q D H M
  ·obtain⟨b2,x2,O,G,S⟩:=F a' D
   rw[M]at G;simp at G;have:=J a b q (by simp[Gh.blk,H]);omega
  ·obtain⟨b2,x2,O,G,S⟩:=F a q
   rw[H]at G;simp at G;have:=J a' b D (by simp[Gh.blk,M]);omega
  ·obtain⟨b2,x2,O,G,S⟩:=F a q
   obtain⟨b3,x3,h4,X,h6⟩:=F a' D;rw[H]at G;rw[M]at X
   simp only[aL,dJ]at G X;exact hc.apart a a' b x2 x3 q D (by rw[O,G.1]) (by rw[h4,X.1])
 ·simp only[Ids.or,cI]at q
  rcases q with q|q
  ·exact .inl (J a b q H)
  ·obtain⟨b2,x2,O,G,S⟩:=F a q
   simp only[Gh.blk,G]at H;exact .inr ⟨a,q,by simpa[Gh.blk,O]using H⟩
 ·exact AVR.data fid x1 Y.val
end
variable{s':St}{vo:VOper}{L0:Nat}{draw:Bool}{p:Id}{call:ct}
section
variable {P:Program} {fid:Nat->FuncId} {g:Gh} {w:World}
theorem vQ{c:Call}{f:Operand}{k:FuncId}{caps:cA}(C:o.op= .call c)(hc:c.callee= .value f)(G:a.eval f= .func (.func k) #[] caps)(d:my P k):
 (execOp a.eval o).run P w= .ok (.enter k (c.args.map a.eval++caps)) w:=by
 obtain⟨fn,D,u,F⟩:=d;have q:¬fn.name= "runtime.NumGoroutine":=by simpa using u
 have n:¬fn.body=none:=fun h=>by simp[h]at F
 simp[execOp,C,resolve,hc,G,Deferred.ofValue,invoke,callFunc,D,q,n]
theorem Sx(S:ie P fid call)(hcore:Core fid g w s.B s.A)(M:qdc fid g w s.r a.tmps)
 (a2:∀q,g.row (q++(s.c+i)::p)=none) (a3:o.dst=vo.dst) (W:∀d,o.dst=some d->d<a.tmps.size) (C:aM P fid o.op vo.op=true) (D:aY call p draw L0 i vo s=some s')
 (K:Act->World->Prop) (Q:Exit->Act->World->Prop)
 (hK:∀g' w' u,Core fid g' w' s'.B s'.A->Boxes g w g'->Step (under (s.c+i) p) g w s.A g' w' s'.A->qdc fid g' w' s'.r (a.put o.dst u).tmps->K (a.put o.dst u) w'):o.wp P a w K Q:=by
 have J:Nonempty (Does P fid (under (s.c+i) p) g w a o s s')->o.wp P a w K Q:=by
  rintro⟨n,u,w',g',run,res,core,boxes,step,regs⟩
  unfold Oper.wp;rw[run];rcases res with rfl|⟨rfl,rfl⟩
  ·exact hK g' w' u core boxes step regs
  ·exact hK g' w' undef core boxes step regs
 obtain⟨dst,vop,gd,af⟩:=vo;simp only at a3 C;subst a3;have hf0:=a2 [];simp only[dG]at hf0;have pure:∀v,aK s.r vop=some v->s'=s.put o.dst v->o.wp P a w K Q:=by
  rintro v I rfl
  obtain⟨u,V,h3⟩:=NT (P:=P) (fid:=fid) M C I;exact J ⟨Does.still u hcore M W V h3⟩
 cases vop with
 |load ag sz x=>exact J (K2 hcore M W C D _)
 |store ini sz x y=>exact J (Fi hcore M W C D _)
 |storeN sz x y av=>
  have Z:aM P fid o.op (.store false sz x y)=true:=by
   cases ho:o.op with
   |store t a v=>rw[ho]at C;simpa only[aM]using C
   |_=>rw[ho]at C;simp[aM]at C
  have hv':aY call p draw L0 i ⟨o.dst,.store false sz x y,gd,af⟩ s=some s':=by
   simp only[aY]at D⊢
   split at D
   ·split at D
    ·simp at D
    ·rename_i hc
     simp only[cI,not_or]at hc;rw[au hc.1];exact D
   ·simp at D
  exact J (Fi hcore M W Z hv' _)
 |loadS ag sz x c0=>
  have Z:aM P fid o.op (.load ag sz x)=true:=by
   cases ho:o.op with
   |load t a=>rw[ho]at C;simpa only[aM]using C
   |_=>rw[ho]at C;simp[aM]at C
  have hv':aY call p draw L0 i ⟨o.dst,.load ag sz x,gd,af⟩ s=some s':=by
   simp only[aY]at D⊢
   split at D
   ·rename_i b off b' o' e1 e2
    split at D
    ·simp at D
    ·rename_i hc
     simp only[e1];rw[au (fun h=>hc (.inr h))];exact D
   ·simp at D
  exact J (K2 hcore M W Z hv' _)
 |append1 sz by' x y ix v t9=>cases ho:o.op<;>(rw[ho]at C;simp[aM]at C)
 |alloc k z=>exact J (SU hcore M W C D _)
 |box k x=>exact J (qXr hcore M W C D _)
 |buildSlice sz z n ps=>exact J (qpR hcore M W C D hf0)
 |makeSlice k sz by' z x=>exact J (qsd hcore M W C D _)
 |append sz by' x y=>exact J (R_ hcore M W C D hf0)
 |call iso f args=>
  obtain⟨dst,op,ty,pos,after,guard⟩:=o;cases op with
  |call c=>
   obtain⟨callee,F,argTypes⟩:=c;cases callee with
   |value fo=>
    simp only[aM,aQ]at C;obtain⟨Y,x2⟩:=C;simp only[aY]at D;split at D
    ·rename_i k caps vs hf hvs
     have R:=bG (w:=w) M Y hf;obtain⟨hl,H⟩:=ug (w:=w) M x2 hvs;generalize hq:a.eval fo=q at R;cases R with
     |fn _ _ us a1 b1=>
      split at D
      ·
       split at D
       ·rename_i ds hds
        split at D
        ·rename_i v A B hc
         simp at D;subst D
         obtain⟨X,x3⟩:=S _ _ _ _ _ _ hc;have hdd:=gu hds;have x1:us= #[]:=by simpa using a1
         subst x1;have O:=vQ (P:=P) (w:=w) (a:=a) (o:=⟨dst,.call ⟨.value fo,F,argTypes⟩,ty,pos,after,guard⟩) rfl rfl hq X;have G:=x3 (g.cutB 0) w (F.map a.eval++ #[]) (by simp[hl]) (fun j v u I V=>by
          simp at V;obtain⟨oo,h3,rfl⟩:=V;have h4:=H j v oo I (by simpa using h3);have:∃d,v= .d d:=by rw[hdd]at I;simp at I;obtain⟨d,_,rfl⟩:=I;exact⟨d,rfl⟩
          obtain⟨d,rfl⟩:=this;have e5:ExtV g w (g.cutB 0) w:=⟨fun _=>bf _,fun _ _=>rfl,fun _ _ h=>h⟩;exact AVR.data fid e5 h4) (by
          have h5:=(hcore.cutB 0).sub (A':=Ids.none) (fun x hx=>by simp[Ids.none]at hx);simpa using h5) (fun q j _=>by
          have:=a2 (q++[j]);simpa[Gh.cutB]using this)
         unfold Oper.wp;rw[O,Oper.upon_enter];refine G.mono fun e w' ⟨u,g',he,hp⟩=> ?_
         subst he;obtain⟨g2,c2,b2,s2,e2,v2⟩:=HJ hcore rfl hp;exact hK g2 w' u (by rw[gY,dP];exact c2) b2 (by rw[dP];exact s2.weaken (fun x ⟨q,j,_,hx⟩=>⟨q++[j],by simp[hx]⟩)) (gw (s:={s with A:=_}) (M.mono fid e2) v2 W)
        ·simp at D
       ·simp at D
      ·
       split at D
       ·rename_i v A B hc
        simp at D;subst D
        obtain⟨X,x3⟩:=S _ _ _ _ _ _ hc;have O:=vQ (P:=P) (w:=w) (a:=a) (o:=⟨dst,.call ⟨.value fo,F,argTypes⟩,ty,pos,after,guard⟩) rfl rfl hq X;have G:=x3 g w (F.map a.eval++us) (by simp[hl,a1]) (fun j v u I V=>by
         by_cases hj:j<vs.length
         ·rw[cf hj]at I
          rw[kN (by simpa[hl]using hj)]at V;simp at V;obtain⟨oo,h3,rfl⟩:=V;exact H j v oo I (by simpa using h3)
         ·rw[cF (by omega)]at I
          rw[Lw (by simp at hl⊢;omega)]at V;exact b1 _ v u I (by simpa[hl]using V)) hcore (fun q j _=>by
         have:=a2 (q++[j]);simpa using this)
        unfold Oper.wp;rw[O,Oper.upon_enter];refine G.mono fun e w' ⟨u,g',he,hp⟩=> ?_
        subst he;have hext:Ext g w g' w':=⟨hp.step.ext,hp.boxes.old⟩;exact hK g' w' u (by rw[gY,dP];exact hp.core) hp.boxes (by rw[dP];exact hp.step.weaken (fun x ⟨q,j,_,hx⟩=>⟨q++[j],by simp[hx]⟩)) (gw (s:={s with A:=_,B:=_}) (M.mono fid hext) hp.val W)
       ·simp at D
    ·simp at D
   |_=>simp[aM]at C
  |_=>simp[aM]at C
 |callS c0 f args=>
  obtain⟨dst,op,ty,pos,after,guard⟩:=o;cases op with
  |call c=>
   obtain⟨callee,F,argTypes⟩:=c;cases callee with
   |value fo=>
    simp only[aM,aQ]at C;obtain⟨Y,x2⟩:=C;simp only[aY]at D;split at D
    ·rename_i k b off vs b' o' hf hvs hc0
     split at D
     ·simp at D
     rename_i hbb;obtain⟨ds,d1,D⟩:=az.1 D;obtain⟨cs,d2,D⟩:=az.1 D;obtain⟨es,d3,D⟩:=az.1 D;split at D
     ·rename_i v A cs' hc
      obtain⟨es',d4,D⟩:=ay.1 D;have R:=bG (w:=w) M Y hf;obtain⟨hl,H⟩:=ug (w:=w) M x2 hvs;generalize hq:a.eval fo=q at R;cases R with
      |fn _ _ us a1 b1=>
       obtain⟨X,x3⟩:=S _ _ _ _ _ _ hc;have x1:us= #[]:=by simpa using a1
       subst x1;have hl':F.size=vs.length+1:=by simp at hl;omega
       obtain⟨o0,ho0⟩:∃o0,F[0]?=some o0:=⟨F[0],by simp[hl']⟩;have hp0:=H 0 (.ptr b off) o0 rfl (by simpa using ho0);obtain⟨blk,hblk,hev⟩:=fM hp0;have hE:ExtV g w (g.solo b) w:=⟨fun _=>bf _,fun _ _=>rfl,fun _ _ h=>h⟩;have hdd:=gu d1;have O:=vQ (P:=P) (w:=w) (a:=a) (o:=⟨dst,.call ⟨.value fo,F,argTypes⟩,ty,pos,after,guard⟩) rfl rfl hq X;have G:=x3 (g.solo b) w (F.map a.eval++ #[]) (by simp[hl']) (fun j v u I V=>by
        simp at V;obtain⟨oo,h3,rfl⟩:=V;cases j with
        |zero=>simp only[eG,aL]at I;subst I;rw[ho0]at h3;simp only[aL]at h3;subst h3;rw[hev];exact .ptr _ _ _ (by simp[Gh.solo,hblk])
        |succ j=>
         simp only[mP]at I;have h4:=H (j+1) v oo (by simpa using I) (by simpa using h3);rw[hdd]at I;simp only[c7]at I;obtain⟨d,_,rfl⟩:=ay.1 I;exact AVR.data fid hE h4) (Sj hcore d2 d3) (fun q j _=>by
        have:=a2 (q++[j]);simpa[Gh.solo]using this)
       unfold Oper.wp;rw[O,Oper.upon_enter];refine G.mono fun e w' ⟨u,g',he,hp⟩=> ?_
       subst he;obtain⟨g2,c2,b2,s2,e2,v2⟩:=ZM hcore hblk d2 d3 d4 hp;subst D;exact hK g2 w' u (by rw[gY,dP];exact c2) b2 (by rw[dP];exact s2.weaken (fun x ⟨q,j,_,hx⟩=>⟨q++[j],by simp[hx]⟩)) (gw (s:={s with B:=_,A:=_}) (M.mono fid e2) v2 W)
     ·simp at D
    ·simp at D
   |_=>simp[aM]at C
  |_=>simp[aM]at C
 |_=>simp only[aY]at D;obtain⟨v,I,V⟩:=ay.1 D;exact pure v I V.symm
end
inductive Eff where
 |none
 |box (b:Nat) (x:Option aA)
 |ids (X:Ids)
 |app (new a:Id)
def Eff.on(e:Eff)(s:St):St:=
 match e with
 | .none=>s
 | .box b x=>{s with B:=s.B.set b x}
 | .ids X=>{s with A:=Ids.or X s.A}
 | .app new a=>{s with A:=Ids.add new (Ids.del a s.A)}
def x8(A:Ids)(new:Id)(sz bytes:Nat)(x y:DV):Option (AV×Eff):=
 match x,y with
 | .sl g xs,.sl _ h=>
  if h.all (fun e=>e.cells.length=sz/\e.cells.all DV.isCell)then
   if h.isEmpty then some (.d (.sl g xs),.none)
   else if(xs.length+h.length)*bytes<=140737488355328 then
    match g with
    | .nil=>some (.d (.sl (.own new sz) h),.ids (fun x=>decide (x=new)))
    | .own a n=>if xs.isEmpty then some (.d (.sl (.own new sz) h),.ids (fun x=>decide (x=new)))else if n=sz/\A a=true then some (.d (.sl (.own new sz) (xs++h)),.app new a)else none
    | .sub=>none
   else none
  else none
 |_,_=>none
def bz(call:ct)(p:Id)(L0 i:Nat)(op:VOp)(c:Nat)(r:aE)(B:ar)(A:Ids):Option (AV×Eff):=
 match op with
 | .alloc k zero=>if cO B (L0+k)/\zero.all DV.isCell then some (.ptr (L0+k) 0,.box (L0+k) (some (zero.map .d)))else none
 | .box k x=>(x.get r).bind fun v=>if cO B (L0+k)/\v.cells.all AV.isCell/\v.safe (L0+k)then some (.ptr (L0+k) 0,.box (L0+k) (some v.cells))else none
 | .load agg sz a=>
  match a.get r with
  |some (.ep cs)=>(cut agg sz cs).map fun v=>(.d v,.none)
  |some (.ptr b off)=>if L0<=b then none else(aP B agg sz b off).map fun v=>(v,.none)
  |_=>none
 | .loadS agg sz a h=>
  match a.get r,lk r h with
  |some (.ptr b off),some (.ptr b' _)=>if b=b'\/L0<=b then none else(aP B agg sz b off).map fun v=>(v,.none)
  |_,_=>none
 | .store true sz a x=>
  match a.get r,x.get r with
  |some (.ptr b off),some v=>
   if b<L0 then none
   else(aT B b).bind fun cs=>if v.cells.length=sz/\off+sz<=cs.length/\v.cells.all AV.isCell/\v.safe b then some (.und,.box b (some (splice cs off v.cells)))else none
  |_,_=>none
 | .buildSlice sz zero len parts=>
  if zero.cells.length=sz/\zero.cells.all DV.isCell/\len*sz<=16777216/\len<=16777216 then
   (df (VX.get r) sz (List.replicate len zero) parts).map fun xs=>(.d (.sl (.own ((c+i)::p) sz) xs),.ids (fun x=>decide (x=(c+i)::p)))
  else none
 | .append sz bytes x y=>
  match x.get r,y.get r with
  |some (.d v),some (.d w)=>x8 A ((c+i)::p) sz bytes v w
  |_,_=>none
 | .call true f args=>
  match f.get r,di r args with
  |some (.fn k caps),some vs=>
   match aV vs,caps with
   |some _,[]=>
    match call ((c+i)::p) k vs [] Ids.none with
    |some {v:= .d v,A:=A',B:=_}=>some (.d v,.ids A')
    |_=>none
   |_,_=>none
  |_,_=>none
 |op=>(aK r op).map fun v=>(v,.none)
theorem Uq(call:ct)(p:Id)(L0 i:Nat)(o:VOper)(s:St)(C:o.op.kind≠.eff):aY call p true L0 i o s=(bz call p L0 i o.op s.c s.r s.B s.A).map fun q=>(q.2.on s).put o.dst q.1:=by
 obtain⟨dst,op,gd,af⟩:=o;cases op with
 |storeN sz a x av=>exact absurd rfl C
 |alloc k z=>simp only[aY,bz];split<;>rfl
 |box k x=>
  simp only[aY,bz];cases x.get s.r with
  |none=>rfl
  |some v=>simp only[a9];split<;>rfl
 |load ag sz x=>
  simp only[aY,bz];generalize x.get s.r=q;cases q with
  |none=>rfl
  |some v=>
   cases v with
   |ep cs=>cases h:cut ag sz cs<;>simp[h,Eff.on]
   |ptr b off=>
    by_cases D:L0<=b
    ·simp[D]
    ·cases h:aP s.B ag sz b off<;>simp[D,h,Eff.on]
   |_=>rfl
 |loadS ag sz x G=>
  simp only[aY,bz];generalize x.get s.r=q;generalize lk s.r G=q';cases q with
  |none=>rfl
  |some v=>
   cases v with
   |ptr b off=>
    cases q' with
    |none=>rfl
    |some w=>
     cases w with
     |ptr b' J=>
      by_cases D:b=b'\/L0<=b
      ·simp only[D,j6,if_true,E9]
      ·simp only[D,j6,if_false]
       cases h:aP s.B ag sz b off<;>simp[Eff.on]
     |_=>rfl
   |_=>rfl
 |store F sz x y=>
  cases F with
  |false=>simp[VOp.kind]at C
  |true=>
   simp only[aY,bz];generalize x.get s.r=q;generalize y.get s.r=q';cases q with
   |none=>rfl
   |some a=>
    cases a with
    |ptr b off=>
     cases q' with
     |none=>rfl
     |some v=>
      simp only[gq,fh,if_true,bu];split
      ·rfl
      ·unfold jr
       cases aT s.B b with
       |none=>rfl
       |some cs=>simp only[a9];split<;>rfl
    |_=>rfl
 |buildSlice sz z n ps=>
  simp only[aY,bz];split
  ·cases df (VX.get s.r) sz (List.replicate n z) ps<;>rfl
  ·rfl
 |makeSlice k sz u z x=>simp[VOp.kind]at C
 |callS G f args=>simp[VOp.kind]at C
 |append1 sz u x y K v t9=>simp[VOp.kind]at C
 |append sz u x y=>
  simp only[aY,bz];generalize x.get s.r=q;generalize y.get s.r=q';have key:∀(v w:DV),(fC s ((s.c+i)::p) sz u v w).map (fun x=>x.2.put dst x.1)=(x8 s.A ((s.c+i)::p) sz u v w).map fun q=>(q.2.on s).put dst q.1:=by
   intro v w;unfold fC x8;cases v with
   |sl g xs=>
    cases w with
    |sl g' I=>
     simp only;split
     ·split
      ·rfl
      ·split
       ·cases g with
        |nil=>rfl
        |sub=>rfl
        |own a H=>simp only;split<;>first|rfl|(split<;>rfl)
       ·rfl
     ·rfl
    |_=>rfl
   |_=>rfl
  cases q with
  |none=>rfl
  |some a=>
   cases q' with
   |none=>cases a<;>rfl
   |some b=>
    cases a with
    |d v=>
     cases b with
     |d w=>exact key v w
     |_=>rfl
    |_=>rfl
 |call iso f args=>
  cases iso with
  |false=>simp[VOp.kind]at C
  |true=>
   simp only[aY,bz,if_true];generalize f.get s.r=q;generalize di s.r args=q';cases q with
   |none=>rfl
   |some a=>
    cases a with
    |fn k caps=>
     cases q' with
     |none=>rfl
     |some vs=>
      simp only;generalize aV vs=d;cases d with
      |none=>rfl
      |some ds=>
       cases caps with
       |cons _ _=>rfl
       |nil=>
        simp only;generalize call ((s.c+i)::p) k vs [] Ids.none=rr;cases rr with
        |none=>rfl
        |some res=>obtain⟨v,A,B⟩:=res;cases v<;>rfl
    |_=>rfl
 |_=>simp only[aY,bz];generalize aK s.r _=q;cases q<;>rfl
def agree(r r':aE)(l:ae):Prop:=∀t,t∈l->lk r t=lk r' t
variable{r':aE}
theorem cH(h:agree r r' x.tmps):x.get r=x.get r':=by
 cases x with
 |t n=>exact h n (by simp[VX.tmps])
 |c v=>rfl
variable{l l':ae}
theorem ed(h:agree r r' (l++l')):agree r r' l:=fun t d=>h t (lw _ d)
theorem en(h:agree r r' (l++l')):agree r r' l':=fun t d=>h t (od _ d)
theorem sQ:∀{xs:cm},agree r r' (xs.flatMap VX.tmps)->di r xs=di r' xs
 | [],_=>rfl
 |x::xs,h=>by simp only[eI]at h;simp only[di,cH (ed h),sQ (en h)]
theorem Iv:∀{ps:iX} {cs:al},agree r r' (ps.flatMap fun q=>q.2.2.tmps)->ez (VX.get r) cs ps=ez (VX.get r') cs ps
 | [],_,_=>rfl
 |(off,sz,x)::ps,cs,h=>by
  simp only[eI]at h;simp only[ez,cH (ed h)];split
  ·split
   ·exact Iv (en h)
   ·rfl
  ·rfl
theorem Lo:∀{ps:i9} {cs:al},agree r r' (ps.flatMap fun q=>q.2.tmps)->df (VX.get r) sz cs ps=df (VX.get r') sz cs ps
 | [],_,_=>rfl
 |(i,x)::ps,cs,h=>by
  simp only[eI]at h;simp only[df,cH (ed h)];split
  ·split
   ·exact Lo (en h)
   ·rfl
  ·rfl
theorem NS{x:iq}(h:agree r r' (x.toList.flatMap VX.tmps)):dz r x=dz r' x:=by
 cases x with
 |none=>rfl
 |some x=>simp only[Option.toList_some,eI,List.flatMap_nil,dB]at h;simp only[dz,cH h]
variable{op:VOp}
theorem Rw(h:agree r r' op.tmps):aK r op=aK r' op:=by
 cases op with
 |move x=>simp only[VOp.tmps]at h;simp only[aK,cH h]
 |pick c a b=>simp only[VOp.tmps]at h;simp only[aK,cH (ed (ed h)),cH (en (ed h)),cH (en h)]
 |build z ps=>simp only[VOp.tmps]at h;simp only[aK,Iv h]
 |nilCheck x=>simp only[VOp.tmps]at h;simp only[aK,cH h]
 |bin b x y=>simp only[VOp.tmps]at h;simp only[aK,cH (ed h),cH (en h)]
 |eqAgg n k x y=>simp only[VOp.tmps]at h;simp only[aK,cH (ed h),cH (en h)]
 |eqB n x y=>simp only[VOp.tmps]at h;simp only[aK,cH (ed h),cH (en h)]
 |eqNil n x=>simp only[VOp.tmps]at h;simp only[aK,cH h]
 |not x=>simp only[VOp.tmps]at h;simp only[aK,cH h]
 |conv c x=>simp only[VOp.tmps]at h;cases c<;>simp only[aK,cH h]
 |index x y=>simp only[VOp.tmps]at h;simp only[aK,cH (ed h),cH (en h)]
 |indexAddr sz arr x y=>simp only[VOp.tmps]at h;cases arr<;>simp only[aK,cH (ed h),cH (en h)]
 |fieldAddr o x=>simp only[VOp.tmps]at h;simp only[aK,cH h]
 |slice s sz x lo hi=>simp only[VOp.tmps,List.flatMap_append]at h;cases s<;>simp only[aK,cH (ed h),NS (ed (en h)),NS (en (en h))]
 |makeFunc f cs=>simp only[VOp.tmps]at h;simp only[aK,sQ h]
 |extract x i=>simp only[VOp.tmps]at h;simp only[aK,cH h]
 |len s x=>simp only[VOp.tmps]at h;cases s<;>simp only[aK,cH h]
 |_=>simp only[aK]
theorem Ft{B:ar}{A:Ids}(h:agree r r' op.tmps):bz call p L0 i op c r B A=bz call p L0 i op c r' B A:=by
 cases op with
 |alloc k z=>rfl
 |box k x=>simp only[VOp.tmps]at h;simp only[bz,cH h]
 |load ag sz x=>simp only[VOp.tmps]at h;simp only[bz,cH h]
 |loadS ag sz x u=>simp only[VOp.tmps]at h;simp only[bz,cH (ed h),en h u (by simp)]
 |store q sz x y=>
  simp only[VOp.tmps]at h;cases q
  ·simp only[bz,aK]
  ·simp only[bz,cH (ed h),cH (en h)]
 |buildSlice sz z n ps=>simp only[VOp.tmps]at h;simp only[bz,Lo h]
 |makeSlice k sz d z x=>simp only[bz,aK]
 |callS u f args=>simp only[bz,aK]
 |append1 sz d x y C v t9=>simp only[bz,aK]
 |append sz d x y=>simp only[VOp.tmps]at h;simp only[bz,cH (ed h),cH (en h)]
 |call iso f args=>
  simp only[VOp.tmps]at h;cases iso
  ·simp only[bz,aK]
  ·simp only[bz,cH (ed h),sQ (en h)]
 |_=>simp only[bz,Rw h]
def Eff.B(e:Eff)(B:ar):ar:=
 match e with
 | .box b x=>B.set b x
 |_=>B
def Eff.A(e:Eff)(A:Ids):Ids:=
 match e with
 | .ids X=>Ids.or X A
 | .app new a=>Ids.add new (Ids.del a A)
 |_=>A
theorem Eff.q0F(e:Eff)(s:St):e.on s={s with B:=e.B s.B,A:=e.A s.A}:=by cases e<;>rfl
def bP(call:ct)(p:Id)(L0 i:Nat)(op:VOp)(c:Nat)(r:aE)(B:ar)(A:Ids):Option (AV×ar×Ids):=
 match op with
 | .store false sz a x=>
  match a.get r,x.get r with
  |some (.ptr b off),some v=>
   if L0<=b then none
   else(aT B b).bind fun cs=>if v.cells.length=sz/\off+sz<=cs.length/\v.cells.all AV.isCell/\v.safe b then some (.und,B.set b (some (splice cs off v.cells)),A)else none
  |_,_=>none
 | .storeN sz a x av=>
  match a.get r,x.get r with
  |some (.ptr b off),some v=>
   if L0<=b\/eZ r b av=false then none
   else(aT B b).bind fun cs=>if v.cells.length=sz/\off+sz<=cs.length/\v.cells.all AV.isCell/\v.safe b then some (.und,B.set b (some (splice cs off v.cells)),A)else none
  |_,_=>none
 | .call false f args=>
  match f.get r,di r args with
  |some (.fn k caps),some vs=>
   match call ((c+i)::p) k (vs++caps) B A with
   |some {v,A:=A',B:=B'}=>some (v,B',A')
   |none=>none
  |_,_=>none
 | .makeSlice _ _ _ _ _=>none
 | .append1 _ _ _ _ _ _ _=>none
 | .callS u f args=>
  match f.get r,di r args,lk r u with
  |some (.fn k []),some (.ptr b off::vs),some (.ptr b' _)=>
   if b≠b' then none else(aV vs).bind fun _=>(aT B b).bind fun cs=>(aV cs).bind fun _=>
    match call ((c+i)::p) k (.ptr 0 off::vs) [some cs] Ids.none with
    |some {v:= .d v,A:=n,B:=[some h]}=>(aV h).map fun _=>(.d v,B.set b (some h),Ids.or n A)
    |_=>none
  |_,_,_=>none
 |op=>(bz call p L0 i op c r B A).map fun q=>(q.1,q.2.B B,q.2.A A)
theorem Eg(call:ct)(p:Id)(L0 i:Nat)(o:VOper)(s:St):
 aY call p true L0 i o s=(bP call p L0 i o.op s.c s.r s.B s.A).map fun q=>St.put ⟨s.r,q.2.1,q.2.2,s.c⟩ o.dst q.1:=by
 have main:o.op.kind≠.eff->(∀sz a x,o.op≠.store false sz a x)->(∀f as,o.op≠.call false f as)->(∀k sz b z x,o.op≠.makeSlice k sz b z x)->
  aY call p true L0 i o s=(bP call p L0 i o.op s.c s.r s.B s.A).map fun q=>St.put ⟨s.r,q.2.1,q.2.2,s.c⟩ o.dst q.1:=by
  intro F G I K;rw[Uq call p L0 i o s F];have:bP call p L0 i o.op s.c s.r s.B s.A=(bz call p L0 i o.op s.c s.r s.B s.A).map fun q=>(q.1,q.2.B s.B,q.2.A s.A):=by
   unfold bP;split<;>first
    |rfl
    |(rename_i h;first|exact absurd h (G _ _ _)|exact absurd h (I _ _)|exact absurd h (K _ _ _ _ _)|(rw[h]at F;exact absurd rfl F))
  rw[this];cases bz call p L0 i o.op s.c s.r s.B s.A with
  |none=>rfl
  |some q=>simp[Eff.q0F]
 obtain⟨dst,op,gd,af⟩:=o;cases op with
 |storeN sz x y av=>
  simp only[aY,bP];generalize x.get s.r=q;generalize y.get s.r=q';cases q with
  |none=>rfl
  |some a=>
   cases a with
   |ptr b off=>
    cases q' with
    |none=>rfl
    |some v=>
     by_cases hc:L0<=b\/eZ s.r b av=false
     ·have u:(gq true false L0 b|| !eZ s.r b av)=true:=by
       simp only[gq,fh,bL,if_false,cI,bu,fT];exact hc
      simp only;rw[aw hc,aw u];rfl
     ·have u:¬(gq true false L0 b|| !eZ s.r b av)=true:=by
       simp only[gq,fh,bL,if_false,cI,bu,fT];exact hc
      simp only;rw[au hc,au u];unfold jr;cases aT s.B b with
      |none=>rfl
      |some cs=>simp only[a9];split<;>rfl
   |_=>rfl
 |store D sz x y=>
  cases D with
  |true=>exact main (by simp[VOp.kind]) (by simp) (by simp) (by simp)
  |false=>
   simp only[aY,bP];generalize x.get s.r=q;generalize y.get s.r=q';cases q with
   |none=>rfl
   |some a=>
    cases a with
    |ptr b off=>
     cases q' with
     |none=>rfl
     |some v=>
      simp only[gq,fh,bL,if_false,bu];split
      ·rfl
      ·unfold jr
       cases aT s.B b with
       |none=>rfl
       |some cs=>simp only[a9];split<;>rfl
    |_=>rfl
 |call iso f args=>
  cases iso with
  |true=>exact main (by simp[VOp.kind]) (by simp) (by simp) (by simp)
  |false=>
   simp only[aY,bP,bL,if_false];generalize f.get s.r=q;generalize di s.r args=q';cases q with
   |none=>rfl
   |some a=>
    cases a with
    |fn k caps=>
     cases q' with
     |none=>rfl
     |some vs=>simp only;generalize call ((s.c+i)::p) k (vs++caps) s.B s.A=rr;cases rr<;>rfl
    |_=>rfl
 |makeSlice k sz b z x=>
  simp only[aY,bP];generalize x.get s.r=q;cases q with
  |none=>rfl
  |some a=>
   cases a with
   |d v=>cases v<;>simp
   |_=>rfl
 |append1 sz J x y Q v t9=>
  simp only[aY,bP,E9];split
  ·rw[au (fun h=>by simp at h)]
  ·rfl
 |callS M f args=>
  simp only[aY,bP];generalize f.get s.r=q;generalize di s.r args=q';generalize lk s.r M=q2;split
  ·rename_i H b off vs b' O
   simp only;split
   ·rfl
   ·cases aV vs with
    |none=>rfl
    |some ds=>
     simp only[a9];cases aT s.B b with
     |none=>rfl
     |some cs=>
      simp only[a9];cases aV cs with
      |none=>rfl
      |some es=>
       simp only[a9];generalize call ((s.c+i)::p) H (.ptr 0 off::vs) [some cs] Ids.none=rr;split
       ·rename_i v A C
        simp only;cases aV C<;>rfl
       ·rename_i n
        split
        ·rename_i v A C
         exact absurd rfl (n v A C)
        ·rfl
  ·rename_i n
   split
   ·rename_i k b off vs b' O
    exact absurd rfl (n _ _ _ _ _ _ rfl rfl)
   ·rfl
 |_=>exact main (by simp[VOp.kind]) (by simp) (by simp) (by simp)
theorem sP{B:ar}{A:Ids}(h:agree r r' op.tmps):bP call p L0 i op c r B A=bP call p L0 i op c r' B A:=by
 cases op with
 |store d sz x y=>
  cases d
  ·simp only[VOp.tmps]at h;simp only[bP,cH (ed h),cH (en h)]
  ·simp only[bP,Ft h]
 |call iso f args=>
  cases iso
  ·simp only[VOp.tmps]at h;simp only[bP,cH (ed h),sQ (en h)]
  ·simp only[bP,Ft h]
 |storeN sz x y av=>
  simp only[VOp.tmps]at h;have C:=ed (ed h);have n:=en (ed h);have q:∀b,eZ r b av=eZ r' b av:=fun b=>by unfold eZ;rw[r_,bB,bB];exact forall_congr' fun t=>forall_congr' fun u=>by rw[en h t u]
  simp only[bP,cH C,cH n,q]
 |makeSlice k sz b z x=>rfl
 |append1 sz D x y G v t9=>rfl
 |callS F f args=>simp only[VOp.tmps]at h;simp only[bP,cH (ed (ed h)),sQ (en (ed h)),en h F (by simp)]
 |_=>simp only[bP,Ft h]
theorem yY(d:op.kind= .pure)(r:aE)(B:ar)(A:Ids):bP call p L0 i op c r B A=(aK r op).map fun v=>(v,B,A):=by
 cases op with
 |store h sz x y=>cases h<;>simp[VOp.kind]at d
 |call iso f args=>cases iso<;>simp[VOp.kind]at d
 |load ag sz x=>simp[VOp.kind]at d
 |alloc k z=>simp[VOp.kind]at d
 |box k x=>simp[VOp.kind]at d
 |buildSlice sz z n ps=>simp[VOp.kind]at d
 |append sz b x y=>simp[VOp.kind]at d
 |makeSlice k sz b z x=>simp[VOp.kind]at d
 |storeN sz a x av=>simp[VOp.kind]at d
 |callS C f args=>simp[VOp.kind]at d
 |append1 sz u x y D v t9=>simp[VOp.kind]at d
 |loadS ag sz x C=>simp[VOp.kind]at d
 |_=>simp only[bP,bz];generalize aK r _=q;cases q<;>rfl
theorem qK(d:op.kind≠.eff)(r:aE)(B:ar)(A:Ids):
 bP call p L0 i op c r B A=(bz call p L0 i op c r B A).map fun q=>(q.1,q.2.B B,q.2.A A):=by
 cases op with
 |store h sz x y=>cases h;simp[VOp.kind]at d;rfl
 |call iso f args=>cases iso;simp[VOp.kind]at d;rfl
 |makeSlice k sz b z x=>simp[VOp.kind]at d
 |storeN sz a x av=>simp[VOp.kind]at d
 |callS C f args=>simp[VOp.kind]at d
 |append1 sz n x y u v t9=>simp[VOp.kind]at d
 |_=>rfl
theorem kt(d:op.kind= .row\/op.kind= .iso)(r:aE)(B B':ar)(A A':Ids):
 bz call p L0 i op c r B A=bz call p L0 i op c r B' A'/\∀v e,bz call p L0 i op c r B A=some (v,e)->∃X,e= .ids X:=by
 cases op with
 |buildSlice sz z n ps=>
  refine⟨rfl,fun v e h=> ?_⟩;simp only[bz]at h;split at h
  ·obtain⟨xs,_,h⟩:=ay.1 h
   simp at h;exact⟨_,h.2.symm⟩
  ·simp at h
 |call iso f args=>
  cases iso with
  |false=>simp[VOp.kind]at d
  |true=>
   refine⟨rfl,fun v e h=> ?_⟩;simp only[bz]at h;split at h
   ·split at h
    ·split at h
     ·simp at h;exact⟨_,h.2.symm⟩
     ·simp at h
    ·simp at h
   ·simp at h
 |store q sz x y=>cases q<;>simp[VOp.kind]at d
 |_=>simp[VOp.kind]at d
theorem L_(d:op.kind= .app)(r:aE)(B B':ar)(A:Ids):
 bz call p L0 i op c r B A=bz call p L0 i op c r B' A/\∀v e,bz call p L0 i op c r B A=some (v,e)->∀B,e.B B=B:=by
 cases op with
 |append sz q x y=>
  refine⟨rfl,fun v e h=> ?_⟩;simp only[bz]at h;split at h
  ·unfold x8 at h
   split at h
   ·split at h
    ·split at h
     ·simp at h;rw[<-h.2];intro B;rfl
     ·split at h
      ·split at h
       ·simp at h;rw[<-h.2];intro B;rfl
       ·split at h
        ·simp at h;rw[<-h.2];intro B;rfl
        ·split at h
         ·simp at h;rw[<-h.2];intro B;rfl
         ·simp at h
       ·simp at h
      ·simp at h
    ·simp at h
   ·simp at h
  ·simp at h
 |store n sz x y=>cases n<;>simp[VOp.kind]at d
 |call iso f args=>cases iso<;>simp[VOp.kind]at d
 |_=>simp[VOp.kind]at d
theorem lF(d:op.kind= .read)(r:aE)(B B':ar)(A A':Ids)(q:∀b,b<L0->aT B b=aT B' b):
 bz call p L0 i op c r B A=bz call p L0 i op c r B' A'/\∀v e,bz call p L0 i op c r B A=some (v,e)->e= .none:=by
 cases op with
 |loadS ag sz x C=>
  constructor
  ·simp only[bz]
   split
   ·split
    ·rfl
    ·rename_i u
     unfold aP;rw[q _ (by omega)]
   ·rfl
  ·intro v e h
   simp only[bz]at h;split at h
   ·split at h
    ·simp at h
    ·obtain⟨xs,_,h⟩:=ay.1 h
     simp at h;exact h.2.symm
   ·simp at h
 |load ag sz x=>
  constructor
  ·simp only[bz]
   split
   ·rfl
   ·split
    ·rfl
    ·rename_i u
     unfold aP;rw[q _ (by omega)]
   ·rfl
  ·intro v e h
   simp only[bz]at h;split at h
   ·obtain⟨xs,_,h⟩:=ay.1 h
    simp at h;exact h.2.symm
   ·split at h
    ·simp at h
    ·obtain⟨xs,_,h⟩:=ay.1 h
     simp at h;exact h.2.symm
   ·simp at h
 |store n sz x y=>cases n<;>simp[VOp.kind]at d
 |call iso f args=>cases iso<;>simp[VOp.kind]at d
 |_=>simp[VOp.kind]at d
theorem AE(d:op.kind= .room)(r:aE)(B:ar)(A:Ids){e:Eff}(h:bz call p L0 i op c r B A=some (v,e)):
 ∃b x,L0<=b/\e= .box b (some x)/\cO B b=true/\∀B' A',cO B' b=true->bz call p L0 i op c r B' A'=some (v,e):=by
 cases op with
 |alloc k z=>
  simp only[bz]at h;split at h
  ·rename_i hc
   simp at h;obtain⟨rfl,rfl⟩:=h;refine⟨_,_,Et _ _,rfl,hc.1,fun B' A' q=> ?_⟩;simp only[bz];rw[aw ⟨q,hc.2⟩]
  ·simp at h
 |box k x=>
  simp only[bz]at h;obtain⟨v',u,h⟩:=az.1 h;split at h
  ·rename_i hc
   simp at h;obtain⟨rfl,rfl⟩:=h;refine⟨_,_,Et _ _,rfl,hc.1,fun B' A' q=> ?_⟩;simp only[bz,u,a9];rw[aw ⟨q,hc.2⟩]
  ·simp at h
 |store n sz x y=>cases n<;>simp[VOp.kind]at d
 |call iso f args=>cases iso<;>simp[VOp.kind]at d
 |_=>simp[VOp.kind]at d
theorem GN(n:op.kind= .init)(r:aE)(B:ar)(A:Ids){e:Eff}(h:bz call p L0 i op c r B A=some (v,e)):
 ∃b x,L0<=b/\e= .box b (some x)/\∀B' A',aT B' b=aT B b->bz call p L0 i op c r B' A'=some (v,e):=by
 cases op with
 |store q sz x y=>
  cases q with
  |false=>simp[VOp.kind]at n
  |true=>
   simp only[bz]at h;split at h
   ·rename_i b off v' C u
    split at h
    ·simp at h
    ·rename_i D
     obtain⟨cs,d,h⟩:=az.1 h;split at h
     ·rename_i hc
      simp at h;obtain⟨rfl,rfl⟩:=h;refine⟨_,_,by omega,rfl,fun B' A' F=> ?_⟩;simp only[bz,C,u];rw[au D,F,d];simp only[a9];rw[aw hc]
     ·simp at h
   ·simp at h
 |call iso f args=>cases iso<;>simp[VOp.kind]at n
 |_=>simp[VOp.kind]at n
variable{b':Nat}
theorem mU{B:ar}{x:Option aA}(h:b≠b'):aT (B.set b x) b'=aT B b':=by simp only[aT,dK h]
theorem LR{B:ar}{x:Option aA}(h:b≠b'):cO (B.set b x) b'=cO B b':=by simp only[cO,dK h]
theorem RO{B:ar}{x:aA}:cO (B.set b (some x)) b=false:=by
 unfold cO
 by_cases h:b<B.length
 ·simp[h]
 ·rw[List.set_eq_of_length_le (by omega),gU (by omega)]
variable{Aj Aij:Ids}{Bj Bij:ar}{vj vi:AV}{oi oj:VOp}
theorem qWG(K:oj.kind.meet oi.kind=true)(r:aE)(B:ar)(A:Ids)
 (J:bP call p L0 j oj c r B A=some (vj,Bj,Aj)) (I:bP call p L0 i oi c r Bj Aj=some (vi,Bij,Aij)):
 ∃Bi Ai,bP call p L0 i oi c r B A=some (vi,Bi,Ai)/\bP call p L0 j oj c r Bi Ai=some (vj,Bij,Aij):=by
 by_cases W:oj.kind= .pure
 ·rw[yY W]at J
  obtain⟨v,hv,J⟩:=ay.1 J;simp at J;obtain⟨rfl,rfl,rfl⟩:=J;exact⟨Bij,Aij,I,by rw[yY W,hv];rfl⟩
 by_cases V:oi.kind= .pure
 ·rw[yY V]at I
  obtain⟨v,hv,I⟩:=ay.1 I;simp at I;obtain⟨rfl,rfl,rfl⟩:=I;exact⟨B,A,by rw[yY V,hv];rfl,J⟩
 have h3:oj.kind≠.eff:=by
  intro h;rw[h]at K
  revert K V;cases oi.kind<;>simp[Kind.meet]
 have h4:oi.kind≠.eff:=by
  intro h;rw[h]at K
  revert K W;cases oj.kind<;>simp[Kind.meet]
 rw[qK h3]at J;rw[qK h4]at I;obtain⟨⟨x2,ej⟩,d1,J⟩:=ay.1 J;obtain⟨⟨Q,ei⟩,d2,I⟩:=ay.1 I;simp at J I;obtain⟨rfl,rfl,rfl⟩:=J;obtain⟨rfl,rfl,rfl⟩:=I;have F:bz call p L0 i oi c r B A=some (Q,ei)->bz call p L0 j oj c r (ei.B B) (ei.A A)=some (x2,ej)->ei.B (ej.B B)=ej.B (ei.B B)->ei.A (ej.A A)=ej.A (ei.A A)->
  ∃Bi Ai,bP call p L0 i oi c r B A=some (Q,Bi,Ai)/\bP call p L0 j oj c r Bi Ai=some (x2,ei.B (ej.B B),ei.A (ej.A A)):=by
  intro e1 e2 e3 e4;refine⟨ei.B B,ei.A A,?_,?_⟩
  ·rw[qK h4,e1];rfl
  ·rw[qK h3,e2,e3,e4];rfl
 have u:∀{k:Nat} {op:VOp} (B:ar) (A:Ids) {v e},(op.kind= .row\/op.kind= .iso\/op.kind= .app)->bz call p L0 k op c r B A=some (v,e)->(∀B',bz call p L0 k op c r B' A=some (v,e))/\∀B',e.B B'=B':=by
  intro k op B A v e q O;rcases q with q|q|q
  ·obtain⟨_,h⟩:=kt (call:=call) (p:=p) (L0:=L0) (i:=k) (c:=c) (.inl q) r B B A A
   obtain⟨X,rfl⟩:=h v e O;exact⟨fun B'=>by rw[<-O];exact(kt (.inl q) r B' B A A).1,fun _=>rfl⟩
  ·obtain⟨_,h⟩:=kt (call:=call) (p:=p) (L0:=L0) (i:=k) (c:=c) (.inr q) r B B A A
   obtain⟨X,rfl⟩:=h v e O;exact⟨fun B'=>by rw[<-O];exact(kt (.inr q) r B' B A A).1,fun _=>rfl⟩
  ·exact⟨fun B'=>by rw[<-O];exact(L_ q r B' B A).1,(L_ q r B B A).2 v e O⟩
 have C:∀{k:Nat} {op:VOp} (B:ar) (A:Ids) {v e},(op.kind= .read\/op.kind= .room\/op.kind= .init)->bz call p L0 k op c r B A=some (v,e)->(∀A',bz call p L0 k op c r B A'=some (v,e))/\∀A',e.A A'=A':=by
  intro k op B A v e q O;rcases q with q|q|q
  ·have h:=(lF (call:=call) (p:=p) (L0:=L0) (i:=k) (c:=c) q r B B A A (fun _ _=>rfl)).2 v e O
   subst h;exact⟨fun A'=>by rw[<-O];exact(lF q r B B A' A (fun _ _=>rfl)).1,fun _=>rfl⟩
  ·obtain⟨b,x,_,rfl,hf,h⟩:=AE q r B A O
   exact⟨fun A'=>h B A' hf,fun _=>rfl⟩
  ·obtain⟨b,x,_,rfl,h⟩:=GN q r B A O
   exact⟨fun A'=>h B A' rfl,fun _=>rfl⟩
 have G:∀k:Kind,k≠.pure->k≠.eff->(k= .row\/k= .iso\/k= .app)\/(k= .read\/k= .room\/k= .init):=by intro k J I;cases k<;>simp_all
 rcases G oj.kind W h3 with D|D<;>rcases G oi.kind V h4 with n|n
 ·
  obtain⟨a1,R⟩:=u B A D d1;obtain⟨b1,S⟩:=u (ej.B B) (ej.A A) n d2;have ri:oi.kind= .row\/oi.kind= .iso:=by rcases D with h|h|h<;>rcases n with h'|h'|h'<;>rw[h,h']at K<;>simp_all[Kind.meet]
  have rj:oj.kind= .row\/oj.kind= .iso:=by rcases D with h|h|h<;>rcases n with h'|h'|h'<;>rw[h,h']at K<;>simp_all[Kind.meet]
  obtain⟨X,rfl⟩:=(kt (call:=call) (p:=p) (L0:=L0) (i:=j) (c:=c) rj r B B A A).2 _ _ d1;obtain⟨Y,rfl⟩:=(kt (call:=call) (p:=p) (L0:=L0) (i:=i) (c:=c) ri r _ B _ A).2 _ _ d2;refine F (by rw[<-d2];exact(kt ri r _ _ _ _).1) (by rw[<-d1];exact(kt rj r _ _ _ _).1) rfl ?_
  funext x
  simp only[Eff.A,Ids.or];cases Y x<;>cases X x<;>simp
 ·
  obtain⟨a1,R⟩:=u B A D d1;obtain⟨b1,S⟩:=C (ej.B B) (ej.A A) n d2;rw[R]at b1;refine F (b1 A) (by rw[S];exact a1 _) (by rw[R,R]) (by rw[S,S])
 ·
  obtain⟨a1,R⟩:=C B A D d1;obtain⟨b1,S⟩:=u (ej.B B) (ej.A A) n d2;rw[R]at b1;refine F (b1 B) (by rw[S];exact a1 _) (by rw[S,S]) (by rw[R,R])
 ·
  obtain⟨a1,R⟩:=C B A D d1;obtain⟨b1,S⟩:=C (ej.B B) (ej.A A) n d2;have hA:ei.A (ej.A A)=ej.A (ei.A A):=by rw[R,S,R]
  have Z:=b1 A;rcases D with D|D|D
  ·
   have hn:=(lF (call:=call) (p:=p) (L0:=L0) (i:=j) (c:=c) D r B B A A (fun _ _=>rfl)).2 _ _ d1;subst hn;have d:bz call p L0 i oi c r B A=some (Q,ei):=Z;refine F d ?_ rfl hA;rw[<-d1];refine(lF D r _ _ _ _ (fun b hb=> ?_)).1;rcases n with n|n|n
   ·have hn:=(lF (call:=call) (p:=p) (L0:=L0) (i:=i) (c:=c) n r B B A A (fun _ _=>rfl)).2 _ _ d
    subst hn;rfl
   ·obtain⟨b',x,a3,rfl,_⟩:=AE n r B A d
    exact mU (by omega)
   ·obtain⟨b',x,a3,rfl,_⟩:=GN n r B A d
    exact mU (by omega)
  ·obtain⟨bj,xj,c2,rfl,x3,M⟩:=AE D r B A d1
   rcases n with n|n|n
   ·have d:bz call p L0 i oi c r B A=some (Q,ei):=by
     rw[<-Z];exact(lF n r _ _ _ _ (fun b hb=>(mU (by omega)).symm)).1
    have hn:=(lF (call:=call) (p:=p) (L0:=L0) (i:=i) (c:=c) n r B B A A (fun _ _=>rfl)).2 _ _ d;subst hn;exact F d (a1 _) rfl hA
   ·obtain⟨bi,xi,hbi,rfl,H,h5⟩:=AE n r _ A Z
    have x1:bj≠bi:=by intro h;subst h;simp only[Eff.B]at H;rw[RO]at H;simp at H
    simp only[Eff.B]at H;rw[LR x1]at H;refine F (h5 B A H) (M _ _ ?_) (Gu _ _ x1) hA;simp only[Eff.B];rw[LR (Ne.symm x1)];exact x3
   ·rw[D,n]at K;simp[Kind.meet]at K
  ·obtain⟨bj,xj,c2,rfl,M⟩:=GN D r B A d1
   rcases n with n|n|n
   ·have d:bz call p L0 i oi c r B A=some (Q,ei):=by
     rw[<-Z];exact(lF n r _ _ _ _ (fun b hb=>(mU (by omega)).symm)).1
    have hn:=(lF (call:=call) (p:=p) (L0:=L0) (i:=i) (c:=c) n r B B A A (fun _ _=>rfl)).2 _ _ d;subst hn;exact F d (a1 _) rfl hA
   ·rw[D,n]at K;simp[Kind.meet]at K
   ·rw[D,n]at K;simp[Kind.meet]at K
theorem Rq(hm:AK oj oi=true)(r:aE)(B:ar)(A:Ids)
 (M:bP call p L0 j oj c r B A=some (vj,Bj,Aj)) (O:bP call p L0 i oi c r Bj Aj=some (vi,Bij,Aij)):
 ∃Bi Ai,bP call p L0 i oi c r B A=some (vi,Bi,Ai)/\bP call p L0 j oj c r Bi Ai=some (vj,Bij,Aij):=by
 have ld:∀(k ag sz x:_) (B B':ar) (A A':Ids) v d C,bP call p L0 k (.load ag sz (.t x)) c r B A=some (v,d,C)->d=B/\C=A/\∀B' A',(∀b off,lk r x=some (.ptr b off)->aT B' b=aT B b)->bP call p L0 k (.load ag sz (.t x)) c r B' A'=some (v,B',A'):=by
  intro k ag sz x B B' A A' v d C h;simp only[bP,bz]at h;obtain⟨q,F,I⟩:=ay.1 h;simp only[VX.get]at F;split at F
  ·rename_i cs hx
   obtain⟨u,hu,rfl⟩:=ay.1 F;simp only[Eff.B,Eff.A,dJ]at I;obtain⟨rfl,rfl,rfl⟩:=I;refine⟨rfl,rfl,fun B' A' _=> ?_⟩;simp only[bP,bz,VX.get,hx,hu,bH,Eff.B,Eff.A]
  ·rename_i b off hx
   split at F
   ·simp at F
   ·rename_i hL
    obtain⟨u,hu,rfl⟩:=ay.1 F;simp only[Eff.B,Eff.A,dJ]at I;obtain⟨rfl,rfl,rfl⟩:=I;refine⟨rfl,rfl,fun B' A' Q=> ?_⟩;have:aP B' ag sz b off=aP B ag sz b off:=by unfold aP;rw[Q b off hx]
    simp only[bP,bz,VX.get,hx,au hL,this,hu,bH,Eff.B,Eff.A]
  ·simp at F
 have st:∀(k sz a x av:_) (B:ar) (A:Ids) v d C,bP call p L0 k (.storeN sz a x av) c r B A=some (v,d,C)->C=A/\∃b cs,aT B b=some cs/\(∀t,av.contains t=true->∀b' off,lk r t=some (.ptr b' off)->b'≠b)/\(∃x2,d=B.set b (some x2))/\∀A',bP call p L0 k (.storeN sz a x av) c r B A'=some (v,d,A'):=by
  intro k sz a x av B A v d C h;simp only[bP]at h;split at h
  ·rename_i b off w ha hx
   split at h
   ·simp at h
   ·rename_i hc
    obtain⟨cs,Q,h⟩:=az.1 h;split at h
    ·rename_i a3
     simp only[aL,dJ]at h;obtain⟨rfl,rfl,rfl⟩:=h;refine⟨rfl,b,cs,Q,fun t ht b' b1 J I=> ?_,⟨_,rfl⟩,fun A'=> ?_⟩
     ·have hf:eZ r b av=true:=by
       have:=not_or.1 hc;simpa using this.2
      unfold eZ at hf;have:=bB.1 hf t (by simpa using ht);rw[J]at this;simp[I]at this
     ·simp only[bP,ha,hx,au hc,Q,a9,aw a3]
    ·simp at h
  ·simp at h
 have ls:∀(k ag sz a H:_) (B:ar) (A:Ids) v d C,bP call p L0 k (.loadS ag sz a H) c r B A=some (v,d,C)->d=B/\C=A/\∃b b' S,lk r H=some (.ptr b' S)/\b≠b'/\∀B' A',aT B' b=aT B b->bP call p L0 k (.loadS ag sz a H) c r B' A'=some (v,B',A'):=by
  intro k ag sz a H B A v d C h;simp only[bP,bz]at h;obtain⟨q,F,I⟩:=ay.1 h;split at F
  ·rename_i b off b' S ha hc0
   split at F
   ·simp at F
   ·rename_i hL
    obtain⟨u,hu,rfl⟩:=ay.1 F;simp only[Eff.B,Eff.A,dJ]at I;obtain⟨rfl,rfl,rfl⟩:=I;refine⟨rfl,rfl,b,b',S,hc0,fun R=>hL (.inl R),fun B' A' Q=> ?_⟩;have:aP B' ag sz b off=aP B ag sz b off:=by unfold aP;rw[Q]
    simp only[bP,bz,ha,hc0,au hL,this,hu,bH,Eff.B,Eff.A]
  ·simp at F
 have cl:∀(k H f args:_) (B:ar) (A:Ids) v d C,bP call p L0 k (.callS H f args) c r B A=some (v,d,C)->∃b' S D X,lk r H=some (.ptr b' S)/\d=B.set b' (some D)/\C=Ids.or X A/\∀B' A',aT B' b'=aT B b'->bP call p L0 k (.callS H f args) c r B' A'=some (v,B'.set b' (some D),Ids.or X A'):=by
  intro k H f args B A v d C h;simp only[bP]at h;split at h
  ·rename_i kk b off vs b' S hf hg hc0
   split at h
   ·simp at h
   ·rename_i R
    have a1:b=b':=by simpa using R
    subst a1;obtain⟨ds,M,h⟩:=az.1 h;obtain⟨cs,O,h⟩:=az.1 h;obtain⟨es,h3,h⟩:=az.1 h;split at h
    ·rename_i v' A1 D V
     obtain⟨fs,h4,h⟩:=ay.1 h;simp only[dJ]at h;obtain⟨rfl,rfl,rfl⟩:=h;refine⟨b,S,D,A1,hc0,rfl,rfl,fun B' A' Q=> ?_⟩;simp only[bP,hf,hg,hc0,au R,M,a9,Q,O,h3,V,h4,bH]
    ·simp at h
  ·simp at h
 have bs:∀(k sz z n ps:_) (B:ar) (A:Ids) v d C,bP call p L0 k (.buildSlice sz z n ps) c r B A=some (v,d,C)->d=B/\∃Y,C=Ids.or Y A/\∀B' A',bP call p L0 k (.buildSlice sz z n ps) c r B' A'=some (v,B',Ids.or Y A'):=by intro k sz z n ps B A v d C h;rw[qK (by simp[VOp.kind])]at h;obtain⟨⟨v',e⟩,F,I⟩:=ay.1 h;obtain⟨Y,rfl⟩:=(kt (call:=call) (p:=p) (L0:=L0) (i:=k) (c:=c) (op:= .buildSlice sz z n ps) (.inl rfl) r B B A A).2 _ _ F;simp only[Eff.B,Eff.A,dJ]at I;obtain⟨rfl,rfl,rfl⟩:=I;refine⟨rfl,Y,rfl,fun B' A'=> ?_⟩;rw[qK (by simp[VOp.kind]),<-(kt (call:=call) (p:=p) (L0:=L0) (i:=k) (c:=c) (op:= .buildSlice sz z n ps) (.inl rfl) r B B' A A').1,F];rfl
 have x3:∀X Y Z:Ids,Ids.or X (Ids.or Y Z)=Ids.or Y (Ids.or X Z):=by intro X Y Z;funext x;simp only[Ids.or];cases X x<;>cases Y x<;>simp
 unfold AK at hm;split at hm
 ·rename_i ag sz x a2 a y av
  obtain⟨rfl,rfl,K⟩:=ld _ _ _ _ _ B A A _ _ _ M;obtain⟨rfl,b,cs,Q,x1,⟨x2,rfl⟩,_⟩:=st _ _ _ _ _ _ _ _ _ _ O;exact⟨_,_,O,K _ _ fun b' off J=>mU (Ne.symm (x1 x hm b' off J))⟩
 ·rename_i a2 a y av ag sz x
  obtain⟨rfl,b,cs,Q,x1,⟨x2,rfl⟩,_⟩:=st _ _ _ _ _ _ _ _ _ _ M;obtain⟨rfl,rfl,K⟩:=ld _ _ _ _ _ B Aj Aj _ _ _ O;exact⟨B,Aij,K _ _ fun b' off J=>(mU (Ne.symm (x1 x hm b' off J))).symm,M⟩
 ·rename_i ag sz a H c1 f args
  have h5:H=c1:=by simpa using hm
  subst h5;obtain⟨rfl,rfl,b,b',S,J,W,K⟩:=ls _ _ _ _ _ _ _ _ _ _ M;obtain⟨b2,o2,D,X,G,rfl,rfl,l2⟩:=cl _ _ _ _ _ _ _ _ _ O;rw[J]at G;simp only[aL,AV.ptr.injEq]at G;obtain⟨rfl,rfl⟩:=G;exact⟨_,_,O,K _ _ (mU (Ne.symm W))⟩
 ·rename_i c1 f args ag sz a H
  have h5:H=c1:=by simpa using hm
  subst h5;obtain⟨b2,o2,D,X,G,rfl,rfl,l2⟩:=cl _ _ _ _ _ _ _ _ _ M;obtain⟨rfl,rfl,b,b',S,J,W,K⟩:=ls _ _ _ _ _ _ _ _ _ _ O;rw[G]at J;simp only[aL,AV.ptr.injEq]at J;obtain⟨rfl,rfl⟩:=J;exact⟨B,A,K _ _ (mU (Ne.symm W)).symm,M⟩
 ·obtain⟨rfl,Y,rfl,K⟩:=bs _ _ _ _ _ _ _ _ _ _ M
  obtain⟨b2,o2,D,X,G,rfl,rfl,l2⟩:=cl _ _ _ _ _ _ _ _ _ O;refine⟨_,_,l2 _ _ rfl,?_⟩;rw[K,x3]
 ·obtain⟨b2,o2,D,X,G,rfl,rfl,l2⟩:=cl _ _ _ _ _ _ _ _ _ M
  obtain⟨rfl,Y,rfl,K⟩:=bs _ _ _ _ _ _ _ _ _ _ O;refine⟨_,_,K _ _,?_⟩;rw[l2 _ _ rfl,x3]
 ·simp at hm
def dW(call:ct)(p:Id)(draw:Bool)(L0 i:Nat)(o:VOper)(s:St):lQ:=
 match dh s.r o.guard with
 |some true=>aY call p draw L0 i o s
 |some false=>some (s.put o.dst .und)
 |none=>none
theorem vu(call:ct)(p:Id)(draw:Bool)(L0 i:Nat)(o:VOper)(os:aC)(s:St):
 cX call p draw L0 i (o::os) s=(dW call p draw L0 i o s).bind (cX call p draw L0 (i+1) os):=by
 simp only[cX,dW];generalize dh s.r o.guard=q;cases q with
 |none=>rfl
 |some b=>cases b<;>rfl
def St.eqv(s s':St):Prop:=(∀t,lk s.r t=lk s'.r t)/\s.B=s'.B/\s.A=s'.A/\s.c=s'.c
theorem St.eqv.refl(s:St):s.eqv s:=⟨fun _=>rfl,rfl,rfl,rfl⟩
theorem St.eqv.trans{d:St}(h:s.eqv s')(h':s'.eqv d):s.eqv d:=⟨fun t=>(h.1 t).trans (h'.1 t),h.2.1.trans h'.2.1,h.2.2.1.trans h'.2.2.1,h.2.2.2.trans h'.2.2.2⟩
theorem kT(h:agree r r' (match gd with|some (t,_)=>[t]|none=>[])):dh r gd=dh r' gd:=by
 cases gd with
 |none=>rfl
 |some q=>obtain⟨t,w⟩:=q;simp only[dh,h t (by simp)]
theorem gG(s:St)(dst:a_)(v:AV)(t:Nat):lk (s.put dst v).r t=if dst=some t then some v else lk s.r t:=by
 cases dst with
 |none=>simp[St.put]
 |some d=>
  simp only[St.put,lk,aL]
  by_cases h:t=d
  ·simp[h]
  ·simp[h,Ne.symm h]
theorem pF(h:s.eqv s')(dst:a_)(v:AV):(s.put dst v).eqv (s'.put dst v):=by
 refine⟨fun t=> ?_,?_,?_,?_⟩
 ·rw[gG,gG,h.1 t]
 ·cases dst<;>exact h.2.1
 ·cases dst<;>exact h.2.2.1
 ·cases dst<;>exact h.2.2.2
theorem Ub{o:VOper}{t:St}(h:s.eqv s')(d:dW call p true L0 i o s=some t):∃n,dW call p true L0 i o s'=some n/\t.eqv n:=by
 have C:∀l,agree s.r s'.r l:=fun l t _=>h.1 t
 unfold dW at d⊢
 rw[<-kT (C _)];split at d
 ·rw[Eg]at d⊢
  obtain⟨q,u,D⟩:=ay.1 d;rw[sP (C _),h.2.1,h.2.2.1,h.2.2.2]at u;rw[u];subst D;exact⟨_,rfl,pF (s:=⟨s.r,q.2.1,q.2.2,s.c⟩) (s':=⟨s'.r,q.2.1,q.2.2,s'.c⟩) ⟨h.1,rfl,rfl,h.2.2.2⟩ _ _⟩
 ·simp at d;subst d
  exact⟨_,rfl,pF h _ _⟩
 ·simp at d
def wz(a b:VOper):Prop:=(a.op.kind.meet b.op.kind=true\/AK a.op b.op=true)/\p9 a b=true/\p9 b a=true
theorem apart_spec{a b:VOper}(h:p9 a b=true):∀d,a.dst=some d->d∉b.looks/\b.dst≠some d:=by intro d n;unfold p9 at h;rw[n]at h;simp at h;exact h
theorem mW{dst:a_}(h:∀d,dst=some d->d∉l):agree s.r (s.put dst v).r l:=by intro t n;rw[gG,au (fun q=>h t q n)]
theorem put_comm(s:St){d n:a_}(v v':AV)(h:∀t,d=some t->n≠some t):((s.put d v).put n v').eqv ((s.put n v').put d v):=by
 refine⟨fun t=> ?_,?_,?_,?_⟩
 ·rw[gG,gG,gG,gG]
  by_cases q:d=some t
  ·rw[au (h t q),aw q,aw q]
  ·rw[au q,au q]
 ·cases d<;>cases n<;>rfl
 ·cases d<;>cases n<;>rfl
 ·cases d<;>cases n<;>rfl
theorem yb{o:VOper}(h:agree r r' o.looks):agree r r' o.op.tmps:=fun t d=>h t (by unfold VOper.looks;exact lw _ d)
theorem me{o:VOper}(h:agree r r' o.looks):agree r r' (match o.guard with|some (t,_)=>[t]|none=>[]):=fun t d=>h t (by unfold VOper.looks;exact od _ d)
theorem If(s:St)(dst:a_)(v:AV):(s.put dst v).B=s.B:=by cases dst<;>rfl
theorem JE(s:St)(dst:a_)(v:AV):(s.put dst v).A=s.A:=by cases dst<;>rfl
theorem I6(s:St)(dst:a_)(v:AV):(s.put dst v).c=s.c:=by cases dst<;>rfl
variable{s1:St}
theorem PZ{oi oj:VOper}(hc:wz oj oi){s2:St}(h1:dW call p true L0 j oj s=some s1)(Y:dW call p true L0 i oi s1=some s2):
 ∃M Q,dW call p true L0 i oi s=some M/\dW call p true L0 j oj M=some Q/\s2.eqv Q:=by
 obtain⟨R,ha,hb⟩:=hc;have V:=apart_spec ha;have J:=apart_spec hb;have form:∀{k:Nat} {o:VOper} {s t:St},dW call p true L0 k o s=some t->
  (dh s.r o.guard=some true/\∃v B A,bP call p L0 k o.op s.c s.r s.B s.A=some (v,B,A)/\t=St.put ⟨s.r,B,A,s.c⟩ o.dst v)\/(dh s.r o.guard=some false/\t=s.put o.dst .und):=by
  intro k o s t h;unfold dW at h;split at h
  ·rename_i I
   rw[Eg]at h;obtain⟨⟨v,B,A⟩,Z,h4⟩:=ay.1 h;exact .inl ⟨I,v,B,A,Z,h4.symm⟩
  ·rename_i I
   simp at h;exact .inr ⟨I,h.symm⟩
  ·simp at h
 have n:∀{k:Nat} {o:VOper} {s:St} {v B A},dh s.r o.guard=some true->bP call p L0 k o.op s.c s.r s.B s.A=some (v,B,A)->dW call p true L0 k o s=some (St.put ⟨s.r,B,A,s.c⟩ o.dst v):=by intro k o s v B A I h;unfold dW;rw[I];simp only;rw[Eg,h];rfl
 have q:∀{k:Nat} {o:VOper} {s:St},dh s.r o.guard=some false->dW call p true L0 k o s=some (s.put o.dst .und):=by intro k o s I;unfold dW;rw[I]
 have dd:∀t,oj.dst=some t->oi.dst≠some t:=fun t h=>(V t h).2
 rcases form h1 with⟨O,vj,Bj,Aj,ej,rfl⟩|⟨O,rfl⟩
 ·have H:∀v,agree s.r (St.put ⟨s.r,Bj,Aj,s.c⟩ oj.dst v).r oi.looks:=fun v=>mW (s:=⟨s.r,Bj,Aj,s.c⟩) (fun d C=>(V d C).1)
  rcases form Y with⟨G,vi,F,D,ei,rfl⟩|⟨G,rfl⟩
  ·have u:dh s.r oi.guard=some true:=by rw[<-G];exact kT (me (H vj))
   have K:bP call p L0 i oi.op s.c s.r Bj Aj=some (vi,F,D):=by
    have e:=ei;rw[<-sP (yb (H vj))]at e;have X:(St.put ⟨s.r,Bj,Aj,s.c⟩ oj.dst vj).B=Bj:=by cases oj.dst<;>rfl
    have S:(St.put ⟨s.r,Bj,Aj,s.c⟩ oj.dst vj).A=Aj:=by cases oj.dst<;>rfl
    have W:(St.put ⟨s.r,Bj,Aj,s.c⟩ oj.dst vj).c=s.c:=by cases oj.dst<;>rfl
    rw[X,S,W]at e;exact e
   obtain⟨B',A',e1,e2⟩:∃F D,bP call p L0 i oi.op s.c s.r s.B s.A=some (vi,F,D)/\bP call p L0 j oj.op s.c s.r F D=some (vj,_,_):=by
    rcases R with R|R
    ·exact qWG R s.r s.B s.A ej K
    ·exact Rq R s.r s.B s.A ej K
   refine⟨_,_,n u e1,n (v:=vj) (B:=F) (A:=D) ?_ ?_,?_⟩
   ·rw[<-O]
    exact(kT (me (mW (s:=⟨s.r,B',A',s.c⟩) (fun d C=>(J d C).1)))).symm
   ·have X:(St.put ⟨s.r,B',A',s.c⟩ oi.dst vi).B=B':=by cases oi.dst<;>rfl
    have S:(St.put ⟨s.r,B',A',s.c⟩ oi.dst vi).A=A':=by cases oi.dst<;>rfl
    have W:(St.put ⟨s.r,B',A',s.c⟩ oi.dst vi).c=s.c:=by cases oi.dst<;>rfl
    rw[X,S,W,<-sP (yb (mW (s:=⟨s.r,B',A',s.c⟩) (v:=vi) (fun d C=>(J d C).1)))];exact e2
   ·have:=put_comm ⟨s.r,F,D,s.c⟩ vj vi dd
    refine St.eqv.trans ?_ (St.eqv.trans this ?_)
    ·refine pF (s:=⟨(St.put ⟨s.r,Bj,Aj,s.c⟩ oj.dst vj).r,F,D,_⟩) (s':=St.put ⟨s.r,F,D,s.c⟩ oj.dst vj) ⟨fun t=>by rw[gG,gG],by cases oj.dst<;>rfl,by cases oj.dst<;>rfl,by cases oj.dst<;>rfl⟩ oi.dst vi
    ·refine pF (s:=St.put ⟨s.r,F,D,s.c⟩ oi.dst vi) (s':=⟨(St.put ⟨s.r,B',A',s.c⟩ oi.dst vi).r,F,D,_⟩) ⟨fun t=>by rw[gG,gG],by cases oi.dst<;>rfl,by cases oi.dst<;>rfl,by cases oi.dst<;>rfl⟩ oj.dst vj
  ·have u:dh s.r oi.guard=some false:=by rw[<-G];exact kT (me (H vj))
   refine⟨_,_,q u,n (v:=vj) (B:=Bj) (A:=Aj) ?_ ?_,?_⟩
   ·rw[<-O]
    exact(kT (me (mW (fun d C=>(J d C).1)))).symm
   ·rw[If,JE,I6,<-sP (yb (mW (s:=s) (v:= .und) (fun d C=>(J d C).1)))]
    exact ej
   ·have:=put_comm ⟨s.r,Bj,Aj,s.c⟩ vj .und dd
    refine St.eqv.trans this ?_;refine pF (s:=St.put ⟨s.r,Bj,Aj,s.c⟩ oi.dst .und) (s':=⟨(s.put oi.dst .und).r,Bj,Aj,_⟩) ⟨fun t=>by rw[gG,gG],by cases oi.dst<;>rfl,by cases oi.dst<;>rfl,by cases oi.dst<;>rfl⟩ oj.dst vj
 ·have H:agree s.r (s.put oj.dst .und).r oi.looks:=mW (fun d C=>(V d C).1)
  rcases form Y with⟨G,vi,F,D,ei,rfl⟩|⟨G,rfl⟩
  ·have u:dh s.r oi.guard=some true:=by rw[<-G];exact kT (me H)
   rw[If,JE,I6,<-sP (yb H)]at ei;refine⟨_,_,n u ei,q ?_,?_⟩
   ·rw[<-O]
    exact(kT (me (mW (s:=⟨s.r,F,D,s.c⟩) (fun d C=>(J d C).1)))).symm
   ·have:=put_comm ⟨s.r,F,D,s.c⟩ .und vi dd
    refine St.eqv.trans ?_ this;refine pF (s:=⟨(s.put oj.dst .und).r,F,D,_⟩) (s':=St.put ⟨s.r,F,D,s.c⟩ oj.dst .und) ⟨fun t=>by rw[gG,gG],by cases oj.dst<;>rfl,by cases oj.dst<;>rfl,by cases oj.dst<;>rfl⟩ oi.dst vi
  ·have u:dh s.r oi.guard=some false:=by rw[<-G];exact kT (me H)
   refine⟨_,_,q u,q ?_,put_comm s .und .und dd⟩;rw[<-O];exact(kT (me (mW (fun d C=>(J d C).1)))).symm
def gr(call:ct)(p:Id)(L0:Nat):tT->St->lQ
 | [],s=>some s
 |(i,o)::r,s=>(dW call p true L0 i o s).bind (gr call p L0 r)
theorem KC:∀{l:tT} {s s' t:St},s.eqv s'->gr call p L0 l s=some t->∃n,gr call p L0 l s'=some n/\t.eqv n
 | [],s,s',t,h,d=>by simp[gr]at d;subst d;exact⟨s',rfl,h⟩
 |(i,o)::l,s,s',t,h,d=>by
  simp only[gr]at d⊢
  obtain⟨s1,q,H⟩:=az.1 d;obtain⟨D,G,F⟩:=Ub h q;obtain⟨n,C,u⟩:=KC F H;exact⟨n,by rw[G];exact C,u⟩
theorem GI{oi:VOper}{post:tT}:∀{pre:tT} {s t:St},(∀q,q∈pre->wz q.2 oi)->
 gr call p L0 (pre++(i,oi)::post) s=some t->∃s1 n,dW call p true L0 i oi s=some s1/\gr call p L0 (pre++post) s1=some n/\t.eqv n
 | [],s,t,_,h=>by simp only[dG,gr]at h;obtain⟨s1,u,G⟩:=az.1 h;exact⟨s1,t,u,G,.refl t⟩
 |(j,oj)::pre,s,t,hc,h=>by simp only[dk,gr]at h;obtain⟨S,u,G⟩:=az.1 h;obtain⟨s1,n,J,I,M⟩:=GI (fun q O=>hc q (by simp[O])) G;obtain⟨F,Q,H,K,R⟩:=PZ (hc (j,oj) (by simp)) u J;obtain⟨C,d,D⟩:=KC R I;refine⟨F,C,H,?_,M.trans D⟩;simp only[dk,gr,K,a9];exact d
theorem Gn:∀{os:aC} {i:Nat} {s:St},cX call p true L0 i os s=gr call p L0 ((List.range' i os.length).zip os) s
 | [],_,_=>rfl
 |o::os,i,s=>by
  rw[vu];simp only[de,DC,List.zip_cons_cons,gr]
  congr 1
  funext s1
  exact Gn
variable {P:Program} {fid:Nat->FuncId} {g:Gh} {w:World}
variable{ops:qG}
theorem NH(G:qdc fid g w r a.tmps)(d:yG ops o.guard gd=true){b:Bool}(h:dh r gd=some b):
 Region.wanted o (yielded ops a.tmps)=b:=by
 unfold yG at d;unfold Region.wanted;split at d
 ·rename_i C
  rw[C];simp[dh]at h;simp[h]
 ·rename_i j wn t H C
  simp at d;obtain⟨rfl,q⟩:=d;rw[C];simp only[dh]at h;have D:yielded ops a.tmps j=match a.tmps[t]? with|some (.bool b)=>some b|_=>none:=by unfold yielded;rw[q];rfl
  split at h
  ·rename_i F u
   simp at h;subst h
   have n:=jq (G t _ u);rw[bZ]at n;cases hq:a.tmps[t]? with
   |none=>rw[hq]at n;simp[undef]at n
   |some x=>rw[hq]at n;simp at n;subst n;show(yielded ops a.tmps j==some wn)=(F==wn);rw[D,hq];cases F<;>cases wn<;>rfl
  ·rename_i u
   simp at h;subst h
   have n:=G t _ u;rw[bZ]at n;cases hq:a.tmps[t]? with
   |none=>simp[D,hq]
   |some x=>rw[hq]at n;simp at n;cases n;simp[D,hq,undef]
  ·simp at h
 ·simp at d
theorem qAf{new:Id}{x y:DV}(d:fC s new sz bytes x y=some (v,s1)):s1.c=s.c:=by
 unfold fC at d;split at d
 ·split at d
  ·split at d
   ·simp at d;rw[d.2]
   ·split at d
    ·split at d
     ·simp at d;rw[<-d.2]
     ·split at d
      ·simp at d;rw[<-d.2]
      ·split at d
       ·simp at d;rw[<-d.2]
       ·simp at d
     ·simp at d
    ·simp at d
  ·simp at d
 ·simp at d
theorem Tt{o:VOper}(h:aY call p draw L0 i o s=some s'):s'.c=s.c:=by
 obtain⟨dst,op,gd,af⟩:=o;cases op with
 |load ag sz x=>
  simp only[aY]at h;split at h
  ·obtain⟨v,_,rfl⟩:=ay.1 h;exact fS _ _ _
  ·split at h
   ·simp at h
   ·obtain⟨v,_,rfl⟩:=ay.1 h;exact fS _ _ _
  ·simp at h
 |store u sz x y=>
  simp only[aY]at h;split at h
  ·split at h
   ·simp at h
   ·obtain⟨v,d,rfl⟩:=ay.1 h
    unfold jr at d;obtain⟨cs,_,d⟩:=az.1 d;split at d
    ·simp at d;subst d;rw[fS]
    ·simp at d
  ·simp at h
 |storeN sz x y av=>
  simp only[aY]at h;split at h
  ·split at h
   ·simp at h
   ·obtain⟨v,d,rfl⟩:=ay.1 h
    unfold jr at d;obtain⟨cs,_,d⟩:=az.1 d;split at d
    ·simp at d;subst d;rw[fS]
    ·simp at d
  ·simp at h
 |alloc k z=>
  simp only[aY]at h;split at h
  ·simp at h;subst h;rw[fS]
  ·simp at h
 |box k x=>
  simp only[aY]at h;obtain⟨v,_,h⟩:=az.1 h;split at h
  ·simp at h;subst h;rw[fS]
  ·simp at h
 |buildSlice sz z n ps=>
  simp only[aY]at h;split at h
  ·obtain⟨v,_,rfl⟩:=ay.1 h;rw[fS]
  ·simp at h
 |makeSlice k sz q z x=>
  simp only[aY]at h;split at h
  ·split at h
   ·simp at h;subst h;rw[fS]
   ·simp at h
  ·simp at h
 |append sz q x y=>
  simp only[aY]at h;split at h
  ·obtain⟨⟨v,s1⟩,d,rfl⟩:=ay.1 h
   rw[fS];unfold fC at d;split at d
   ·split at d
    ·split at d
     ·simp at d;rw[d.2]
     ·split at d
      ·split at d
       ·simp at d;rw[<-d.2]
       ·split at d
        ·simp at d;rw[<-d.2]
        ·split at d
         ·simp at d;rw[<-d.2]
         ·simp at d
       ·simp at d
      ·simp at d
    ·simp at d
   ·simp at d
  ·simp at h
 |call iso f args=>
  simp only[aY]at h;split at h
  ·split at h
   ·split at h
    ·split at h
     ·simp at h;subst h;rw[fS]
     ·simp at h
    ·simp at h
   ·split at h
    ·simp at h;subst h;rw[fS]
    ·simp at h
  ·simp at h
 |loadS ag sz x C=>
  simp only[aY]at h;split at h
  ·split at h
   ·simp at h
   ·obtain⟨v,_,rfl⟩:=ay.1 h;exact fS _ _ _
  ·simp at h
 |append1 sz q x y D v t9=>
  simp only[aY]at h;split at h
  ·split at h
   ·obtain⟨⟨v,s1⟩,d,rfl⟩:=ay.1 h
    rw[fS];exact qAf d
   ·simp at h
  ·simp at h
 |callS C f args=>
  simp only[aY]at h;split at h
  ·split at h
   ·simp at h
   obtain⟨ds,d1,h⟩:=az.1 h;obtain⟨cs,d2,h⟩:=az.1 h;obtain⟨es,d3,h⟩:=az.1 h;split at h
   ·obtain⟨v,_,rfl⟩:=ay.1 h;exact fS _ _ _
   ·simp at h
  ·simp at h
 |_=>simp only[aY]at h;obtain⟨v,_,rfl⟩:=ay.1 h;exact fS _ _ _
theorem yD{o:VOper}(h:dW call p draw L0 i o s=some s'):s'.c=s.c:=by
 unfold dW at h;split at h
 ·exact Tt h
 ·simp at h;subst h;exact fS _ _ _
 ·simp at h
theorem La:∀{os:aC} {i:Nat} {s s':St},cX call p draw L0 i os s=some s'->s'.c=s.c
 | [],_,_,_,h=>by simp[cX]at h;rw[h]
 |o::os,i,s,s',h=>by rw[vu]at h;obtain⟨s1,n,d⟩:=az.1 h;rw[La d,yD n]
theorem BK(h:ie P fid call){N:Nat}(hcore:Core fid g w s.B s.A)(F:qdc fid g w s.r a.tmps)(S:a.tmps.size=N)
 (H:∀q,g.row (q++(s.c+i)::p)=none) (C:il P fid N ops o vo=true) (n:dW call p draw L0 i vo s=some s')
 (K:Act->World->Prop) (Q:Exit->Act->World->Prop)
 (I:∀g' w' u,Core fid g' w' s'.B s'.A->Boxes g w g'->Step (under (s.c+i) p) g w s.A g' w' s'.A->qdc fid g' w' s'.r (a.put o.dst u).tmps->K (a.put o.dst u) w'):
 if Region.wanted o (yielded ops a.tmps)then o.wp P a w K Q else K (a.put o.dst undef) w:=by
 simp only[il,aQ,fa]at C;obtain⟨⟨⟨J,O⟩,R⟩,M⟩:=C;have D:∀d,o.dst=some d->d<a.tmps.size:=by intro d D;rw[S];simpa[D]using O
 unfold dW at n;split at n
 ·rename_i G
  rw[NH F M G,aw rfl];exact Sx h hcore F H J D R n K Q I
 ·rename_i G
  rw[NH F M G];simp at n;subst n
  simp only[bL,if_false];refine I g w undef (by rw[gY,dP];exact hcore) (.refl g w) (by rw[dP];exact .refl _ g w s.A) ?_;rw[<-J];exact gw F .und D
 ·simp at n
theorem gK(a:Act)(d:a_)(u:Value):(a.put d u).tmps.size=a.tmps.size:=by cases d<;>simp[Act.put]
theorem put_defers(a:Act)(d:a_)(u:Value):(a.put d u).defers=a.defers:=by cases d<;>rfl
variable{k':Nat}
theorem Zk{q:Id}(h:k≠k'):¬under k p (q++k'::p):=by
 rintro⟨d,h'⟩
 have:=rp h' (by simp);simp at this;exact h this.2.symm
theorem Eh{g':Gh}{w':World}{A:Ids}(u:Step (under k p) g w A g' w' A')(d:k≠k')(h:∀q,g.row (q++k'::p)=none):∀q,g'.row (q++k'::p)=none:=by
 intro q
 by_cases n:g'.row (q++k'::p)=g.row (q++k'::p)
 ·rw[n];exact h q
 ·exact absurd (u.new _ n) (Zk d)
theorem K7(d:ie P fid call){N:Nat}:∀(os:List Oper) (vs:aC) (i:Nat) (g:Gh) (w:World) (a:Act) (s s':St),
 ee P fid N ops false os vs=true->Core fid g w s.B s.A->qdc fid g w s.r a.tmps->a.tmps.size=N->(∀q j,s.c+i<=j->g.row (q++j::p)=none)->cX call p false L0 i vs s=some s'->
 ∀(Q:Exit->Act->World->Prop),(∀g' a' w',Core fid g' w' s'.B s'.A->Boxes g w g'->Step (fun x=>∃q j,s.c+i<=j/\j<s.c+i+vs.length/\x=q++j::p) g w s.A g' w' s'.A->qdc fid g' w' s'.r a'.tmps->a'.tmps.size=N->a'.defers=a.defers->Q .normal a' w')->
  wpList P ops Q os a w
 | [],[],i,g,w,a,s,s',_,hcore,J,G,n,F,Q,K=>by
  simp[cX]at F;subst F
  exact K g a w hcore (.refl g w) (.refl _ g w s.A) J G rfl
 |o::os,v::vs,i,g,w,a,s,s',C,hcore,J,G,n,F,Q,K=>by
  simp only[ee,aQ]at C;obtain⟨⟨⟨Z,_⟩,_⟩,S⟩:=C;rw[vu]at F;obtain⟨s1,D,H⟩:=az.1 F;have hc1:=yD D;unfold wpList;have key:=BK (g:=g) (w:=w) d hcore J G (fun q=>n q _ (bf _)) Z D (wpList P ops Q os) Q (fun g1 w1 u c1 O st1 R=>by
   refine K7 d os vs (i+1) g1 w1 (a.put o.dst u) s1 s' S c1 R (by rw[gK];exact G) (fun q j hj=> ?_) H Q (fun g2 W Y c2 X st2 r2 V d2=> ?_)
   ·exact Eh st1 (by omega) (fun q=>n q j (by omega)) q
   ·refine K g2 W Y c2 (O.trans st1.size X) ((st1.weaken (fun x ⟨q,I⟩=>⟨q,s.c+i,bf _,by simp,I⟩)).trans O (st2.weaken (fun x ⟨q,j,h3,h4,I⟩=>⟨q,j,by omega,by simp only[de];omega,I⟩))) r2 V (by rw[d2,put_defers]))
  split
  ·rename_i M
   rw[aw M]at key;exact .inl key
  ·rename_i M
   rw[au M]at key;exact key
 | [],_::_,_,_,_,_,_,_,h,_,_,_,_,_,_,_=>by simp[ee]at h
 |_::_,[],_,_,_,_,_,_,h,_,_,_,_,_,_,_=>by simp[ee]at h
end Go.Proofs.YtpcoohnjllclnaaGreat.VS
