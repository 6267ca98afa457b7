/- The engine, part 2: a call of the program answers what an evaluator of values without memory answers, for the functions whose code is the one that the evaluator is given. -/
import Derived.Test.YtpcoohnjllclnaaGreatEngA
import Derived.Laws.Append
import Derived.Laws.AppendOwn
import Derived.LoopN
import Derived.Tactics
set_option linter.unusedSimpArgs false
set_option linter.unusedVariables false
namespace Go.Proofs.YtpcoohnjllclnaaGreat.VS
section
variable {P:Program} {fid:Nat->FuncId} {g:Gh} {w:World}
def under(k:Nat)(p:Id)(a:Id):Prop:=∃q,a=q++k::p
structure Does(P:Program)(fid:Nat->FuncId)(N:Id->Prop)(g:Gh)(w:World)(a:Act)(o:Oper)(s s':St) where
 n:Next
 u:Value
 w':World
 g':Gh
 run:(execOp a.eval o).run P w= .ok n w'
 res:n= .value u\/(n= .skip/\u=undef)
 core:Core fid g' w' s'.B s'.A
 boxes:Boxes g w g'
 step:Step N g w s.A g' w' s'.A
 regs:qcY fid g' w' s'.r (a.put o.dst u).tmps
theorem lN(a:Act)(dst:Option Nat)(u:Value)(t:Nat):
 (a.put dst u).tmps.getD t undef=if dst=some t/\t<a.tmps.size then u else a.tmps.getD t undef:=by
 cases dst with
 |none=>simp[Act.put]
 |some d=>
  simp only[Act.put,aB]
  by_cases h:d=t
  ·subst h
   by_cases b:d<a.tmps.size
   ·simp[b,bL]
   ·simp[b,bL]
  ·simp[h,bL,jq h]
theorem fm{a:Act}{dst:Option Nat}{u:Value}{v:AV}{s:St}(b:qcY fid g w s.r a.tmps)(c:AVR fid g w v u)(hd:∀d,dst=some d->d<a.tmps.size):
 qcY fid g w (s.put dst v).r (a.put dst u).tmps:=by
 intro t x hx;rw[lN];cases dst with
 |none=>simp[St.put]at hx;simpa using b t x hx
 |some d=>
  simp only[St.put,lk]at hx;split at hx
  ·rename_i h
   subst h;simp at hx;subst hx
   simp[hd t rfl,c]
  ·rename_i h
   rw[ak (by simp;intro e;exact absurd e.symm h)];exact b t x hx
theorem ge(s:St)(dst:Option Nat)(v:AV):(s.put dst v).B=s.B:=by cases dst<;>rfl
theorem db(s:St)(dst:Option Nat)(v:AV):(s.put dst v).A=s.A:=by cases dst<;>rfl
theorem ff(s:St)(dst:Option Nat)(v:AV):(s.put dst v).c=s.c:=by cases dst<;>rfl
def Does.still{N:Id->Prop}{a:Act}{o:Oper}{s:St}{v:AV}(u:Value)(b:Core fid g w s.B s.A)(e:qcY fid g w s.r a.tmps)(hd:∀d,o.dst=some d->d<a.tmps.size)
 (h1:(execOp a.eval o).run P w= .ok (.value u) w) (c:AVR fid g w v u):Does P fid N g w a o s (s.put o.dst v):=
 ⟨.value u,u,w,g,h1,.inl rfl,by rw[ge,db];exact b,.refl g w,by rw[db];exact .refl N g w s.A,fm e c hd⟩
theorem ft:∀{cs:List AV} {ds:List DV},aM cs=some ds->cs=ds.map .d
 | [],ds,h=>by simp[aM]at h;subst h;rfl
 | .d v::r,ds,h=>by
  simp only[aM]at h;obtain⟨b,h1,rfl⟩:=au.1 h;rw[ft h1];rfl
 | .ptr _ _::_,_,h=>by simp[aM]at h
 | .ep _::_,_,h=>by simp[aM]at h
 | .nilp::_,_,h=>by simp[aM]at h
 | .fn _ _::_,_,h=>by simp[aM]at h
 | .bsl _ _ _ _ _::_,_,h=>by simp[aM]at h
 | .tsl _ _ _ _::_,_,h=>by simp[aM]at h
 | .ag _ _::_,_,h=>by simp[aM]at h
 | .und::_,_,h=>by simp[aM]at h
theorem iS{B:ah}{i:Nat}{cs:List AV}:aI B i=some cs↔B[i]?=some (some cs):=by
 unfold aI;split
 ·rename_i h;rw[h];simp
 ·rename_i h
  constructor
  ·intro b;simp at b
  ·intro b;exact absurd b (by intro c;exact h _ c)
theorem Gv{B:ah}{A:Ids}(hc:Core fid g w B A){agg:Bool}{sz i off b:Nat}{v:AV}(hb:g.bx i=some b)(h:aG B agg sz i off=some v):
 ∃u,AVR fid g w v u/\(agg=true->∃f:Nat->Value,u= .agg ((List.range sz).map f).toArray/\∀j,j<sz->w.cell? ((⟨b,off,none⟩:Addr).add j)=some (f j))/\(agg=false->w.cell? ⟨b,off,none⟩=some u):=by
 obtain⟨cs,arr,e,h1,z,G,y,D,F⟩:=hc.box i b hb;have k:∀j,w.cell? ((⟨b,off,none⟩:Addr).add j)=arr[off+j]?:=by
  intro j;have:(⟨b,off,none⟩:Addr).add j=⟨b,off+j,none⟩:=by unfold Addr.add;split<;>simp_all
  rw[this];simp[World.cell?,z]
 unfold aG at h;rw[iS.2 h1]at h;simp only[aQ]at h;cases agg with
 |true=>
  simp only[if_true]at h;split at h
  case isFalse=>simp at h
  rename_i hlen;cases hds:aM ((cs.drop off).take sz)with
  |none=>
   rw[hds]at h;simp only[jg]at h;split at h
   ·simp only[aB]at h
    subst h;refine⟨.agg ((List.range sz).map fun j=>arr.getD (off+j) undef).toArray,.ag _ _ (by simp;omega) (fun j v u hj r=> ?_),fun _=>⟨_,rfl,fun j hj=> ?_⟩,by simp⟩
    ·have l:j<sz:=by have:=(aK.1 hj).1;simp at this;omega
     rw[ew,ap l,gk]at hj;simp[l]at r;have c:off+j<arr.size:=by omega
     rw[<-r];simp only[kg c,eE];exact y _ _ (arr[off+j]) hj (by simp[c])
    ·rw[k]
     have c:off+j<arr.size:=by omega
     simp[c,bL]
   ·simp at h
  |some ds=>
  rw[hds]at h;simp only[jg,aB]at h;subst h;have hd:=ft hds;have m:∀j,j<sz->∃x,ds[j]?=some x/\cs[off+j]?=some (.d x):=by
   intro j hj;have:(cs.drop off).take sz=ds.map .d:=hd;have q:=li (·[j]?) this;simp[gk,hj]at q;have c:off+j<cs.length:=by omega
   rw[eh c]at q;cases hx:ds[j]? with
   |none=>rw[hx]at q;simp at q
   |some x=>rw[hx]at q;simp at q;exact⟨x,rfl,by rw[eh c,q]⟩
  have t:ds.length=sz:=by
   have:=li List.length hd;simp at this;omega
  refine⟨.agg ((List.range sz).map fun j=>arr.getD (off+j) undef).toArray,.d _ _ (.agg _ _ (by simp[t]) (fun v C=> ?_) fun j v u hj r=> ?_),fun _=>⟨_,rfl,fun j hj=> ?_⟩,by simp⟩
  ·obtain⟨j,hj⟩:=c9.1 C
   have l:j<sz:=by have:=(aK.1 hj).1;omega
   obtain⟨x,hx,n⟩:=m j l;rw[hj]at hx;simp at hx;subst hx
   exact(D _ (bU n)).1
  ·have l:j<sz:=by have:=(aK.1 hj).1;omega
   obtain⟨x,hx,n⟩:=m j l;rw[hj]at hx;simp at hx;subst hx
   simp[l]at r;have c:off+j<arr.size:=by omega
   have:=y _ _ (arr[off+j]) n (by simp[c]);rw[<-r];simp[c];exact cX this
  ·rw[k]
   have c:off+j<arr.size:=by omega
   simp[c,bL]
 |false=>
  simp at h;have c:off<arr.size:=by have:=(aK.1 h).1;omega
  refine⟨arr[off],y _ _ _ h (by simp[c]),by simp,fun _=> ?_⟩;have:=k 0;simpa[Addr.add,c]using this
section
variable {p:Id} {call:aZ} {draw:Bool} {L0 i:Nat} {a:Act} {o:Oper} {s s':St}
theorem AY{t:TypeId}{ad:Addr}{agg:Bool}{sz:Nat}{u:Value}(h1:ni P t=some agg)(c:eg P t=some sz)
 (ha:agg=true->∃f:Nat->Value,u= .agg ((List.range sz).map f).toArray/\∀j,j<sz->w.cell? (ad.add j)=some (f j)) (hb:agg=false->w.cell? ad=some u):
 (loadVar t ad).run P w= .ok u w:=by
 unfold loadVar;simp only[Sem.run_bind,Uj h1,Result.andThen_ok];cases agg with
 |true=>
  obtain⟨f,rfl,b⟩:=ha rfl;simp only[if_true,Sem.run_bind,pj c,Result.andThen_ok];rw[run_loadCells w ad sz f b];simp
 |false=>simp[hb rfl]
theorem K1(c:Core fid g w s.B s.A)(m:qcY fid g w s.r a.tmps)(hd:∀d,o.dst=some d->d<a.tmps.size){agg:Bool}{sz:Nat}{x:VX}(h:aC P fid o.op (.load agg sz x)=true)
 {gd:Option (Nat×Bool)} {af:List Nat} (k:aP call p draw L0 i ⟨o.dst,.load agg sz x,gd,af⟩ s=some s') (N:Id->Prop):Nonempty (Does P fid N g w a o s s'):=by
 obtain⟨dst,op,ty,pos,after,guard⟩:=o;cases op with
 |load t y=>
  simp only[aC,aF,ba]at h;obtain⟨⟨h1,D⟩,F⟩:=h;simp only[aP]at k;split at k
  ·rename_i cs hx
   obtain⟨v,l,rfl⟩:=au.1 k;have j:=bq (w:=w) m F hx;generalize H:a.eval y=q at j;cases j with
   |ep _ ad U hs I C=>
    obtain⟨u,n,ha,hb⟩:=SL (g:=g) (w:=w) l ad U C;refine⟨Does.still u c m hd ?_ (.d _ _ n)⟩;have:=AY (P:=P) (w:=w) (ad:=ad) (u:=u) h1 D (fun e=>⟨U,(ha e).1,(ha e).2⟩) (fun e=>by have:=hb e;rw[this.1];simpa[Addr.add]using this.2);simp[execOp,Instr.loadAt,H,Instr.sureAddr,this]
  ·rename_i b off hx
   split at k
   ·simp at k
   ·obtain⟨v,G,rfl⟩:=au.1 k
    obtain⟨blk,hb,he⟩:=fh (bq (w:=w) m F hx);obtain⟨u,n,ha,z⟩:=Gv c hb G;refine⟨Does.still u c m hd ?_ n⟩;have:=AY (P:=P) (w:=w) (ad:=⟨blk,off,none⟩) (u:=u) h1 D ha z;simp[execOp,Instr.loadAt,he,Instr.sureAddr,this]
  ·simp at k
 |_=>simp[aC]at h
end
end
section
variable {P:Program} {fid:Nat->FuncId} {g:Gh} {w:World}
theorem Lo{m:Nat}:∀{l:List AV},AV.safe.safes m l=true->∀v:AV,v∈l->v.safe m=true
 | [],_,v,h=>by simp at h
 |a::r,hs,v,h=>by
  unfold AV.safe.safes at hs;simp only[aF]at hs;rcases br.1 h with rfl|h
  ·exact hs.1
  ·exact Lo hs.2 v h
theorem FC{m:Nat}{t:Bool}{cs:List AV}(h:(AV.ag t cs).safe m=true):∀v:AV,v∈(AV.ag t cs).cells->v.safe m=true:=by
 intro v b;cases t with
 |false=>unfold AV.safe at h;exact Lo h v b
 |true=>simp[AV.cells]at b;subst b;exact h
theorem ZX{v:AV}{u:Value}(h:AVR fid g w v u)(hc:v.isCell=true):u.oneCell'=true:=by
 cases h with
 |d v u b=>cases b<;>first|rfl|simp[AV.isCell,DV.isCell]at hc
 |ag cs us hs h=>simp[AV.isCell]at hc
 |tp cs us hs h=>simp[AV.isCell]at hc
 |und=>simp[AV.isCell]at hc
 |_=>rfl
theorem rn{v:AV}{u:Value}(h:AVR fid g w v u)(hc:v.cells.all AV.isCell=true):
 u.cells.size=v.cells.length/\(∀(j:Nat) (c:AV) (x:Value),v.cells[j]?=some c->u.cells[j]?=some x->AVR fid g w c x)/\(∀x,x∈u.cells.toList->x.oneCell'=true):=by
 have one:∀(v:AV) (u:Value),v.cells=[v]->u.cells= #[u]->u.oneCell'=true->AVR fid g w v u->
  u.cells.size=v.cells.length/\(∀(j:Nat) (c:AV) (x:Value),v.cells[j]?=some c->u.cells[j]?=some x->AVR fid g w c x)/\(∀x,x∈u.cells.toList->x.oneCell'=true):=by
  intro v u h1 l D r;rw[h1,l];refine⟨rfl,fun j c x y q=> ?_,fun x hx=>by simp at hx;subst hx;exact D⟩;cases j<;>simp at y q
  subst y;subst q;exact r
 cases h with
 |d v u e=>
  cases v with
  |agg cs=>
   have C:∀c,c∈(DV.agg cs).cells->c.isCell=true:=by
    intro c hm;have:=bu.1 hc (.d c) (by simp[AV.cells];exact hm);exact this
   obtain⟨h1,l,D⟩:=Af e C;refine⟨by simpa[AV.cells,DV.cells]using h1,fun j c x r y=> ?_,D⟩;simp only[AV.cells,cH]at r;obtain⟨c',q,rfl⟩:=au.1 r;exact .d _ _ (l j c' x q y)
  |tup cs=>simp[AV.cells,AV.isCell,DV.isCell]at hc
  |int k n=>exact one _ _ rfl (by cases e;rfl) (by cases e;rfl) (.d _ _ e)
  |bool b=>exact one _ _ rfl (by cases e;rfl) (by cases e;rfl) (.d _ _ e)
  |str b=>exact one _ _ rfl (by cases e;rfl) (by cases e;rfl) (.d _ _ e)
  |sl t xs=>exact one _ _ rfl (by cases e<;>rfl) (by cases e<;>rfl) (.d _ _ e)
 |ptr i off b h=>exact one _ _ rfl rfl rfl (.ptr i off b h)
 |ep cs ad U hs F h=>exact one _ _ rfl rfl rfl (.ep cs ad U hs F h)
 |nilp=>exact one _ _ rfl rfl rfl .nilp
 |fn f cap us hs h=>exact one _ _ rfl rfl rfl (.fn f cap us hs h)
 |bsl id ag i sz n b h=>exact one _ _ rfl rfl rfl (.bsl id ag i sz n b h)
 |tsl ag i sz n c b h h1 l=>exact one _ _ rfl rfl rfl (.tsl ag i sz n c b h h1 l)
 |ag cs us hs h=>
  refine⟨hs,h,fun x hx=> ?_⟩;obtain⟨j,hj⟩:=c9.1 hx;have m:us[j]?=some x:=by simpa[Value.cells]using hj
  have z:j<cs.length:=by have:=(dD.1 m).1;omega
  exact ZX (h j cs[j] x (by simp[z]) m) (bu.1 hc _ (by simp[AV.cells]))
 |tp cs us hs h=>simp[AV.cells,AV.isCell]at hc
 |und=>simp[AV.cells,AV.isCell]at hc
theorem I0{b:Nat}{arr arr':Array Value}{e:TypeId}(hb:w.heap[b]?=some (.cells arr e (0,0)))(j:g.K b=0):Ext g w g (w.setRow b arr'):=by
 refine⟨⟨fun _=>aU _,fun ad c=> ?_,fun _ _ h=>h⟩,fun _ _ h=>h⟩;have d:ad.block≠b:=fun h=>by rw[h,j]at c;omega
 simp only[World.cell?];rw[setRow_other w b ad.block arr' d]
section
variable {p:Id} {call:aZ} {draw:Bool} {L0 i:Nat} {a:Act} {o:Oper} {s s':St}
theorem BN(k:Core fid g w s.B s.A)(hr:qcY fid g w s.r a.tmps)(hd:∀d,o.dst=some d->d<a.tmps.size){S:Bool}{sz:Nat}{x y:VX}(h:aC P fid o.op (.store S sz x y)=true)
 {gd:Option (Nat×Bool)} {af:List Nat} (O:aP call p draw L0 i ⟨o.dst,.store S sz x y,gd,af⟩ s=some s') (N:Id->Prop):Nonempty (Does P fid N g w a o s s'):=by
 obtain⟨dst,op,ty,pos,after,guard⟩:=o;cases op with
 |store t x' y'=>
  simp only[aC,aF,ba]at h;obtain⟨⟨h1,h2⟩,h3⟩:=h;simp only[aP]at O;split at O
  ·rename_i b off v hx hy
   split at O
   ·simp at O
   ·obtain⟨s1,C,rfl⟩:=au.1 O
    unfold je at C;obtain⟨cs,hcs,C⟩:=aw.1 C;split at C
    ·rename_i M
     obtain⟨hsz,hlen,I,H⟩:=M;simp at C;subst C
     obtain⟨blk,hb,he⟩:=fh (bq (w:=w) hr h2 hx);have Q:=bq (w:=w) hr h3 hy;generalize hq:a.eval y'=q at Q;obtain⟨c1,c2,c3⟩:=rn Q I;obtain⟨cs',arr,e,b1,X,b3,b4,b5,b6⟩:=k.box b blk hb;have:cs'=cs:=by have:=iS.1 hcs;rw[b1]at this;simpa using this
     subst this;have h5:=run_storeCells_at (P:=P) blk off e q.cells.toList 0 arr w X (by simp;omega) c3;have J:(execOp a.eval ⟨dst,.store t x' y',ty,pos,after,guard⟩).run P w= .ok .skip (w.setRow blk (arr.toList.take (off+0)++q.cells.toList++arr.toList.drop (off+0+q.cells.toList.length)).toArray):=by
      simp only[execOp,Instr.storeAt,he,Instr.sureAddr,hq,Sem.run_bind,Sem.run_pure,Result.andThen_ok,storeVar,pj h1];rw[ak (by simp;omega),h5];simp
     have R:(arr.toList.take (off+0)++q.cells.toList++arr.toList.drop (off+0+q.cells.toList.length))=splice arr.toList off q.cells.toList:=by simp[splice]
     rw[R]at J;have u:=I0 (g:=g) (arr':=(splice arr.toList off q.cells.toList).toArray) X b6;have F:=setRow_heap w blk arr (splice arr.toList off q.cells.toList).toArray e (0,0) X;have D:∀z,z≠blk->(w.setRow blk (splice arr.toList off q.cells.toList).toArray).heap[z]?=w.heap[z]?:=fun z l=>setRow_other w blk z _ l
     have h4:b<s.B.length:=(aK.1 b1).1;refine⟨⟨.skip,undef,_,g,J,.inr ⟨rfl,rfl⟩,?_,.refl g w,?_,?_⟩⟩
     ·rw[ge,db]
      refine⟨fun i z l=> ?_,k.inj,fun id hid=> ?_,k.apart,fun z l=>k.K0 z (by simpa[World.setRow]using l)⟩
      ·by_cases hi:i=b
       ·subst hi
        rw[hb]at l;simp at l;subst l
        refine⟨splice cs' off v.cells,_,e,by simp[h4],F,?_,fun j v' u' hj K=> ?_,fun v' hm=> ?_,b6⟩
        ·simp only[ir]
         rw[ji cs' _ _ (by omega),ji arr.toList _ _ (by simp;omega)];simpa using b3
        ·rw[jU _ _ _ (by omega)]at hj
         simp only[nJ]at K;rw[jU _ _ _ (by simp;omega)]at K
         by_cases hc:off<=j/\j<off+v.cells.length
         ·rw[ap hc]at hj
          rw[ap (by simp;omega)]at K;exact(c2 _ _ _ hj (by simpa using K)).mono fid u
         ·rw[ak hc]at hj
          rw[ak (by simp;omega)]at K;exact(b4 _ _ _ hj (by simpa using K)).mono fid u
        ·obtain⟨j,hj⟩:=c9.1 hm
         rw[jU _ _ _ (by omega)]at hj;split at hj
         ·have m:=bU hj
          refine⟨bu.1 I _ m,?_⟩;cases v with
          |d dv=>
           have:∃W,v'= .d W:=by
            cases dv<;>simp[AV.cells]at m<;>first|exact⟨_,m⟩|(obtain⟨W,_,rfl⟩:=m;exact⟨W,rfl⟩)
           obtain⟨W,rfl⟩:=this;unfold AV.safe;rfl
          |ag tp cs=>exact FC H _ m
          |_=>simp[AV.cells]at m;subst m;exact H
         ·exact b5 _ (bU hj)
       ·obtain⟨Y,G,e2,d1,d2,d3,d4,d5,d6⟩:=k.box i z l
        have x1:z≠blk:=fun h=>hi (k.inj i b z l (by rw[h];exact hb))
        refine⟨Y,G,e2,by rw[dh (by omega)];exact d1,by rw[D _ x1];exact d2,d3,fun j v' u' hj K=>(d4 j v' u' hj K).mono fid u,d5,d6⟩
      ·obtain⟨bb,n,c,x2,G,e2,o1,o2,o3,o4,o5,o6⟩:=k.opn id hid
       exact⟨bb,n,c,x2,G,e2,o1,by rw[D _ (fun h=>o6 b (by rw[h];exact hb))];exact o2,o3,o4,o5,o6⟩
     ·rw[db]
      refine⟨rfl,rfl,rfl,by simp[World.setRow],u.toExtV,fun z x3 Z _=>⟨D z (fun h=>Z b (by rw[h];exact hb)),rfl⟩,fun _ h=>absurd rfl h,fun id z hid l=> .inr ⟨id,hid,l⟩,fun z c' e' z' V=>by
       by_cases he:z=blk
       ·subst he
        rw[X]at V;simp only[aB,Obj.cells.injEq]at V;obtain⟨rfl,rfl,rfl⟩:=V;exact⟨_,F,by rw[ir,ji _ _ _ (by simp;omega)];simp⟩
       ·exact⟨c',by rw[D z he];exact V,rfl⟩⟩
     ·exact fm (s:={s with B:=_}) (hr.mono fid u) .und hd
    ·simp at C
  ·simp at O
 |_=>simp[aC]at h
end
end
section
variable {P:Program} {fid:Nat->FuncId} {g:Gh} {w:World}
theorem pT(w:World)(o:Obj){b:Nat}(h:b<w.heap.size):({w with heap:=w.heap.push o}:World).heap[b]?=w.heap[b]?:=by
 simp[Array.getElem?_push,Nat.ne_of_lt h]
theorem Ug(w:World)(o:Obj):({w with heap:=w.heap.push o}:World).heap[w.heap.size]?=some o:=by simp
theorem Q0{K0:∀b,w.heap.size<=b->g.K b=0}(o:Obj):ExtV g w g {w with heap:=w.heap.push o}:=by
 refine⟨fun _=>aU _,fun ad d=> ?_,fun _ _ h=>h⟩;have c:ad.block<w.heap.size:=by
  rcases dZ ad.block w.heap.size with h|h
  ·exact h
  ·rw[K0 _ h]at d;omega
 simp only[World.cell?];rw[pT w o c]
theorem YZ{B:ah}{i:Nat}:ct B i=true↔B[i]?=some none:=by
 unfold ct;split
 ·rename_i h;rw[h];simp
 ·rename_i h
  constructor
  ·intro b;simp at b
  ·intro b;exact absurd b h
theorem Core.lt{B:ah}{A:Ids}(hc:Core fid g w B A){i b:Nat}(h:g.bx i=some b):b<w.heap.size:=by
 obtain⟨cs,arr,e,_,c,_⟩:=hc.box i b h;exact(dD.1 c).1
theorem Mo{B:ah}{A:Ids}(hc:Core fid g w B A){i0:Nat}(O:ct B i0=true)(cs:List AV)(arr:Array Value)(e:TypeId)(hsz:arr.size=cs.length)
 (J:∀(j:Nat) (v:AV) (u:Value),cs[j]?=some v->arr[j]?=some u->AVR fid g w v u) (l:∀v,v∈cs->v.isCell=true/\v.safe i0=true) (N:Id->Prop):
 ∃g1,Core fid g1 {w with heap:=w.heap.push (.cells arr e)} (B.set i0 (some cs)) A/\Boxes g w g1/\Step N g w A g1 {w with heap:=w.heap.push (.cells arr e)} A/\
  Ext g w g1 {w with heap:=w.heap.push (.cells arr e)}/\g1.bx i0=some w.heap.size:=by
 have y:=YZ.1 O;have x:i0<B.length:=(aK.1 y).1;have m:g.bx i0=none:=by
  cases h:g.bx i0 with
  |none=>rfl
  |some b=>
   obtain⟨cs',arr',C,h1,_⟩:=hc.box i0 b h;rw[y]at h1;simp at h1
 have q:ExtV g w g {w with heap:=w.heap.push (.cells arr e)}:=Q0 (K0:=hc.K0) _;have d:Ext g w {g with bx:=fun j=>if j=i0 then some w.heap.size else g.bx j} {w with heap:=w.heap.push (.cells arr e)}:=by
  refine⟨⟨q.K,q.cell,q.row⟩,fun i b h=> ?_⟩;simp only;rw[ak (fun he=>by rw[he,m]at h;simp at h)];exact h
 refine⟨{g with bx:=fun j=>if j=i0 then some w.heap.size else g.bx j},⟨fun i b h=> ?_,fun i j b h1 k=> ?_,fun a ha=> ?_,hc.apart,fun b hb=>hc.K0 b (by simp at hb;omega)⟩,⟨d.bx,fun i b h=> ?_⟩,?_,d,by simp⟩
 ·simp only at h
  by_cases hi:i=i0
  ·subst hi
   simp at h;subst h
   exact⟨cs,arr,e,by simp[x],Ug w _,Nat.le_of_eq hsz.symm,fun j v u h1 k=>(J j v u h1 k).mono fid d,l,hc.K0 _ (aU _)⟩
  ·rw[ak hi]at h
   obtain⟨cs',arr',C,h1,k,X,S,M,W⟩:=hc.box i b h;exact⟨cs',arr',C,by rw[dh (Ne.symm hi)];exact h1,by rw[pT w _ (hc.lt h)];exact k,X,fun j v u H Q=>(S j v u H Q).mono fid d,M,W⟩
 ·simp only at h1 k
  by_cases hi:i=i0<;>by_cases hj:j=i0
  ·rw[hi,hj]
  ·rw[ap hi]at h1;rw[ak hj]at k
   simp at h1;subst h1
   have:=hc.lt k;omega
  ·rw[ak hi]at h1;rw[ap hj]at k
   simp at k;subst k
   have:=hc.lt h1;omega
  ·rw[ak hi]at h1;rw[ak hj]at k
   exact hc.inj i j b h1 k
 ·obtain⟨b,n,c,sz,r,Y,F,D,R,G,V,I⟩:=hc.opn a ha
  have t:b<w.heap.size:=(dD.1 D).1;refine⟨b,n,c,sz,r,Y,F,by rw[pT w _ t];exact D,R,G,V,fun i h=> ?_⟩;simp only at h;split at h
  ·simp at h;omega
  ·exact I i h
 ·simp only at h
  split at h
  ·simp at h;subst h;exact .inr (aU _)
  ·exact .inl h
 ·refine⟨rfl,rfl,rfl,by simp,⟨q.K,q.cell,q.row⟩,fun b hb _ _=>⟨pT w _ hb,rfl⟩,fun _ h=>absurd rfl h,fun id b hid hb=> .inr ⟨id,hid,hb⟩,fun b c e z h=>⟨c,by rw[pT w _ (dD.1 h).1];exact h,rfl⟩⟩
section
variable {p:Id} {call:aZ} {draw:Bool} {L0 i:Nat} {a:Act} {o:Oper} {s s':St}
theorem C8(c:Core fid g w s.B s.A)(q:qcY fid g w s.r a.tmps)(hd:∀d,o.dst=some d->d<a.tmps.size){i0:Nat}(k:ct s.B i0=true){cs:List AV}{arr:Array Value}{e:TypeId}(hsz:arr.size=cs.length)
 (n:∀(j:Nat) (v:AV) (u:Value),cs[j]?=some v->arr[j]?=some u->AVR fid g w v u) (b:∀v,v∈cs->v.isCell=true/\v.safe i0=true) (N:Id->Prop) {u:Value} {v:AV}
 (h:(execOp a.eval o).run P w= .ok (.value u) {w with heap:=w.heap.push (.cells arr e)})
 (l:∀(g1:Gh) (m:World),g1.bx i0=some w.heap.size->AVR fid g1 m v u):
 Nonempty (Does P fid N g w a o s ({s with B:=s.B.set i0 (some cs)}.put o.dst v)):=by
 obtain⟨g1,c1,x,s1,t,y⟩:=Mo c k cs arr e hsz n b N;refine⟨⟨_,u,_,g1,h,.inl rfl,by rw[ge,db];exact c1,x,by rw[db];exact s1,fm (s:={s with B:=_}) (q.mono fid t) (l g1 _ y) hd⟩⟩
theorem TG(c:Core fid g w s.B s.A)(q:qcY fid g w s.r a.tmps)(hd:∀d,o.dst=some d->d<a.tmps.size){k:Nat}{zero:List DV}(h:aC P fid o.op (.alloc k zero)=true)
 {gd:Option (Nat×Bool)} {af:List Nat} (l:aP call p draw L0 i ⟨o.dst,.alloc k zero,gd,af⟩ s=some s') (N:Id->Prop):Nonempty (Does P fid N g w a o s s'):=by
 obtain⟨dst,op,ty,pos,after,guard⟩:=o;cases op with
 |alloc t=>
  simp only[aC]at h;unfold tT at h;split at h
  ·rename_i z hz
   obtain⟨it,hit,hzero⟩:=aw.1 hz;simp only[aP]at l;split at l
   ·rename_i hc
    simp at l;subst l
    have b:=KR (g:=g) (w:=w) h;refine C8 (arr:=z.cells) (e:=t) (u:= .pointer (some ⟨w.heap.size,0,none⟩)) c q hd hc.1 (by simpa using b.1) (fun j v u h1 n=> ?_) (fun v hm=> ?_) N ?_ (fun g1 x hb=> .ptr _ _ _ hb)
    ·simp only[cH]at h1
     obtain⟨d,m,rfl⟩:=au.1 h1;exact .d _ _ (b.2.2 j d u m n)
    ·simp at hm
     obtain⟨d,m,rfl⟩:=hm;exact⟨b.2.1 d m,by unfold AV.safe;rfl⟩
    ·simp[execOp,Instr.alloc,zeroValue,typeInfo,hit,hzero,newVar,newRow]
   ·simp at l
  ·simp at h
 |_=>simp[aC]at h
theorem PZ(l:Core fid g w s.B s.A)(n:qcY fid g w s.r a.tmps)(hd:∀d,o.dst=some d->d<a.tmps.size){k:Nat}{x:VX}(h:aC P fid o.op (.box k x)=true)
 {gd:Option (Nat×Bool)} {af:List Nat} (j:aP call p draw L0 i ⟨o.dst,.box k x,gd,af⟩ s=some s') (N:Id->Prop):Nonempty (Does P fid N g w a o s s'):=by
 obtain⟨dst,op,ty,pos,after,guard⟩:=o;cases op with
 |box t y=>
  simp only[aC]at h;simp only[aP]at j;obtain⟨v,hx,j⟩:=aw.1 j;split at j
  ·rename_i hc
   obtain⟨z,c,b⟩:=hc;simp at j;subst j
   have hy:=bq (w:=w) n h hx;generalize C:a.eval y=q at hy;obtain⟨c1,c2,c3⟩:=rn hy c;refine C8 (arr:=q.cells) (e:=t) (u:= .pointer (some ⟨w.heap.size,0,none⟩)) l n hd z c1 c2 (fun v' hm=> ?_) N ?_ (fun g1 F hb=> .ptr _ _ _ hb)
   ·refine⟨bu.1 c _ hm,?_⟩
    cases v with
    |d D=>
     have:∃m,v'= .d m:=by
      cases D<;>simp[AV.cells]at hm<;>first|exact⟨_,hm⟩|(obtain⟨m,_,rfl⟩:=hm;exact⟨m,rfl⟩)
     obtain⟨m,rfl⟩:=this;unfold AV.safe;rfl
    |ag tp cs=>exact FC b _ hm
    |_=>simp[AV.cells]at hm;subst hm;exact b
   ·simp[execOp,Instr.box,C,newVar,newRow]
  ·simp at j
 |_=>simp[aC]at h
end
end
section
variable {P:Program} {fid:Nat->FuncId} {g:Gh} {w:World}
theorem wrap_i64{n:Int}(h: -9223372036854775808<=n)(b:n<9223372036854775808):IntKind.i64.wrap n=n:=by
 show(if(true&&decide (n%18446744073709551616>=9223372036854775808))=true then n%18446744073709551616-18446744073709551616 else n%18446744073709551616)=n;simp only[eP,ba];split<;>omega
def flat(xs:List DV):List DV:=xs.flatMap DV.cells
theorem mM{s:Nat}:∀{xs:List DV},(∀x:DV,x∈xs->x.cells.length=s)->(flat xs).length=xs.length*s
 | [],_=>by simp[flat]
 |x::xs,h=>by
  have h1:=h x (by simp);have b:=mM (xs:=xs) (fun y hy=>h y (by simp[hy]));simp only[flat,ei,dz,cB,c_]at b⊢
  omega
theorem flat_get{s:Nat}:∀{xs:List DV},(∀x:DV,x∈xs->x.cells.length=s)->∀(i j:Nat) (x:DV),xs[i]?=some x->j<s->(flat xs)[i*s+j]?=x.cells[j]?
 | [],_,i,j,x,h,_=>by simp at h
 |y::ys,hs,i,j,x,h,hj=>by
  have h1:=hs y (by simp);have hc:flat (y::ys)=y.cells++flat ys:=by simp[flat]
  cases i with
  |zero=>
   simp at h;subst h
   rw[hc,bY (by omega)];simp
  |succ i=>
   simp at h;have b:=flat_get (xs:=ys) (fun z hz=>hs z (by simp[hz])) i j x h hj;rw[hc,cj (by rw[c_];omega),<-b]
   congr 1
   rw[c_];omega
theorem Lu{s:Nat}:∀{xs:List DV} (i:Nat) (v:DV),(∀x:DV,x∈xs->x.cells.length=s)->v.cells.length=s->i<xs.length->flat (xs.set i v)=splice (flat xs) (i*s) v.cells
 | [],i,v,_,_,h=>by simp at h
 |y::ys,i,v,hs,b,h=>by
  have h1:=hs y (by simp);have hc:∀z zs,flat (z::zs)=z.cells++flat zs:=fun z zs=>by simp[flat]
  cases i with
  |zero=>
   simp only[kq,hc,splice,qd,rI,dj,eQ];rw[b,<-h1,List.drop_left]
  |succ i=>
   simp only[List.set_cons_succ,hc];rw[Lu i v (fun z hz=>hs z (by simp[hz])) b (by simpa using h)];simp only[splice];have c:(i+1)*s=y.cells.length+i*s:=by rw[c_];omega
   rw[c,List.take_append,eU (l:=y.cells) (by omega),show y.cells.length+i*s-y.cells.length=i*s by omega];rw[pL,kw (as:=y.cells) (by omega),show y.cells.length+i*s+v.cells.length-y.cells.length=i*s+v.cells.length by omega];simp[b7]
theorem uz{B:ah}{A:Ids}(hc:Core fid g w B A){id:Id}(q:g.row id=none)(xs:List DV)(sz c:Nat)(arr:Array Value)(e:TypeId)(y:World)
 (h1:y.heap=w.heap.push (.cells arr e)) (Y:y.os=w.os) (Z:y.tape=w.tape) (J:y.output=w.output)
 (hlen:xs.length<=c) (W:xs=[]->c=0) (hm:c<=maxLen) (I:arr.size=c*sz) (F:∀x:DV,x∈xs->x.cells.length=sz/\∀v:DV,v∈x.cells->v.isCell=true)
 (hv:∀(k:Nat) (v:DV),(flat xs)[k]?=some v->∃u,arr[k]?=some u/\VR g w v u) (N:Id->Prop) (hN:N id):
 ∃g1,Core fid g1 y B (Ids.add id A)/\Boxes g w g1/\Step N g w A g1 y (Ids.add id A)/\Ext g w g1 y/\VR g1 y (.sl (.own id sz) xs) (.slice (some ⟨w.heap.size,0,none⟩) xs.length c):=by
 have hold:∀b,b<w.heap.size->y.heap[b]?=w.heap[b]?:=fun b hb=>by rw[h1];simp[Array.getElem?_push,Nat.ne_of_lt hb]
 have H:y.heap[w.heap.size]?=some (.cells arr e):=by rw[h1];simp
 have h2:=mM (xs:=xs) (fun x hx=>(F x hx).1);have l:Ext g w {K:=fun b=>if b=w.heap.size then xs.length*sz else g.K b,row:=fun a=>if a=id then some (w.heap.size,xs.length,c,sz)else g.row a,bx:=g.bx} y:=by
  refine⟨⟨fun b=> ?_,fun ad S=> ?_,fun a x h=> ?_⟩,fun _ _ h=>h⟩
  ·simp only
   split
   ·rename_i hb;subst hb;rw[hc.K0 _ (aU _)];exact cE _
   ·exact aU _
  ·have C:ad.block<w.heap.size:=by
    rcases dZ ad.block w.heap.size with h|h
    ·exact h
    ·rw[hc.K0 _ h]at S;omega
   simp only[World.cell?];rw[hold _ C]
  ·simp only
   rw[ak (fun he=>by rw[he,q]at h;simp at h)];exact h
 have hbig:∀a b x,A a=true->g.row a=some (b,x)->b<w.heap.size:=by
  intro a b x ha hb;obtain⟨b',n,c',D,t,V,G,O,_⟩:=hc.opn a ha;rw[hb]at G;simp at G
  rw[G.1];exact(dD.1 O).1
 have d:∀a,A a=true->a≠id:=by
  intro a ha he;obtain⟨b',n,c',D,t,V,G,_⟩:=hc.opn a ha;rw[he,q]at G;simp at G
 refine⟨{K:=fun b=>if b=w.heap.size then xs.length*sz else g.K b,row:=fun a=>if a=id then some (w.heap.size,xs.length,c,sz)else g.row a,bx:=g.bx},⟨fun i b h=> ?_,hc.inj,fun a ha=> ?_,fun a a' b x x' ha m hb r=> ?_,fun b hb=> ?_⟩,⟨l.bx,fun i b h=> .inl h⟩,⟨Y,Z,J,by rw[h1];simp,l.toExtV,fun b hb _ _=>⟨hold b hb,?_⟩,fun a ha=> ?_,fun a b ha hb=> ?_,fun b c e z h=>⟨c,by rw[hold b (dD.1 h).1];exact h,rfl⟩⟩,l,?_⟩
 ·obtain⟨cs',arr',e',b1,b2,b3,b4,b5,b6⟩:=hc.box i b h
  have C:=hc.lt h;refine⟨cs',arr',e',b1,by rw[hold _ C];exact b2,b3,fun j v u h7 h8=>(b4 j v u h7 h8).mono fid l,b5,?_⟩;simp only;rw[ak (by omega)];exact b6
 ·simp only[Ids.add,ci,ba]at ha
  rcases ha with rfl|ha
  ·exact⟨w.heap.size,xs.length,c,sz,arr,e,by simp,H,Nat.le_of_eq I.symm,by simp,hlen,fun i h=>by have:=hc.lt h;omega⟩
  ·obtain⟨b,n,c',D,t,V,G,O,o3,o4,o5,o6⟩:=hc.opn a ha
   have C:b<w.heap.size:=(dD.1 O).1;refine⟨b,n,c',D,t,V,by simp only;rw[ak (d a ha)];exact G,by rw[hold _ C];exact O,o3,?_,o5,o6⟩;simp only;rw[ak (by omega)];exact o4
 ·simp only[Ids.add,ci,ba]at ha m
  simp only at hb r;rcases ha with rfl|ha<;>rcases m with rfl|m
  ·rfl
  ·rw[ak (d a' m)]at r
   simp at hb;have:=hbig a' b x' m r;omega
  ·rw[ak (d a ha)]at hb
   simp at r;have:=hbig a b x ha hb;omega
  ·rw[ak (d a ha)]at hb
   rw[ak (d a' m)]at r;exact hc.apart a a' b x x' ha m hb r
 ·rw[h1]at hb
  simp at hb;simp only;rw[ak (by omega)];exact hc.K0 b (by omega)
 ·simp only
  rw[ak (by omega)]
 ·simp only at ha
  split at ha
  ·rename_i he;subst he;exact hN
  ·exact absurd rfl ha
 ·simp only[Ids.add,ci,ba]at ha
  simp only[Gh.blk]at hb;rcases ha with rfl|ha
  ·simp at hb;left;omega
  ·rw[ak (d a ha)]at hb
   exact .inr ⟨a,ha,hb⟩
 ·refine .row _ xs ⟨w.heap.size,0,none⟩ c sz (fun k=>arr.getD k undef) (by simp) hlen hm (fun k hk=> ?_) (.inr (by simp)) (fun i x hi=>F x (bU hi)) (fun i x j v hi hj=> ?_) (fun a D h=> ?_)
  ·have:(⟨w.heap.size,0,none⟩:Addr).add k=⟨w.heap.size,k,none⟩:=by unfold Addr.add;split<;>simp_all
   rw[this];have Q:k<arr.size:=by rw[I];exact mI hk (fb _ hlen)
   simp[World.cell?,H,Q,bL]
  ·have hx:=F x (bU hi)
   have X:j<sz:=by have:=(aK.1 hj).1;omega
   have M:=flat_get (xs:=xs) (fun x hx=>(F x hx).1) i j x hi X;rw[hj]at M;obtain⟨u,hu,R⟩:=hv _ _ M;rw[bL,hu];exact R.mono l.toExtV
  ·simp at h
   obtain⟨rfl,rfl⟩:=h;exact⟨rfl,rfl,rfl,by simp,W⟩
section
variable {p:Id} {call:aZ} {draw:Bool} {L0 i:Nat} {a:Act} {o:Oper} {s s':St}
theorem Hi{r:List (Nat×AV)}{sz:Nat}:∀(ps:List (Nat×Operand)) (d:List (Nat×VX)) (xs b:List DV),oH fid ps d=true->cF (VX.get r) sz xs d=some b->
 (∀x:DV,x∈xs->x.cells.length=sz/\∀v:DV,v∈x.cells->v.isCell=true)->
 ∃e,lS fid (fun i=>some (i*sz,sz)) ps e=true/\dS (VX.get r) (flat xs) e=some (flat b)/\b.length=xs.length/\
  (∀x:DV,x∈b->x.cells.length=sz/\∀v:DV,v∈x.cells->v.isCell=true)
 | [],[],xs,b,_,h,hx=>by simp[cF]at h;subst h;exact⟨[],rfl,rfl,rfl,hx⟩
 |(i,o)::ps,(H,x)::d,xs,b,m,h,hx=>by
  simp only[oH,aF,eJ]at m;obtain⟨⟨rfl,h1⟩,z⟩:=m;simp only[cF]at h;split at h
  ·rename_i v C
   split at h
   ·rename_i hc
    obtain⟨q,hi,j⟩:=hc;have l:∀c:DV,c∈v.cells->c.isCell=true:=fun c hm=>bu.1 j c hm
    have t:∀x:DV,x∈xs.set i v->x.cells.length=sz/\∀v:DV,v∈x.cells->v.isCell=true:=by
     intro y hy;rcases qh hy with n|n
     ·exact hx y n
     ·subst n;exact⟨q,l⟩
    obtain⟨e,n,F,G,D⟩:=Hi ps d _ b z h t;refine⟨(i*sz,sz,x)::e,by simp[lS,h1,n],?_,by simpa using G,D⟩;have u:=mM (xs:=xs) (fun x k=>(hx x k).1);have hle:i*sz+sz<=(flat xs).length:=by
     rw[u];have:=fb sz (show i+1<=xs.length by omega);rw[c_]at this;omega
    simp only[dS,C];rw[ap ⟨q,by omega,j⟩,<-Lu i v (fun x k=>(hx x k).1) q hi];exact F
   ·simp at h
  ·simp at h
 | [],_::_,_,_,h,_,_=>by simp[oH]at h
 |_::_,[],_,_,h,_,_=>by simp[oH]at h
theorem Gq{t:TypeId}{v:DV}{it:TypeInfo}{z:Value}(hit:P.info? t=some it)(hz:it.zero=some z)(h:zeroV P t v=true)(hc:v.cells.all DV.isCell=true):qef g w v.cells z.cells:=by
 unfold zeroV at h;simp[hit,hz]at h;have b:=F4 (g:=g) (w:=w) h;obtain⟨h1,d,e⟩:=Af b (fun c hm=>bu.1 hc c hm);exact⟨h1,fun c hm=>bu.1 hc c hm,d⟩
theorem IL{z:DV}{zs:Array Value}{sz:Nat}(hz:qef g w z.cells zs)(l:z.cells.length=sz)(n:Nat):
 qef g w (flat (List.replicate n z)) ((Array.range (n*sz)).map fun j=>zs[j%zs.size]!):=by
 have hs:zs.size=sz:=by rw[hz.1,l]
 have m:(flat (List.replicate n z)).length=n*sz:=by
  rw[mM (s:=sz) (fun x hx=>by rw[uc hx];exact l)];simp
 refine⟨by simp[m],fun v c=> ?_,fun j v u hj k=> ?_⟩
 ·simp only[flat,qv]at c
  obtain⟨x,hx,c⟩:=c;rw[uc hx]at c;exact hz.2.1 v c
 ·have b:j<n*sz:=by have:=(aK.1 hj).1;omega
  have hsz:0<sz:=by
   rcases kf sz with h|h
   ·rw[h]at b;simp at b
   ·exact h
  have q:j/sz<n:=Ei (by rw[kN];exact b);have r:=Nat.mod_lt j hsz;have d:=flat_get (xs:=List.replicate n z) (s:=sz) (fun x hx=>by rw[uc hx];exact l) (j/sz) (j%sz) z (by simp[q]) r;rw[show j/sz*sz+j%sz=j by rw[kN];exact CN j sz,hj]at d;simp[b]at k;have e:j%sz<zs.size:=by omega
  rw[hs]at k;simp[e]at k;exact hz.2.2 _ _ _ d.symm (by rw[<-k];simp[e])
theorem Up(m:Core fid g w s.B s.A)(W:qcY fid g w s.r a.tmps)(hd:∀d,o.dst=some d->d<a.tmps.size){sz n:Nat}{z:DV}{l:List (Nat×VX)}(h:aC P fid o.op (.buildSlice sz z n l)=true)
 {gd:Option (Nat×Bool)} {af:List Nat} (u:aP call p draw L0 i ⟨o.dst,.buildSlice sz z n l,gd,af⟩ s=some s') (Q:g.row ((s.c+i)::p)=none):Nonempty (Does P fid (under (s.c+i) p) g w a o s s'):=by
 obtain⟨dst,op,ty,pos,after,guard⟩:=o;cases op with
 |buildSlice t n' ps=>
  simp only[aC,aF,ba]at h;obtain⟨rfl,h⟩:=h;split at h
  ·rename_i e he
   simp only[aF,ba]at h;obtain⟨⟨h1,H⟩,h3⟩:=h;have hu:=p8 he;obtain⟨it,hit,hsz⟩:=ql h1;simp only[aP]at u;split at u
   ·rename_i hc
    obtain⟨G,F,hbig,J⟩:=hc;obtain⟨xs,R,rfl⟩:=au.1 u;obtain⟨I,D⟩:∃I,it.zero=some I:=by
     unfold zeroV at H;simp[hit]at H;cases hq:it.zero with
     |none=>simp[hq]at H
     |some z=>exact⟨z,rfl⟩
    have hz:=Gq (g:=g) (w:=w) hit D H F;have N:=IL hz G n';obtain⟨O,Y,Z,q3,X⟩:=Hi ps.toList l _ xs h3 R (fun x hx=>by rw[uc hx];exact⟨G,fun v u=>bu.1 F v u⟩);obtain⟨arr,f1,f2⟩:=EA W _ ps.toList O _ _ _ Y Z N;have hlen:xs.length=n':=by simpa using q3
    have M:=mM (xs:=xs) (fun x hx=>(X x hx).1);obtain⟨g1,c1,b1,s1,e1,v1⟩:=uz m Q xs sz n' arr e {w with heap:=w.heap.push (.cells arr e)} rfl rfl rfl rfl (by omega) (fun h=>by rw[h]at hlen;simpa using hlen.symm)
     (by simp only[maxLen];omega)
     (by rw[f2.1,M,hlen]) X (fun k v V=>by
      have C:k<arr.size:=by have:=(aK.1 V).1;rw[f2.1];exact this
      exact⟨arr[k],by simp[C],f2.2.2 k v _ V (by simp[C])⟩) (under (s.c+i) p) ⟨[],rfl⟩
    refine⟨⟨_,.slice (some ⟨w.heap.size,0,none⟩) n' n',_,g1,?_,.inl rfl,by rw[ge,db];exact c1,b1,by rw[db];exact s1,fm (s:={s with A:=_}) (W.mono fid e1) (.d _ _ (by rw[hlen]at v1;exact v1)) hd⟩⟩;have K:¬(2^24<n'*sz):=by omega
    have b:Instr.fill (fun i=>some (i*sz,sz)) ((Array.range (n'*sz)).map fun j=>I.cells[j%I.cells.size]!) (ps.map fun(i,x)=>(i,a.eval x)).toList=some arr:=by
     have e:(ps.map fun(i,x)=>(i,a.eval x)).toList=ps.toList.map fun q=>(q.1,a.eval q.2):=by simp
     rw[e];exact f1
    simp only[execOp,Instr.buildSlice,Sem.run_bind,sF hu,Result.andThen_ok,pj h1]
    by_cases S:n'*sz=0
    ·simp only[S]at b⊢
     simp at b;have y:∀f:Nat->Value,Array.map f (Array.range 0)= #[]:=fun f=>by simp[Array.range]
     rw[y]at b;simp[y,b,newRow]
    ·simp[K,S,zeroValue,typeInfo,hit,D]
     simp at b;simp[b,newRow]
   ·simp at u
  ·simp at h
 |_=>simp[aC]at h
theorem VH(C:Core fid g w s.B s.A)(V:qcY fid g w s.r a.tmps)(hd:∀d,o.dst=some d->d<a.tmps.size){k sz bytes:Nat}{z:DV}{x:VX}(h:aC P fid o.op (.makeSlice k sz bytes z x)=true)
 {gd:Option (Nat×Bool)} {af:List Nat} (y:aP call p draw L0 i ⟨o.dst,.makeSlice k sz bytes z x,gd,af⟩ s=some s') (N:Id->Prop):Nonempty (Does P fid N g w a o s s'):=by
 obtain⟨dst,op,ty,pos,after,guard⟩:=o;cases op with
 |makeSlice t l c=>
  simp only[aC,aF]at h;obtain⟨⟨h1,h2⟩,h⟩:=h;split at h
  ·rename_i e he
   simp only[aF,ba]at h;obtain⟨⟨h3,S⟩,K⟩:=h;have hu:=p8 he;obtain⟨it,hit,hsz⟩:=ql h3;have J:it.bytes=bytes:=by
    unfold vm at S;simp[hit]at S;exact S
   simp only[aP]at y;split at y
   ·rename_i kk n hx
    split at y
    ·rename_i hc
     obtain⟨x1,hf,O,H,G,W,X⟩:=hc;simp at y;subst y
     obtain⟨m,rfl⟩:=Int.eq_ofNat_of_zero_le O;simp only[xM]at H⊢
     have e1:=ek (bq (w:=w) V h1 hx);have e2:=ek (bq (w:=w) V h2 hx);obtain⟨M,F⟩:∃M,it.zero=some M:=by
      unfold zeroV at K;simp[hit]at K;cases hq:it.zero with
      |none=>simp[hq]at K
      |some z=>exact⟨z,rfl⟩
     have hz:=Gq (g:=g) (w:=w) hit F K X;have q:=IL hz W m;refine C8 (arr:=(Array.range (m*sz)).map fun j=>M.cells[j%M.cells.size]!) (e:=e) (u:= .slice (some ⟨w.heap.size,0,none⟩) m m) C V hd hf (by rw[q.1];simp[flat]) (fun j v u Z q2=> ?_) (fun v hm=> ?_) N ?_ (fun g1 w1 hb=> .bsl _ _ _ _ _ _ hb)
     ·simp only[cH]at Z
      obtain⟨d,R,rfl⟩:=au.1 Z;exact .d _ _ (q.2.2 j d u R q2)
     ·simp only[bP]at hm
      obtain⟨d,R,rfl⟩:=hm;exact⟨q.2.1 d R,by unfold AV.safe;rfl⟩
     ·have b:IntKind.i64.wrap (m:Int)=m:=by
       exact wrap_i64 (by omega) G
      have x2:¬((bytes:Int)*(m:Int)>2^48):=by
       have h7:((m*bytes:Nat):Int)<=140737488355328:=Int.ofNat_le.2 H;rw[Int.natCast_mul,Int.mul_comm]at h7;omega
      have I:¬((m:Int)<0):=by omega
      have D:¬(281474976710656<(bytes:Int)*(m:Int)):=by omega
      simp only[execOp,Instr.makeSlice,Sem.run_bind,sF hu,Result.andThen_ok,e1,e2]
      by_cases Y:m*sz=0
      ·have Q:∀f:Nat->Value,Array.map f (Array.range 0)= #[]:=fun f=>by simp[Array.range]
       simp[asInt,asIntOf,typeInfo,hit,J,b,D,I,sizeOf,hsz,Y,Q,newRow]
      ·simp[asInt,asIntOf,typeInfo,hit,J,b,D,I,sizeOf,hsz,Y,zeroValue,F,newRow]
    ·simp at y
   ·simp at y
  ·simp at h
 |_=>simp[aC]at h
end
end
section
variable {P:Program} {fid:Nat->FuncId} {g:Gh} {w:World}
theorem Core.sub{B:ah}{A A':Ids}(hc:Core fid g w B A)(h:∀x,A' x=true->A x=true):Core fid g w B A':=
 ⟨hc.box,hc.inj,fun a ha=>hc.opn a (h a ha),fun a a' b x x' ha c=>hc.apart a a' b x x' (h a ha) (h a' c),hc.K0⟩
theorem Step.sub{N:Id->Prop}{g':Gh}{w':World}{A A' c:Ids}(hs:Step N g w A g' w' A')(h:∀x,c x=true->A' x=true):Step N g w A g' w' c:=
 {hs with org:=fun a b ha hb=>hs.org a b (h a ha) hb}
theorem EX{xs:List DV}{s:Nat}{U:Nat->Value}(hcs:∀(i:Nat) (x:DV),xs[i]?=some x->x.cells.length=s/\∀v:DV,v∈x.cells->v.isCell=true)
 (hvs:∀(i:Nat) (x:DV) (j:Nat) (v:DV),xs[i]?=some x->x.cells[j]?=some v->VR g w v (U (i*s+j))):
 (flat xs).length=xs.length*s/\∀(k:Nat) (v:DV),(flat xs)[k]?=some v->k<xs.length*s/\v.isCell=true/\VR g w v (U k):=by
 have c:∀x:DV,x∈xs->x.cells.length=s:=fun x hx=>by
  obtain⟨i,hi⟩:=c9.1 hx;exact(hcs i x hi).1
 have n:=mM c;refine⟨n,fun k v m=> ?_⟩;have b:k<xs.length*s:=by have:=(aK.1 m).1;omega
 have l:0<s:=by
  rcases kf s with h|h
  ·rw[h]at b;simp at b
  ·exact h
 have q:k/s<xs.length:=Ei (by rw[kN];exact b);have hx:xs[k/s]?=some xs[k/s]:=by simp[q]
 have d:=flat_get c (k/s) (k%s) _ hx (Nat.mod_lt _ l);have e:k/s*s+k%s=k:=by rw[kN];exact CN k s
 rw[e,m]at d;have:=hvs _ _ _ _ hx d.symm;rw[e]at this;exact⟨b,(hcs _ _ hx).2 v (bU d.symm),this⟩
theorem Io(xs ys:List DV):flat (xs++ys)=flat xs++flat ys:=by simp[flat]
theorem Ym(w:World)(t ty e q:TypeId)(i:TypeInfo)(r:P.underlying t=some (.slice e))(hi:P.info? e=some i)
 (l b d:Nat) (cur:Array Value) (z:w.heap[l]?=some (.cells cur q (0,0)))
 (a:Addr) (m c:Nat) (news:List Value) (x:news.length=m*i.size) (h:∀j u,news[j]?=some u->w.cell? (a.add j)=some u) (h1:∀u∈news,u.oneCell'=true)
 (hroom:b+m<=d) (k:b*i.size+news.length<=cur.size):
 (Builtin.append_ #[t,t] ty #[.slice (some ⟨l,0,none⟩) b d,.slice (some a) m c]).run P w=
  .ok (.slice (some ⟨l,0,none⟩) (b+m) d) (w.setRow l (cur.toList.take (b*i.size)++news++cur.toList.drop (b*i.size+news.length)).toArray):=by
 have y:=run_firstCells_some (P:=P) w i.size m a m c news x h;have n:=run_storeCells_at P l (b*i.size) q news 0 cur w z (by simpa using k) h1;simp only[oM]at n;simp[Builtin.append_,run_underlying r,sizeOf,typeInfo,hi,Builtin.lenOf,hroom,y,Addr.add_lit,n]
theorem Yj(w:World)(t ty e:TypeId)(i:TypeInfo)(h:P.underlying t=some (.slice e))(hi:P.info? e=some i)(b:Option Addr)(n c:Nat)(hn:n<=c)(d:Option Addr)(c':Nat):
 (Builtin.append_ #[t,t] ty #[.slice b n c,.slice d 0 c']).run P w= .ok (.slice b n c) w:=by
 cases b<;>cases d<;>simp[Builtin.append_,run_underlying h,sizeOf,typeInfo,hi,Builtin.lenOf,Builtin.firstCells,loadCells,loadCellsFrom,hn,storeCells]
theorem Xr{B:ah}{A:Ids}(hc:Core fid g w B A){a0 id:Id}(D:g.row id=none)(ha:A a0=true){b n c sz m:Nat}{arr:Array Value}{e:TypeId}
 (I:g.row a0=some (b,n,c,sz)) (q:w.heap[b]?=some (.cells arr e (0,0))) (J:c*sz<=arr.size) (hK:g.K b=n*sz) (x2:∀i,g.bx i≠some b)
 (news:List Value) (hnl:news.length=m*sz) (hroom:n+m<=c) (hcm:c<=maxLen) (xs:List DV) (Y:xs.length=n+m) (hxn:xs≠[])
 (W:∀x:DV,x∈xs->x.cells.length=sz/\∀v:DV,v∈x.cells->v.isCell=true)
 (hv:∀(k:Nat) (v:DV),(flat xs)[k]?=some v->∃u,(splice arr.toList (n*sz) news)[k]?=some u/\VR g w v u) (N:Id->Prop) (hN:N id):
 ∃g1,Core fid g1 (w.setRow b (splice arr.toList (n*sz) news).toArray) B (Ids.add id (Ids.del a0 A))/\Boxes g w g1/\
  Step N g w A g1 (w.setRow b (splice arr.toList (n*sz) news).toArray) (Ids.add id (Ids.del a0 A))/\Ext g w g1 (w.setRow b (splice arr.toList (n*sz) news).toArray)/\
  VR g1 (w.setRow b (splice arr.toList (n*sz) news).toArray) (.sl (.own id sz) xs) (.slice (some ⟨b,0,none⟩) xs.length c):=by
 have z:n*sz+news.length<=arr.toList.length:=by
  rw[hnl];simp only[Ia,<-Nat.add_mul];exact cN (fb _ hroom) J
 have hb:b<w.heap.size:=(dD.1 q).1;have C:=setRow_heap w b arr (splice arr.toList (n*sz) news).toArray e (0,0) q;have y:∀d,d≠b->(w.setRow b (splice arr.toList (n*sz) news).toArray).heap[d]?=w.heap[d]?:=fun d h=>setRow_other w b d _ h
 have G:(w.setRow b (splice arr.toList (n*sz) news).toArray).heap.size=w.heap.size:=by simp[World.setRow]
 have l:∀a,A a=true->a≠id:=by
  intro a ha he;obtain⟨d,n',c',V,R,e2,o1,_⟩:=hc.opn a ha;rw[he,D]at o1;simp at o1
 have H:∀a d x,A a=true->a≠a0->g.row a=some (d,x)->d≠b:=by
  intro a d x h1 F M Q;subst Q;exact F (hc.apart a a0 d x (n,c,sz) h1 ha M I)
 have t:Ext g w {K:=fun k=>if k=b then(n+m)*sz else g.K k,row:=fun a=>if a=id then some (b,n+m,c,sz)else g.row a,bx:=g.bx} (w.setRow b (splice arr.toList (n*sz) news).toArray):=by
  refine⟨⟨fun k=> ?_,fun ad had=> ?_,fun a x h=> ?_⟩,fun _ _ h=>h⟩
  ·simp only
   split
   ·rename_i h;subst h;rw[hK];exact fb _ (AL _ _)
   ·exact aU _
  ·by_cases X:ad.block=b
   ·rw[X,hK]at had
    simp only[World.cell?,X,C,q];split
    ·rfl
    ·rw[nJ,jU _ _ _ z,ak (by omega)]
     simp
   ·simp only[World.cell?]
    rw[y _ X]
  ·simp only
   rw[ak (fun he=>by rw[he,D]at h;simp at h)];exact h
 have O:∀a,Ids.add id (Ids.del a0 A) a=true->a=id\/(a≠a0/\A a=true):=by
  intro a h;simpa[Ids.add,Ids.del]using h
 refine⟨{K:=fun k=>if k=b then(n+m)*sz else g.K k,row:=fun a=>if a=id then some (b,n+m,c,sz)else g.row a,bx:=g.bx},⟨fun i d h=> ?_,hc.inj,fun a h=> ?_,fun a a' d x x' h1 F M Q=> ?_,fun d h=> ?_⟩,⟨t.bx,fun i b h=> .inl h⟩,⟨rfl,rfl,rfl,by rw[G];exact aU _,t.toExtV,fun d hb' _ h=> ?_,fun a h=> ?_,fun a d h1 F=> ?_,fun d c' e' z' h=>by
  by_cases he:d=b
  ·subst he
   rw[q]at h;simp only[aB,Obj.cells.injEq]at h;obtain⟨rfl,rfl,rfl⟩:=h;exact⟨_,C,by rw[ir,ji _ _ _ z];simp⟩
  ·exact⟨c',by rw[y d he];exact h,rfl⟩⟩,t,?_⟩
 ·obtain⟨cs',arr',e',b1,b2,b3,b4,b5,b6⟩:=hc.box i d h
  have r:d≠b:=fun he=>x2 i (by rw[<-he];exact h)
  refine⟨cs',arr',e',b1,by rw[y _ r];exact b2,b3,fun j v u h7 Z=>(b4 j v u h7 Z).mono fid t,b5,?_⟩;simp only;rw[ak r];exact b6
 ·rcases O a h with rfl|⟨h1,F⟩
  ·refine⟨b,n+m,c,sz,_,e,by simp,C,?_,by simp,hroom,x2⟩
   rw[ir,ji _ _ _ z];simpa using J
  ·obtain⟨d,n',c',V,R,e2,o1,o2,o3,o4,o5,o6⟩:=hc.opn a F
   have r:=H a d _ F h1 o1;refine⟨d,n',c',V,R,e2,by simp only;rw[ak (l a F)];exact o1,by rw[y _ r];exact o2,o3,?_,o5,o6⟩;simp only;rw[ak r];exact o4
 ·simp only at M Q
  rcases O a h1 with rfl|⟨h5,S⟩<;>rcases O a' F with rfl|⟨h7,Z⟩
  ·rfl
  ·rw[ak (l a' Z)]at Q
   simp at M;exact absurd M.1.symm (H a' d _ Z h7 Q)
  ·rw[ak (l a S)]at M
   simp at Q;exact absurd Q.1.symm (H a d _ S h5 M)
  ·rw[ak (l a S)]at M
   rw[ak (l a' Z)]at Q;exact hc.apart a a' d x x' S Z M Q
 ·rw[G]at h
  simp only;rw[ak (by omega)];exact hc.K0 d h
 ·have r:d≠b:=fun he=>h a0 ha (by simp[Gh.blk,I,he])
  refine⟨y _ r,?_⟩;simp only;rw[ak r]
 ·simp only at h
  split at h
  ·rename_i he;subst he;exact hN
  ·exact absurd rfl h
 ·simp only[Gh.blk]at F
  rcases O a h1 with rfl|⟨h5,S⟩
  ·simp at F
   exact .inr ⟨a0,ha,by simp[Gh.blk,I,F]⟩
  ·rw[ak (l a S)]at F
   exact .inr ⟨a,S,F⟩
 ·refine .row _ xs ⟨b,0,none⟩ c sz (fun k=>(splice arr.toList (n*sz) news).getD k undef) (by simp) (by omega) hcm (fun k hk=> ?_) (.inr (by simp[Y])) (fun i x hi=>W x (bU hi)) (fun i x j v hi hj=> ?_) (fun a V h=> ?_)
  ·have x1:(⟨b,0,none⟩:Addr).add k=⟨b,k,none⟩:=by unfold Addr.add;split<;>simp_all
   rw[x1];have a1:k<(splice arr.toList (n*sz) news).length:=by
    rw[ji _ _ _ z];simp only[Ia];rw[Y]at hk;exact mI hk (cN (fb _ hroom) J)
   simp[World.cell?,C,a1,List.getD]
  ·have hx:=W x (bU hi)
   have hjs:j<sz:=by have:=(aK.1 hj).1;omega
   have x3:=flat_get (xs:=xs) (fun x hx=>(W x hx).1) i j x hi hjs;rw[hj]at x3;obtain⟨u,hu,a2⟩:=hv _ _ x3;rw[List.getD,hu];exact a2.mono t.toExtV
  ·simp at h
   obtain⟨rfl,rfl⟩:=h;exact⟨rfl,rfl,rfl,by simp[Y],fun h=>absurd h hxn⟩
end
section
variable {P:Program} {fid:Nat->FuncId} {g:Gh} {w:World}
theorem lm(b k:Nat):(⟨b,0,none⟩:Addr).add k=⟨b,k,none⟩:=by unfold Addr.add;split<;>simp_all
theorem source{ys:List DV}{t:Tag}{q:Value}{sz:Nat}(h:VR g w (.sl t ys) q)(e:ys≠[])(m:∀y:DV,y∈ys->y.cells.length=sz):
 ∃(ad:Addr) (c:Nat) (news:List Value),q= .slice (some ad) ys.length c/\news.length=ys.length*sz/\(∀(j:Nat) (u:Value),news[j]?=some u->w.cell? (ad.add j)=some u)/\(∀u:Value,u∈news->u.oneCell'=true)/\
  ∀(k:Nat) (v:DV),(flat ys)[k]?=some v->∃u,news[k]?=some u/\VR g w v u:=by
 cases h with
 |nil=>exact absurd rfl e
 |row _ _ ad c s U G I hm b J hcs hvs x=>
  obtain⟨y,hy⟩:=md ys e;obtain⟨i,hi⟩:=c9.1 hy;have hs:s=sz:=by rw[<-(hcs i y hi).1];exact m y hy
  subst hs;obtain⟨D,l⟩:=EX hcs hvs;refine⟨ad,c,(List.range (ys.length*s)).map U,rfl,by simp,fun j u hj=> ?_,fun u z=> ?_,fun k v r=> ?_⟩
  ·simp only[cH]at hj
   obtain⟨H,h1,rfl⟩:=au.1 hj;have n:=aK.1 h1;obtain⟨d,C⟩:=n;simp at d C;subst C;exact b _ d
  ·simp only[bP,eW]at z
   obtain⟨k,r,rfl⟩:=z;have F:k<(flat ys).length:=by omega
   obtain⟨_,n,d⟩:=l k (flat ys)[k] (by simp);exact(j6 d n).1
  ·obtain⟨h1,n,d⟩:=l k v r
   exact⟨U k,by simp[h1],d⟩
section
variable {p:Id} {call:aZ} {draw:Bool} {L0 i:Nat} {a:Act} {o:Oper} {s s':St}
theorem HQ(m:Core fid g w s.B s.A)(hr:qcY fid g w s.r a.tmps)(hd:∀d,o.dst=some d->d<a.tmps.size){sz bytes:Nat}{x y:VX}(h:aC P fid o.op (.append sz bytes x y)=true)
 {gd:Option (Nat×Bool)} {af:List Nat} (hv:aP call p draw L0 i ⟨o.dst,.append sz bytes x y,gd,af⟩ s=some s') (hfr:g.row ((s.c+i)::p)=none):∃d:Does P fid (under (s.c+i) p) g w a o s s',(∀i' b',g.bx i'=some b'->d.w'.heap[b']?=w.heap[b']?)/\∀gx xs gy ys,x.get s.r=some (.d (.sl gx xs))->y.get s.r=some (.d (.sl gy ys))->ys≠[]->∃bn ln cn,d.u= .slice (some ⟨bn,0,none⟩) ln cn/\∀(k:Nat) (v:DV),(flat (xs++ys))[k]?=some v->∃Y,d.w'.cell? ⟨bn,k,none⟩=some Y/\VR g w v Y:=by
 obtain⟨dst,op,ty,pos,after,guard⟩:=o;cases op with
 |call cc=>
  obtain⟨callee,args,argTypes⟩:=cc;cases callee with
  |builtin b=>
   cases b with
   |append=>
    simp only[aC]at h;split at h
    ·rename_i px py t t' ha ht
     simp only[aF,ba]at h;obtain⟨⟨⟨h1,h2⟩,rfl⟩,h3⟩:=h;have hargs:args= #[px,py]:=by cases args;simp_all
     have htys:argTypes= #[t,t]:=by cases argTypes;simp_all
     subst hargs;subst htys
     split at h3
     ·rename_i e he
      simp only[aF,ba]at h3;obtain⟨⟨⟨⟨h4,h5⟩,h6⟩,h7⟩,h8⟩:=h3;have hu:=p8 he;obtain⟨it,hit,hsz⟩:=ql h4;have hby:it.bytes=bytes:=by
       unfold vm at h5;simp[hit]at h5;exact h5
      obtain⟨z,hz,hzc⟩:∃z,it.zero=some z/\z.cells.size=sz:=by
       simp only[hit,aQ]at h8;cases hq:it.zero with
       |none=>rw[hq]at h8;simp at h8
       |some z=>rw[hq]at h8;simp at h8;exact⟨z,rfl,h8⟩
      have D:∀(v:Value) (w':World),(Builtin.append_ #[t,t] ty #[a.eval px,a.eval py]).run P w= .ok v w'->
       (execOp a.eval ⟨dst,.call ⟨.builtin .append,#[px,py],#[t,t]⟩,ty,pos,after,guard⟩).run P w= .ok (.value v) w':=by
       intro v w' hr';simp[execOp,resolve,invoke,builtin,hr']
      simp only[aP]at hv;split at hv
      ·rename_i dx dy hx hy
       obtain⟨⟨rv,s1⟩,l,rfl⟩:=au.1 hv;have rx:=cX (bq (w:=w) hr h1 hx);have ry:=cX (bq (w:=w) hr h2 hy);generalize a.eval px=qx at rx D;generalize a.eval py=qy at ry D;unfold eO at l;split at l
       ·rename_i gx xs gy ys
        split at l
        ·rename_i hall0
         have R:∀y:DV,y∈ys->y.cells.length=sz/\∀v:DV,v∈y.cells->v.isCell=true:=by
          intro y hy;have:=bu.1 hall0 y hy;simp at this;exact this
         split at l
         ·
          rename_i hemp;simp at hemp;subst hemp
          simp at l;obtain⟨rfl,rfl⟩:=l;obtain⟨by',cy,hqy⟩:∃by' cy,qy= .slice by' 0 cy:=by cases ry<;>exact⟨_,_,rfl⟩
          obtain⟨bx',cx,hqx,hlc⟩:∃bx' cx,qx= .slice bx' xs.length cx/\xs.length<=cx:=by
           cases rx with
           |nil=>exact⟨_,_,rfl,aU _⟩
           |row _ _ ad c s U ht' hl=>exact⟨_,_,rfl,hl⟩
          have q:=D _ _ (by rw[hqx,hqy];exact Yj w t ty e it hu hit bx' xs.length cx hlc by' cy);rw[<-hqx]at q;exact⟨Does.still qx m hr hd q (.d _ _ rx),fun _ _ _=>rfl,fun gx' a2 gy' a1 _ O q3=>by rw[hy]at O;simp at O;exact absurd O.2 q3⟩
         ·rename_i hne0
          have Z:ys≠[]:=by simpa using hne0
          have hypos:0<ys.length:=v_.2 Z;split at l
          ·rename_i M
           obtain⟨ad,cy,news,rfl,Q,K,hn1,b2⟩:=source ry Z (fun y hy=>(R y hy).1);have hfly:=mM (xs:=ys) (fun y hy=>(R y hy).1);have hlim:xs.length+ys.length<=140737488355328:=cN (Nat.le_mul_of_pos_right _ h7) M;split at l
           ·
            simp at l;obtain⟨rfl,rfl⟩:=l;cases rx with
            |row _ _ _ _ _ _ ht'=>exact absurd rfl ht'
            |nil=>
             have F:ys.length*it.bytes<=140737488355328:=by simpa[hby]using M
             have q:=D _ _ (run_append_nil (P:=P) w t ty e it z hu hit hz ad ys.length cy news (by rw[hsz];exact Q) K hypos (by omega) (by omega));have X:=grownCap_ge w ys.length 0 e;have hle:=grownCap_le_maxLen w ys.length 0 e (by simp only[maxLen];omega);have N:∀(k:Nat) (v:DV),(flat ys)[k]?=some v->∃u,(news.toArray++Builtin.zeroCells z.cells (grownCap w ys.length 0 e-ys.length))[k]?=some u/\VR g w v u:=fun k v J=>by
              obtain⟨u,G,C⟩:=b2 k v J;have x2:k<news.length:=(aK.1 G).1;exact⟨u,by rw[ju (by simpa using x2)];simpa using G,C⟩
             obtain⟨g1,c1,b1,s1,e1,v1⟩:=uz m hfr ys sz (grownCap w ys.length 0 e) (news.toArray++Builtin.zeroCells z.cells (grownCap w ys.length 0 e-ys.length)) e
              (w.drew.alloc (.cells (news.toArray++Builtin.zeroCells z.cells (grownCap w ys.length 0 e-ys.length)) e)) rfl rfl rfl rfl X (fun h=>absurd h Z) hle
              (by simp only[mm,ir,size_zeroCells,hzc,Q,<-Nat.add_mul];congr 1;omega) R N (under (s.c+i) p) ⟨[],rfl⟩
             refine⟨⟨_,.slice (some ⟨w.heap.size,0,none⟩) ys.length (grownCap w ys.length 0 e),_,g1,q,.inl rfl,by rw[ge,db];exact c1,b1,by rw[db];exact s1,fm (s:={s with A:=_}) (hr.mono fid e1) (.d _ _ v1) hd⟩,fun i' b' W=> ?_,fun gx' a2 gy' a1 V O q3=>⟨_,_,_,rfl,fun k v J=> ?_⟩⟩
             ·have H:=m.lt W
              exact(Bf H).trans (kg H).symm
             ·rw[hx]at V;rw[hy]at O
              simp only[aB,AV.d.injEq,DV.sl.injEq]at V O;obtain⟨rfl,rfl⟩:=V;obtain⟨rfl,rfl⟩:=O;obtain⟨Y,G,C⟩:=N k v (by simpa using J);refine⟨Y,?_,C⟩;show(match (w.heap.push _)[w.heap.size]? with|some (.cells c _ _)=>if(⟨w.heap.size,k,none⟩:Addr).spot.isSome then none else c[k]?|_=>none)=some Y;rw[Cw];simpa using G
           ·
            rename_i a0 sz';split at l
            ·
             rename_i hxe;have hxe':xs=[]:=by simpa using hxe
             subst hxe';simp at l;obtain⟨rfl,rfl⟩:=l;cases rx with
             |row _ _ I c sx U ht' hl hm S hK hcs hvs x1=>
              obtain⟨o1,o2,rfl,o4,o5⟩:=x1 a0 _ rfl;have hc0:c=0:=o5 rfl;subst hc0;have F:(([]:List DV).length+ys.length)*it.bytes<=140737488355328:=by rw[hby];exact M
              have q:=D _ _ (run_append_grow (P:=P) w t ty e it z hu hit hz I ([]:List DV).length 0 [] (by simp) (by simp) ad ys.length cy news (by rw[hsz];exact Q) K (by omega) (by simp;omega) (growslice_fits (by simp;omega) F));have X:=grownCap_ge w (([]:List DV).length+ys.length) 0 e;have hle:=grownCap_le_maxLen w (([]:List DV).length+ys.length) 0 e (by simp only[maxLen,h_];omega);simp only[h_,eQ]at q X hle;have N:∀(k:Nat) (v:DV),(flat ys)[k]?=some v->∃u,(([]:List Value).toArray++news.toArray++Builtin.zeroCells z.cells (grownCap w ys.length 0 e-ys.length))[k]?=some u/\VR g w v u:=fun k v J=>by
               obtain⟨u,G,C⟩:=b2 k v J;have x2:k<news.length:=(aK.1 G).1;exact⟨u,by rw[show([]:List Value).toArray= #[]from rfl,Array.empty_append,ju (by simpa using x2)];simpa using G,C⟩
              obtain⟨g1,c1,b1,s1,e1,v1⟩:=uz m hfr ys sz (grownCap w ys.length 0 e)
               (([]:List Value).toArray++news.toArray++Builtin.zeroCells z.cells (grownCap w ys.length 0 e-ys.length)) e
               (w.drew.alloc (.cells (([]:List Value).toArray++news.toArray++Builtin.zeroCells z.cells (grownCap w ys.length 0 e-ys.length)) e)) rfl rfl rfl rfl X (fun h=>absurd h Z) hle
               (by simp only[mm,ir,size_zeroCells,hzc,Q,h_,eQ,<-Nat.add_mul];congr 1;omega) R N (under (s.c+i) p) ⟨[],rfl⟩
              refine⟨⟨_,.slice (some ⟨w.heap.size,0,none⟩) ys.length (grownCap w ys.length 0 e),_,g1,q,.inl rfl,by rw[ge,db];exact c1,b1,by rw[db];exact s1,fm (s:={s with A:=_}) (hr.mono fid e1) (.d _ _ v1) hd⟩,fun i' b' W=> ?_,fun gx' a2 gy' a1 V O q3=>⟨_,_,_,rfl,fun k v J=> ?_⟩⟩
              ·have H:=m.lt W
               exact(Bf H).trans (kg H).symm
              ·rw[hx]at V;rw[hy]at O
               simp only[aB,AV.d.injEq,DV.sl.injEq]at V O;obtain⟨rfl,rfl⟩:=V;obtain⟨rfl,rfl⟩:=O;obtain⟨Y,G,C⟩:=N k v (by simpa using J);refine⟨Y,?_,C⟩;show(match (w.heap.push _)[w.heap.size]? with|some (.cells c _ _)=>if(⟨w.heap.size,k,none⟩:Addr).spot.isSome then none else c[k]?|_=>none)=some Y;rw[Cw];simpa using G
            split at l
            ·rename_i hown0
             obtain⟨rfl,ha0⟩:=hown0;simp at l;obtain⟨rfl,rfl⟩:=l;cases rx with
             |row _ _ I c sx U ht' hl hm S hK hcs hvs x1=>
              obtain⟨o1,o2,rfl,o4,_⟩:=x1 a0 _ rfl;obtain⟨bb,n,c',sz2,arr,e',p1,p2,p3,p4,p5,p6⟩:=m.opn a0 ha0;rw[o4]at p1;simp at p1;obtain⟨rfl,rfl,rfl,rfl⟩:=p1;obtain⟨hflx,hfvx⟩:=EX hcs hvs;have hadx:I=⟨I.block,0,none⟩:=by cases I;simp_all
              have x3:∀k,k<xs.length*sx->arr[k]?=some (U k):=by
               intro k J;have G:=S k J;rw[hadx]at G;have:=lm I.block k;rw[this]at G;simpa[World.cell?,p2]using G
              have hxl:(xs++ys).length=xs.length+ys.length:=by simp
              have hel:∀x:DV,x∈xs++ys->x.cells.length=sx/\∀v:DV,v∈x.cells->v.isCell=true:=by
               intro x hx;rcases bl.1 hx with G|G
               ·obtain⟨j,hj⟩:=c9.1 G
                exact hcs j x hj
               ·exact R x G
              by_cases hroom:xs.length+ys.length<=c
              ·have hfit:xs.length*it.size+news.length<=arr.size:=by
                rw[hsz,Q,<-Nat.add_mul];exact cN (fb _ hroom) p3
               have q:=D _ _ (by rw[hadx];exact Ym w t ty e e' it hu hit I.block xs.length c arr p2 ad ys.length cy news (by rw[hsz];exact Q) K hn1 hroom hfit);have hsp:(arr.toList.take (xs.length*it.size)++news++arr.toList.drop (xs.length*it.size+news.length))=splice arr.toList (xs.length*sx) news:=by rw[hsz];rfl
               rw[hsp]at q;have N:∀(k:Nat) (v:DV),(flat (xs++ys))[k]?=some v->∃u,(splice arr.toList (xs.length*sx) news)[k]?=some u/\VR g w v u:=fun k v J=>by
                rw[Io]at J;have hfit':xs.length*sx+news.length<=arr.toList.length:=by rw[<-hsz];exact hfit
                rw[jU _ _ _ hfit']
                by_cases hkx:k<xs.length*sx
                ·rw[bY (by omega)]at J
                 rw[ak (by omega)];exact⟨U k,by simpa using x3 k hkx,(hfvx k v J).2.2⟩
                ·rw[cj (by omega),hflx]at J
                 obtain⟨u,G,C⟩:=b2 _ v J;have x2:k-xs.length*sx<news.length:=(aK.1 G).1;rw[ap (by omega)];exact⟨u,G,C⟩
               obtain⟨g1,c1,b1,s1,e1,v1⟩:=Xr m hfr ha0 o4 p2 p3 p4 p6 news Q hroom hm (xs++ys) hxl (fun h=>absurd (uZ.1 h).2 Z) hel N (under (s.c+i) p) ⟨[],rfl⟩;rw[hxl]at v1;refine⟨⟨_,.slice (some ⟨I.block,0,none⟩) (xs.length+ys.length) c,_,g1,q,.inl rfl,by rw[ge,db];exact c1,b1,by rw[db];exact s1,fm (s:={s with A:=_}) (hr.mono fid e1) (.d _ _ v1) hd⟩,fun i' b' W=> ?_,fun gx' a2 gy' a1 V O q3=>⟨_,_,_,rfl,fun k v J=> ?_⟩⟩
               ·exact setRow_other w I.block b' _ (fun he=>p6 i' (by rw[<-he];exact W))
               ·rw[hx]at V;rw[hy]at O
                simp only[aB,AV.d.injEq,DV.sl.injEq]at V O;obtain⟨rfl,rfl⟩:=V;obtain⟨rfl,rfl⟩:=O;obtain⟨Y,G,C⟩:=N k v (by simpa using J);refine⟨Y,?_,C⟩;simp only[World.cell?,setRow_heap w I.block arr _ e' (0,0) p2];simpa using G
              ·have holds:∀(j:Nat) (v:Value),((List.range (xs.length*sx)).map U)[j]?=some v->w.cell? (I.add j)=some v:=by
                intro j v hj;simp only[cH]at hj;obtain⟨j',h1,rfl⟩:=au.1 hj;obtain⟨h3,h4⟩:=aK.1 h1;simp at h3 h4;subst h4;exact S _ h3
               have F:(xs.length+ys.length)*it.bytes<=140737488355328:=by rw[hby];exact M
               have q:=D _ _ (run_append_grow (P:=P) w t ty e it z hu hit hz I xs.length c ((List.range (xs.length*sx)).map U) (by simp[hsz]) holds ad ys.length cy news (by rw[hsz];exact Q) K (by omega) (by omega) (growslice_fits (by omega) F));have X:=grownCap_ge w (xs.length+ys.length) c e;have hle:=grownCap_le_maxLen w (xs.length+ys.length) c e (by simp only[maxLen];omega);have N:∀(k:Nat) (v:DV),(flat (xs++ys))[k]?=some v->∃u,(((List.range (xs.length*sx)).map U).toArray++news.toArray++Builtin.zeroCells z.cells (grownCap w (xs.length+ys.length) c e-(xs.length+ys.length)))[k]?=some u/\VR g w v u:=fun k v J=>by
                rw[Io]at J
                by_cases hkx:k<xs.length*sx
                ·rw[bY (by omega)]at J
                 refine⟨U k,?_,(hfvx k v J).2.2⟩;rw[A3,ju (by simp[hkx])];simp[hkx]
                ·rw[cj (by omega),hflx]at J
                 obtain⟨u,G,C⟩:=b2 _ v J;have x2:k-xs.length*sx<news.length:=(aK.1 G).1;refine⟨u,?_,C⟩;rw[A3,Kq (by simp;omega),ju (by simp;omega)];simpa using G
               obtain⟨g1,c1,b1,s1,e1,v1⟩:=uz m hfr (xs++ys) sx (grownCap w (xs.length+ys.length) c e)
                (((List.range (xs.length*sx)).map U).toArray++news.toArray++Builtin.zeroCells z.cells (grownCap w (xs.length+ys.length) c e-(xs.length+ys.length))) e
                (w.drew.alloc (.cells (((List.range (xs.length*sx)).map U).toArray++news.toArray++Builtin.zeroCells z.cells (grownCap w (xs.length+ys.length) c e-(xs.length+ys.length))) e)) rfl rfl rfl rfl (by rw[hxl];exact X) (fun h=>absurd (uZ.1 h).2 Z) hle
                (by simp only[mm,ir,dK,Ci,size_zeroCells,hzc,Q,<-Nat.add_mul];congr 1;omega) hel
                N (under (s.c+i) p) ⟨[],rfl⟩
               rw[hxl]at v1;have hsub:∀x,Ids.add ((s.c+i)::p) (Ids.del a0 s.A) x=true->Ids.add ((s.c+i)::p) s.A x=true:=by
                intro x hx;simp[Ids.add,Ids.del]at hx⊢
                rcases hx with h|h
                ·exact .inl h
                ·exact .inr h.2
               refine⟨⟨_,.slice (some ⟨w.heap.size,0,none⟩) (xs.length+ys.length) (grownCap w (xs.length+ys.length) c e),_,g1,q,.inl rfl,by rw[ge,db];exact c1.sub hsub,b1,by rw[db];exact s1.sub hsub,fm (s:={s with A:=_}) (hr.mono fid e1) (.d _ _ v1) hd⟩,fun i' b' W=> ?_,fun gx' a2 gy' a1 V O q3=>⟨_,_,_,rfl,fun k v J=> ?_⟩⟩
               ·have H:=m.lt W
                exact(Bf H).trans (kg H).symm
               ·rw[hx]at V;rw[hy]at O
                simp only[aB,AV.d.injEq,DV.sl.injEq]at V O;obtain⟨rfl,rfl⟩:=V;obtain⟨rfl,rfl⟩:=O;obtain⟨Y,G,C⟩:=N k v (by simpa using J);refine⟨Y,?_,C⟩;show(match (w.heap.push _)[w.heap.size]? with|some (.cells c _ _)=>if(⟨w.heap.size,k,none⟩:Addr).spot.isSome then none else c[k]?|_=>none)=some Y;rw[Cw];simpa using G
            ·simp at l
           ·simp at l
          ·simp at l
        ·simp at l
       ·simp at l
      ·simp at hv
     ·simp at h3
    ·simp at h
   |_=>simp[aC]at h
  |_=>simp[aC]at h
 |_=>simp[aC]at h
theorem Pl(b:Core fid g w s.B s.A)(k:qcY fid g w s.r a.tmps)(hd:∀d,o.dst=some d->d<a.tmps.size){sz bytes:Nat}{x y:VX}(h:aC P fid o.op (.append sz bytes x y)=true)
 {gd:Option (Nat×Bool)} {af:List Nat} (j:aP call p draw L0 i ⟨o.dst,.append sz bytes x y,gd,af⟩ s=some s') (e:g.row ((s.c+i)::p)=none):Nonempty (Does P fid (under (s.c+i) p) g w a o s s'):=by
 obtain⟨d,_,_⟩:=HQ b k hd h j e;exact⟨d⟩
end
end
section
variable {P:Program} {fid:Nat->FuncId} {g:Gh} {w:World}
def from_(p:Id)(k:Nat)(a:Id):Prop:=∃q j,k<=j/\a=q++j::p
def fu(g:Gh)(p:Id)(k:Nat):Prop:=∀q j,k<=j->g.row (q++j::p)=none
def lI(P:Program)(f:FuncId):Prop:=∃fn,P.funcs[f]?=some fn/\(fn.name== "runtime.NumGoroutine")=false/\fn.body.isNone=false
structure Post(fid:Nat->FuncId)(N:Id->Prop)(g:Gh)(w:World)(A:Ids)(r:Res)(u:Value)(g':Gh)(w':World):Prop where
 val:AVR fid g' w' r.v u
 core:Core fid g' w' r.B r.A
 boxes:Boxes g w g'
 step:Step N g w A g' w' r.A
def gm(P:Program)(fid:Nat->FuncId)(call:aZ):Prop:=
 ∀p f args B A r,call p f args B A=some r->lI P (fid f)/\∀g w (us:Array Value),us.size=args.length->(∀(j:Nat) (v:AV) (u:Value),args[j]?=some v->us[j]?=some u->AVR fid g w v u)->
  Core fid g w B A->fu g p 0->Calls P (fid f) us w fun e w'=>∃u g',e= .returned u/\Post fid (from_ p 0) g w A r u g' w'
def Gh.cutB(m:Nat)(g:Gh):Gh:={g with bx:=fun i=>if i<m then g.bx i else none}
mutual
theorem xZ{m n:Nat}(h:m<=n):∀(v:AV),v.safe m=true->v.safe n=true
 | .d _,_=>by unfold AV.safe;rfl
 | .ep _,_=>by unfold AV.safe;rfl
 | .nilp,_=>by unfold AV.safe;rfl
 | .und,_=>by unfold AV.safe;rfl
 | .ptr i _,hs=>by unfold AV.safe at hs⊢;simp at hs⊢;omega
 | .bsl _ _ i _ _,hs=>by unfold AV.safe at hs⊢;simp at hs⊢;omega
 | .tsl _ i _ _,hs=>by unfold AV.safe at hs⊢;simp at hs⊢;omega
 | .fn _ cap,hs=>by
  unfold AV.safe at hs⊢
  exact Az h cap hs
 | .ag _ cap,hs=>by
  unfold AV.safe at hs⊢
  exact Az h cap hs
theorem Az{m n:Nat}(h:m<=n):∀(l:List AV),AV.safe.safes m l=true->AV.safe.safes n l=true
 | [],_=>by unfold AV.safe.safes;rfl
 |a::r,hs=>by
  unfold AV.safe.safes at hs⊢
  simp only[aF]at hs⊢
  exact⟨xZ h a hs.1,Az h r hs.2⟩
end
theorem uT{m:Nat}:∀{l:List AV},AV.safe.safes m l=true->∀v:AV,v∈l->v.safe m=true
 | [],_,v,h=>by simp at h
 |a::r,hs,v,h=>by
  unfold AV.safe.safes at hs;simp only[aF]at hs;rcases br.1 h with rfl|h
  ·exact hs.1
  ·exact uT hs.2 v h
theorem AVR.cutB{m:Nat}{v:AV}{u:Value}(h:AVR fid g w v u)(hs:v.safe m=true):AVR fid (g.cutB m) w v u:=by
 have q:ExtV g w (g.cutB m) w:=⟨fun _=>aU _,fun _ _=>rfl,fun _ _ h=>h⟩
 induction h with
 |d v u h=>exact .d v u (h.mono q)
 |ptr i off b h=>unfold AV.safe at hs;simp at hs;exact .ptr i off b (by simp[Gh.cutB,hs,h])
 |ep cs ad U l r h=>exact .ep cs ad U l r fun j v hj=>⟨(h j v hj).1,(h j v hj).2.1,(h j v hj).2.2.mono q⟩
 |nilp=>exact .nilp
 |fn f cap us hsz _ k=>
  unfold AV.safe at hs;exact .fn f cap us hsz fun j v u h1 e=>k j v u h1 e (uT hs v (bU h1))
 |bsl id ag i sz n b h=>unfold AV.safe at hs;simp at hs;exact .bsl id ag i sz n b (by simp[Gh.cutB,hs,h])
 |tsl ag i sz n c b h h1 e=>unfold AV.safe at hs;simp at hs;exact .tsl ag i sz n c b (by simp[Gh.cutB,hs,h]) h1 e
 |ag cap us hsz _ k=>
  unfold AV.safe at hs;exact .ag cap us hsz fun j v u h1 e=>k j v u h1 e (uT hs v (bU h1))
 |tp cap us hsz _ k=>
  unfold AV.safe at hs;exact .tp cap us hsz fun j v u h1 e=>k j v u h1 e (uT hs v (bU h1))
 |und=>exact .und
theorem iM{m i b:Nat}(h:(g.cutB m).bx i=some b):i<m/\g.bx i=some b:=by
 simp only[Gh.cutB]at h;split at h
 ·exact⟨by assumption,h⟩
 ·simp at h
theorem Core.cutB{B:ah}{A:Ids}(hc:Core fid g w B A)(m:Nat):Core fid (g.cutB m) w (B.take m) A:=by
 refine⟨fun i b h=> ?_,fun i j b h1 d=>hc.inj i j b (iM h1).2 (iM d).2,fun a ha=> ?_,hc.apart,hc.K0⟩
 ·obtain⟨hi,h⟩:=iM h
  obtain⟨cs,arr,e,h1,d,F,C,l,y⟩:=hc.box i b h;exact⟨cs,arr,e,by rw[ew,ap hi];exact h1,d,F,fun j v u k t=>(C j v u k t).cutB (xZ (xA hi) v (l v (bU k)).2),l,y⟩
 ·obtain⟨b,n,c,sz,arr,e,q,D,z,r,G,x⟩:=hc.opn a ha
  exact⟨b,n,c,sz,arr,e,q,D,z,r,G,fun i h=>x i (iM h).2⟩
theorem Core.more{B B':ah}{A:Ids}(hc:Core fid g w B A)(h:∀(i:Nat) (cs:List AV),B[i]?=some (some cs)->B'[i]?=some (some cs)):Core fid g w B' A:=
 ⟨fun i b hb=>by
  obtain⟨cs,arr,e,h1,c⟩:=hc.box i b hb;exact⟨cs,arr,e,h i cs h1,c⟩,hc.inj,hc.opn,hc.apart,hc.K0⟩
theorem I4{B:ah}{A:Ids}(hc:Core fid g w B A){N:Id->Prop}{r:Res}{u:Value}{g':Gh}{w':World}{v:DV}(hv:r.v= .d v)
 (G:Post fid N (g.cutB 0) w Ids.none r u g' w'):
 ∃g2,Core fid g2 w' B (Ids.or r.A A)/\Boxes g w g2/\Step N g w A g2 w' (Ids.or r.A A)/\Ext g w g2 w'/\AVR fid g2 w' (.d v) u:=by
 have k:=G.step;have m:∀b,b<w.heap.size->w'.heap[b]?=w.heap[b]?/\g'.K b=g.K b:=fun b hb=>k.keep b hb (fun i h=>by have:=(iM h).1;omega) (fun a ha=>by simp[Ids.none]at ha)
 have W:ExtV g w {K:=g'.K,row:=g'.row,bx:=g.bx} w':=⟨k.ext.K,k.ext.cell,k.ext.row⟩;have z:Ext g w {K:=g'.K,row:=g'.row,bx:=g.bx} w':=⟨W,fun _ _ h=>h⟩;have q:∀a b,r.A a=true->g'.blk a=some b->w.heap.size<=b:=fun a b ha hb=>by
  rcases k.org a b ha hb with h|⟨a0,h,_⟩
  ·exact h
  ·simp[Ids.none]at h
 have hold:∀a,A a=true->∃b x,g.row a=some (b,x)/\g'.row a=some (b,x)/\b<w.heap.size:=fun a ha=>by
  obtain⟨b,n,c,sz,arr,e,C,D,_⟩:=hc.opn a ha;exact⟨b,_,C,k.ext.row a _ C,(dD.1 D).1⟩
 refine⟨{K:=g'.K,row:=g'.row,bx:=g.bx},⟨fun i b h=> ?_,hc.inj,fun a ha=> ?_,fun a a' b x x' ha l hb y=> ?_,G.core.K0⟩,⟨fun _ _ h=>h,fun _ _ h=> .inl h⟩,⟨k.os,k.tape,k.output,k.size,W,fun b hb _ _=>m b hb,k.new,fun a b ha hb=> ?_,k.arr⟩,z,?_⟩
 ·obtain⟨cs,arr,e,h1,t,H,R,I,X⟩:=hc.box i b h
  have F:=m b (hc.lt h);exact⟨cs,arr,e,h1,by rw[F.1];exact t,H,fun j v u Y Z=>(R j v u Y Z).mono fid z,I,by rw[<-X];exact F.2⟩
 ·simp only[Ids.or,ci]at ha
  rcases ha with ha|ha
  ·obtain⟨b,n,c,sz,arr,e,C,D,Q,M,S,V⟩:=G.core.opn a ha
   refine⟨b,n,c,sz,arr,e,C,D,Q,M,S,fun i h=> ?_⟩;have:=hc.lt h;have:=q a b ha (by simp[Gh.blk,C]);omega
  ·obtain⟨b,n,c,sz,arr,e,C,D,Q,M,S,V⟩:=hc.opn a ha
   have F:=m b (dD.1 D).1;exact⟨b,n,c,sz,arr,e,k.ext.row a _ C,by rw[F.1];exact D,Q,by rw[<-M];exact F.2,S,V⟩
 ·simp only[Ids.or,ci]at ha l
  simp only at hb y;rcases ha with ha|ha<;>rcases l with l|l
  ·exact G.core.apart a a' b x x' ha l hb y
  ·obtain⟨O,J,h1,t,H⟩:=hold a' l
   rw[y]at t;simp at t;have:=q a b ha (by simp[Gh.blk,hb]);omega
  ·obtain⟨O,J,h1,t,H⟩:=hold a ha
   rw[hb]at t;simp at t;have:=q a' b l (by simp[Gh.blk,y]);omega
  ·obtain⟨O,J,h1,t,H⟩:=hold a ha
   obtain⟨b3,x3,R,I,X⟩:=hold a' l;rw[hb]at t;rw[y]at I
   simp only[aB,di]at t I;refine hc.apart a a' b J x3 ha l (by rw[h1,t.1]) (by rw[R,I.1])
 ·simp only[Ids.or,ci]at ha
  rcases ha with ha|ha
  ·exact .inl (q a b ha hb)
  ·obtain⟨O,J,h1,t,H⟩:=hold a ha
   simp only[Gh.blk,t]at hb;exact .inr ⟨a,ha,by simpa[Gh.blk,h1]using hb⟩
 ·have:=G.val
  rw[hv]at this;cases this with
  |d _ _ h=>
   have e:ExtV g' w' {K:=g'.K,row:=g'.row,bx:=g.bx} w':=⟨fun _=>aU _,fun _ _=>rfl,fun _ _ h=>h⟩;exact .d _ _ (h.mono e)
end
section
variable {P:Program} {fid:Nat->FuncId}
theorem vQ{f:AV->Option DV}:∀{cs:List AV} {ds:List DV},cp f cs=some ds->ds.length=cs.length/\∀(j:Nat) (d:DV),ds[j]?=some d->∃v,cs[j]?=some v/\f v=some d
 | [],ds,h=>by simp[cp]at h;subst h;exact⟨rfl,fun j d h=>by simp at h⟩
 |v::r,ds,h=>by
  simp only[cp]at h;obtain⟨d,h1,c⟩:=aw.1 h;obtain⟨e,k,rfl⟩:=au.1 c;obtain⟨b,l⟩:=vQ k;refine⟨by simp[b],fun j m hj=> ?_⟩;cases j with
  |zero=>simp at hj;subst hj;exact⟨v,rfl,h1⟩
  |succ j=>simp at hj;exact l j m hj
theorem Mt{B:ah}:∀{n:Nat} {v:AV} {d:DV},v.frzC B n=some d->v.isCell=true->d.isCell=true
 |0,.d _,d,h,hc=>by simp only[AV.frzC,aB]at h;subst h;exact hc
 |n+1,.d _,d,h,hc=>by simp only[AV.frzC,aB]at h;subst h;exact hc
 |n+1,.tsl _ _ _ _,d,h,hc=>by
  simp only[AV.frzC]at h;obtain⟨cs,h1,c⟩:=aw.1 h;obtain⟨ds,e,b⟩:=aw.1 c;split at b
  ·obtain⟨xs,_,rfl⟩:=au.1 b;rfl
  ·simp at b
 |0,.tsl _ _ _ _,d,h,_=>by simp[AV.frzC]at h
 |n,.ptr _ _,d,h,_=>by cases n<;>simp[AV.frzC]at h
 |n,.ep _,d,h,_=>by cases n<;>simp[AV.frzC]at h
 |n,.nilp,d,h,_=>by cases n<;>simp[AV.frzC]at h
 |n,.fn _ _,d,h,_=>by cases n<;>simp[AV.frzC]at h
 |n,.bsl _ _ _ _ _,d,h,_=>by cases n<;>simp[AV.frzC]at h
 |n,.ag _ _,d,h,_=>by cases n<;>simp[AV.frzC]at h
 |n,.und,d,h,_=>by cases n<;>simp[AV.frzC]at h
theorem w9{agg:Bool}{sz:Nat}:∀{n:Nat} {cs xs:List DV},(∀v:DV,v∈cs->v.isCell=true)->chunks agg sz n cs=some xs->xs.length=n/\
 ∀(i:Nat) (x:DV),xs[i]?=some x->x.cells.length=sz/\(∀v:DV,v∈x.cells->v.isCell=true)/\∀(j:Nat) (v:DV),x.cells[j]?=some v->cs[i*sz+j]?=some v
 |0,cs,xs,_,h=>by
  simp[chunks]at h;subst h
  exact⟨rfl,fun i x h=>by simp at h⟩
 |n+1,cs,xs,hc,h=>by
  simp only[chunks]at h;obtain⟨v,h1,d⟩:=aw.1 h;split at d
  ·rename_i e
   obtain⟨r,z,rfl⟩:=au.1 d;obtain⟨t,y⟩:=w9 (fun v m=>hc v (pR m)) z;refine⟨by simp[t],fun i x hx=> ?_⟩;cases i with
   |zero=>
    simp at hx;subst hx
    refine⟨e.1,fun v' c=>bu.1 e.2 v' c,fun j u hj=> ?_⟩;unfold cut at h1;split at h1
    ·split at h1
     ·simp at h1;subst h1
      simp[DV.cells,ew]at hj;simpa using hj.2
     ·simp at h1
    ·have b:=hc v (bU h1)
     have hcs:v.cells=[v]:=by cases v<;>simp_all[DV.cells,DV.isCell]
     rw[hcs]at hj;cases j with
     |zero=>simp at hj;subst hj;simpa using h1
     |succ j=>simp at hj
   |succ i=>
    simp at hx;obtain⟨q,k,l⟩:=y i x hx;refine⟨q,k,fun j u hj=> ?_⟩;have:=l j u hj;rw[gk]at this;rw[show(i+1)*sz+j=sz+(i*sz+j)by rw[Nat.succ_mul];omega];exact this
  ·simp at d
end
section
variable {P:Program} {fid:Nat->FuncId}
section
variable {g g2:Gh} {w:World} {A:Ids}
end
end
section
variable {P:Program} {fid:Nat->FuncId}
noncomputable def Gh.back(g g':Gh)(w:World)(L:Nat)(l:List Id):Gh:=
 {K:=fun b=>open Classical in if b<w.heap.size then g.K b else if∃a,a∈l/\g'.blk a=some b then 0 else g'.K b
  row:=g'.row
  bx:=fun i=>if i<L then g.bx i else(l[i-L]?).bind g'.blk}
section
variable {g g2:Gh} {w:World} {A:Ids}
end
end
section
variable {P:Program} {fid:Nat->FuncId} {g:Gh} {w:World}
theorem Ha{B:ah}{A:Ids}(hc:Core fid g w B A){N:Id->Prop}{r:Res}{u:Value}{g':Gh}{w':World}(t:Post fid N g w Ids.none r u g' w'):
 Post fid N g w A ⟨r.v,Ids.or r.A A,r.B⟩ u g' w':=by
 have d:=t.step;have m:∀b,b<w.heap.size->(∀i,g.bx i≠some b)->w'.heap[b]?=w.heap[b]?/\g'.K b=g.K b:=fun b hb hn=>d.keep b hb hn (fun a ha=>by simp[Ids.none]at ha)
 have k:∀a b,r.A a=true->g'.blk a=some b->w.heap.size<=b:=fun a b ha hb=>by
  rcases d.org a b ha hb with h|⟨a0,h,_⟩
  ·exact h
  ·simp[Ids.none]at h
 have hold:∀a,A a=true->∃b x,g.row a=some (b,x)/\g'.row a=some (b,x)/\b<w.heap.size:=fun a ha=>by
  obtain⟨b,n,c,sz,arr,e,y,z,_⟩:=hc.opn a ha;exact⟨b,_,y,d.ext.row a _ y,(dD.1 z).1⟩
 refine⟨t.val,⟨t.core.box,t.core.inj,fun a ha=> ?_,fun a a' b x x' ha j hb q=> ?_,t.core.K0⟩,t.boxes,⟨d.os,d.tape,d.output,d.size,d.ext,fun b hb hn _=>m b hb hn,d.new,fun a b ha hb=> ?_,d.arr⟩⟩
 ·simp only[Ids.or,ci]at ha
  rcases ha with ha|ha
  ·exact t.core.opn a ha
  ·obtain⟨b,n,c,sz,arr,e,y,z,Q,M,S,J⟩:=hc.opn a ha
   have F:=(dD.1 z).1;have I:=m b F J;refine⟨b,n,c,sz,arr,e,d.ext.row a _ y,by rw[I.1];exact z,Q,by rw[<-M];exact I.2,S,fun i h=> ?_⟩;rcases t.boxes.new i b h with h1|h1
   ·exact J i h1
   ·omega
 ·simp only[Ids.or,ci]at ha j
  rcases ha with ha|ha<;>rcases j with j|j
  ·exact t.core.apart a a' b x x' ha j hb q
  ·obtain⟨D,C,h1,l,G⟩:=hold a' j
   rw[q]at l;simp at l;have:=k a b ha (by simp[Gh.blk,hb]);omega
  ·obtain⟨D,C,h1,l,G⟩:=hold a ha
   rw[hb]at l;simp at l;have:=k a' b j (by simp[Gh.blk,q]);omega
  ·obtain⟨D,C,h1,l,G⟩:=hold a ha
   obtain⟨b3,O,R,H,V⟩:=hold a' j;rw[hb]at l;rw[q]at H
   simp only[aB,di]at l H;exact hc.apart a a' b C O ha j (by rw[h1,l.1]) (by rw[R,H.1])
 ·simp only[Ids.or,ci]at ha
  rcases ha with ha|ha
  ·exact .inl (k a b ha hb)
  ·obtain⟨D,C,h1,l,G⟩:=hold a ha
   simp only[Gh.blk,l]at hb;exact .inr ⟨a,ha,by simpa[Gh.blk,h1]using hb⟩
def Gh.solo(i:Nat)(g:Gh):Gh:={g with bx:=fun j=>if j=0 then g.bx i else none}
theorem vP{i j b:Nat}(h:(g.solo i).bx j=some b):j=0/\g.bx i=some b:=by
 simp only[Gh.solo]at h;split at h
 ·rename_i hj;exact⟨hj,h⟩
 ·simp at h
theorem Vb{B:ah}{A:Ids}(hc:Core fid g w B A){i:Nat}{cs:List AV}{es:List DV}(hcs:aI B i=some cs)(hd:aM cs=some es):Core fid (g.solo i) w [some cs] Ids.none:=by
 have q:ExtV g w (g.solo i) w:=⟨fun _=>aU _,fun _ _=>rfl,fun _ _ h=>h⟩;refine⟨fun j b h=> ?_,fun j k b h1 n=>by rw[(vP h1).1,(vP n).1],fun a ha=>by simp[Ids.none]at ha,fun a a' b x x' ha=>by simp[Ids.none]at ha,hc.K0⟩;obtain⟨rfl,h⟩:=vP h;obtain⟨cs',arr,e,h1,n,z,t,y,r⟩:=hc.box i b h;have:cs'=cs:=by have:=iS.1 hcs;rw[h1]at this;simpa using this
 subst this;have c:=ft hd;refine⟨cs',arr,e,rfl,n,z,fun j v u l D=> ?_,fun v m=>⟨(y v m).1,?_⟩,r⟩
 ·have C:=t j v u l D
  rw[c]at l;simp only[cH]at l;obtain⟨d,_,rfl⟩:=au.1 l;exact AVR.data fid q C
 ·rw[c]at m
  obtain⟨d,_,rfl⟩:=bP.1 m;exact a_ _ _
theorem Om{B:ah}{A:Ids}(hc:Core fid g w B A){i R:Nat}{cs cs':List AV}{es es':List DV}(hi:g.bx i=some R)(hcs:aI B i=some cs)(hd:aM cs=some es)(Y:aM cs'=some es')
 {N:Id->Prop} {v:DV} {A1:Ids} {u:Value} {g':Gh} {w':World} (G:Post fid N (g.solo i) w Ids.none ⟨.d v,A1,[some cs']⟩ u g' w'):
 ∃g2,Core fid g2 w' (B.set i (some cs')) (Ids.or A1 A)/\Boxes g w g2/\Step N g w A g2 w' (Ids.or A1 A)/\Ext g w g2 w'/\AVR fid g2 w' (.d v) u:=by
 have l:=G.step;have r:∀b,b<w.heap.size->b≠R->w'.heap[b]?=w.heap[b]?/\g'.K b=g.K b:=fun b hb x1=>l.keep b hb (fun j h=>by have:=(vP h).2;rw[hi]at this;simp at this;exact x1 this.symm) (fun a ha=>by simp[Ids.none]at ha)
 have hE:ExtV g w {K:=g'.K,row:=g'.row,bx:=g.bx} w':=⟨l.ext.K,l.ext.cell,l.ext.row⟩;have S:ExtV g' w' {K:=g'.K,row:=g'.row,bx:=g.bx} w':=⟨fun _=>aU _,fun _ _=>rfl,fun _ _ h=>h⟩;have z:Ext g w {K:=g'.K,row:=g'.row,bx:=g.bx} w':=⟨hE,fun _ _ h=>h⟩;have a2:i<B.length:=(aK.1 (iS.1 hcs)).1;have t:∀a b,A1 a=true->g'.blk a=some b->w.heap.size<=b:=fun a b ha hb=>by
  rcases l.org a b ha hb with h|⟨a0,h,_⟩
  ·exact h
  ·simp[Ids.none]at h
 have hold:∀a,A a=true->∃b x,g.row a=some (b,x)/\g'.row a=some (b,x)/\b<w.heap.size:=fun a ha=>by
  obtain⟨b,n,c,sz,arr,e,C,J,_⟩:=hc.opn a ha;exact⟨b,_,C,l.ext.row a _ C,(dD.1 J).1⟩
 have a1:g'.bx 0=some R:=G.boxes.old 0 R (by simp[Gh.solo,hi]);refine⟨{K:=g'.K,row:=g'.row,bx:=g.bx},⟨fun j b h=> ?_,hc.inj,fun a ha=> ?_,fun a a' b x x' ha m hb y=> ?_,G.core.K0⟩,⟨fun _ _ h=>h,fun _ _ h=> .inl h⟩,⟨l.os,l.tape,l.output,l.size,hE,fun b hb hn _=>r b hb (fun he=>hn i (by rw[he];exact hi)),l.new,fun a b ha hb=> ?_,l.arr⟩,z,?_⟩
 ·by_cases D:j=i
  ·subst D
   have:b=R:=by rw[hi]at h;simpa using h.symm
   subst this;obtain⟨Q,arr,e,h1,q,H,V,F,W⟩:=G.core.box 0 b a1;simp only[d9,aB]at h1;subst h1;have O:=ft Y;refine⟨cs',arr,e,by rw[hI a2],q,H,fun k v u I h8=> ?_,fun v hv=>⟨(F v hv).1,?_⟩,W⟩
   ·have h9:=V k v u I h8
    rw[O]at I;simp only[cH]at I;obtain⟨d,_,rfl⟩:=au.1 I;exact AVR.data fid S h9
   ·rw[O]at hv
    obtain⟨d,_,rfl⟩:=bP.1 hv;exact a_ _ _
  ·obtain⟨Q,arr,e,h1,q,H,V,F,W⟩:=hc.box j b h
   have M:=r b (hc.lt h) (fun he=>D (hc.inj j i b h (by rw[he];exact hi)));exact⟨Q,arr,e,by rw[dh (Ne.symm D)];exact h1,by rw[M.1];exact q,H,fun k v u I h8=>(V k v u I h8).mono fid z,F,by rw[<-W];exact M.2⟩
 ·simp only[Ids.or,ci]at ha
  rcases ha with ha|ha
  ·obtain⟨b,n,c,sz,arr,e,C,J,o3,Z,o5,o6⟩:=G.core.opn a ha
   refine⟨b,n,c,sz,arr,e,C,J,o3,Z,o5,fun j h=> ?_⟩;have:=hc.lt h;have:=t a b ha (by simp[Gh.blk,C]);omega
  ·obtain⟨b,n,c,sz,arr,e,C,J,o3,Z,o5,o6⟩:=hc.opn a ha
   have M:=r b (dD.1 J).1 (fun he=>o6 i (by rw[he];exact hi));exact⟨b,n,c,sz,arr,e,l.ext.row a _ C,by rw[M.1];exact J,o3,by rw[<-Z];exact M.2,o5,o6⟩
 ·simp only[Ids.or,ci]at ha m
  simp only at hb y;rcases ha with ha|ha<;>rcases m with m|m
  ·exact G.core.apart a a' b x x' ha m hb y
  ·obtain⟨b2,X,h1,q,H⟩:=hold a' m
   rw[y]at q;simp at q;have:=t a b ha (by simp[Gh.blk,hb]);omega
  ·obtain⟨b2,X,h1,q,H⟩:=hold a ha
   rw[hb]at q;simp at q;have:=t a' b m (by simp[Gh.blk,y]);omega
  ·obtain⟨b2,X,h1,q,H⟩:=hold a ha
   obtain⟨b3,x3,V,F,W⟩:=hold a' m;rw[hb]at q;rw[y]at F
   simp only[aB,di]at q F;exact hc.apart a a' b X x3 ha m (by rw[h1,q.1]) (by rw[V,F.1])
 ·simp only[Ids.or,ci]at ha
  rcases ha with ha|ha
  ·exact .inl (t a b ha hb)
  ·obtain⟨b2,X,h1,q,H⟩:=hold a ha
   simp only[Gh.blk,q]at hb;exact .inr ⟨a,ha,by simpa[Gh.blk,h1]using hb⟩
 ·exact AVR.data fid S G.val
end
section
variable {P:Program} {fid:Nat->FuncId} {g:Gh} {w:World}
theorem yF{a:Act}{o:Oper}{c:Call}{f:Operand}{k:FuncId}{caps:Array Value}(j:o.op= .call c)(hc:c.callee= .value f)(l:a.eval f= .func (.func k) #[] caps)(d:lI P k):
 (execOp a.eval o).run P w= .ok (.enter k (c.args.map a.eval++caps)) w:=by
 obtain⟨fn,h1,m,n⟩:=d;have e:¬fn.name= "runtime.NumGoroutine":=by simpa using m
 have b:¬fn.body=none:=fun h=>by simp[h]at n
 simp[execOp,j,resolve,hc,l,Deferred.ofValue,invoke,callFunc,h1,e,b]
theorem ZO{call:aZ}(O:gm P fid call){p:Id}{draw:Bool}{L0 i:Nat}{a:Act}{o:Oper}{vo:VOper}{s s':St}(l:Core fid g w s.B s.A)(I:qcY fid g w s.r a.tmps)
 (x1:∀q,g.row (q++(s.c+i)::p)=none) (a2:o.dst=vo.dst) (hd:∀d,o.dst=some d->d<a.tmps.size) (m:aC P fid o.op vo.op=true) (C:aP call p draw L0 i vo s=some s')
 (K:Act->World->Prop) (Q:Exit->Act->World->Prop)
 (hK:∀g' w' u,Core fid g' w' s'.B s'.A->Boxes g w g'->Step (under (s.c+i) p) g w s.A g' w' s'.A->qcY fid g' w' s'.r (a.put o.dst u).tmps->K (a.put o.dst u) w'):o.wp P a w K Q:=by
 have H:Nonempty (Does P fid (under (s.c+i) p) g w a o s s')->o.wp P a w K Q:=by
  rintro⟨n,u,w',g',run,res,core,boxes,step,regs⟩
  unfold Oper.wp;rw[run];rcases res with rfl|⟨rfl,rfl⟩
  ·exact hK g' w' u core boxes step regs
  ·exact hK g' w' undef core boxes step regs
 obtain⟨dst,vop,gd,af⟩:=vo;simp only at a2 m;subst a2;have hf0:=x1 [];simp only[dj]at hf0;have pure:∀v,aA s.r vop=some v->s'=s.put o.dst v->o.wp P a w K Q:=by
  rintro v h1 rfl
  obtain⟨u,N,h3⟩:=Hv (P:=P) (fid:=fid) I m h1;exact H ⟨Does.still u l I hd N h3⟩
 cases vop with
 |load ag sz x=>exact H (K1 l I hd m C _)
 |store ini sz x y=>exact H (BN l I hd m C _)
 |storeN sz x y av=>
  have Y:aC P fid o.op (.store false sz x y)=true:=by
   cases ho:o.op with
   |store t a v=>rw[ho]at m;simpa only[aC]using m
   |_=>rw[ho]at m;simp[aC]at m
  have b1:aP call p draw L0 i ⟨o.dst,.store false sz x y,gd,af⟩ s=some s':=by
   simp only[aP]at C⊢
   split at C
   ·split at C
    ·simp at C
    ·rename_i hc
     simp only[ci,not_or]at hc;rw[ak hc.1];exact C
   ·simp at C
  exact H (BN l I hd Y b1 _)
 |loadS ag sz x c0=>
  have Y:aC P fid o.op (.load ag sz x)=true:=by
   cases ho:o.op with
   |load t a=>rw[ho]at m;simpa only[aC]using m
   |_=>rw[ho]at m;simp[aC]at m
  have b1:aP call p draw L0 i ⟨o.dst,.load ag sz x,gd,af⟩ s=some s':=by
   simp only[aP]at C⊢
   split at C
   ·rename_i b off b' o' e1 e2
    split at C
    ·simp at C
    ·rename_i hc
     simp only[e1];rw[ak (fun h=>hc (.inr h))];exact C
   ·simp at C
  exact H (K1 l I hd Y b1 _)
 |append1 sz by' x y ix v t9=>cases ho:o.op<;>(rw[ho]at m;simp[aC]at m)
 |alloc k z=>exact H (TG l I hd m C _)
 |box k x=>exact H (PZ l I hd m C _)
 |buildSlice sz z n ps=>exact H (Up l I hd m C hf0)
 |makeSlice k sz by' z x=>exact H (VH l I hd m C _)
 |append sz by' x y=>exact H (Pl l I hd m C hf0)
 |call iso f args=>
  obtain⟨dst,op,ty,pos,after,guard⟩:=o;cases op with
  |call c=>
   obtain⟨callee,D,argTypes⟩:=c;cases callee with
   |value fo=>
    simp only[aC,aF]at m;obtain⟨S,V⟩:=m;simp only[aP]at C;split at C
    ·rename_i k caps vs hf hvs
     have M:=bq (w:=w) I S hf;obtain⟨hl,G⟩:=p9 (w:=w) I V hvs;generalize hq:a.eval fo=q at M;cases M with
     |fn _ _ us x2 a1=>
      split at C
      ·
       split at C
       ·rename_i ds hds
        split at C
        ·rename_i v A B hc
         simp at C;subst C
         obtain⟨R,W⟩:=O _ _ _ _ _ _ hc;have hdd:=ft hds;have X:us= #[]:=by simpa using x2
         subst X;have J:=yF (P:=P) (w:=w) (a:=a) (o:=⟨dst,.call ⟨.value fo,D,argTypes⟩,ty,pos,after,guard⟩) rfl rfl hq R;have F:=W (g.cutB 0) w (D.map a.eval++ #[]) (by simp[hl]) (fun j v u h1 N=>by
          simp at N;obtain⟨oo,h3,rfl⟩:=N;have h4:=G j v oo h1 (by simpa using h3);have:∃d,v= .d d:=by
           rw[hdd]at h1;simp at h1;obtain⟨d,_,rfl⟩:=h1;exact⟨d,rfl⟩
          obtain⟨d,rfl⟩:=this;have e5:ExtV g w (g.cutB 0) w:=⟨fun _=>aU _,fun _ _=>rfl,fun _ _ h=>h⟩;exact AVR.data fid e5 h4) (by
          have h5:=(l.cutB 0).sub (A':=Ids.none) (fun x hx=>by simp[Ids.none]at hx);simpa using h5) (fun q j _=>by
          have:=x1 (q++[j]);simpa[Gh.cutB]using this)
         unfold Oper.wp;rw[J,Oper.upon_enter];refine F.mono fun e w' ⟨u,g',he,Z⟩=> ?_
         subst he;obtain⟨g2,c2,b2,s2,e2,v2⟩:=I4 l rfl Z;exact hK g2 w' u (by rw[ge,db];exact c2) b2 (by rw[db];exact s2.weaken (fun x ⟨q,j,_,hx⟩=>⟨q++[j],by simp[hx]⟩)) (fm (s:={s with A:=_}) (I.mono fid e2) v2 hd)
        ·simp at C
       ·simp at C
      ·
       split at C
       ·rename_i v A B hc
        simp at C;subst C
        obtain⟨R,W⟩:=O _ _ _ _ _ _ hc;have J:=yF (P:=P) (w:=w) (a:=a) (o:=⟨dst,.call ⟨.value fo,D,argTypes⟩,ty,pos,after,guard⟩) rfl rfl hq R;have F:=W g w (D.map a.eval++us) (by simp[hl,x2]) (fun j v u h1 N=>by
         by_cases hj:j<vs.length
         ·rw[bY hj]at h1
          rw[ju (by simpa[hl]using hj)]at N;simp at N;obtain⟨oo,h3,rfl⟩:=N;exact G j v oo h1 (by simpa using h3)
         ·rw[cj (by omega)]at h1
          rw[Kq (by simp at hl⊢;omega)]at N;exact a1 _ v u h1 (by simpa[hl]using N)) l (fun q j _=>by
         have:=x1 (q++[j]);simpa using this)
        unfold Oper.wp;rw[J,Oper.upon_enter];refine F.mono fun e w' ⟨u,g',he,Z⟩=> ?_
        subst he;have hext:Ext g w g' w':=⟨Z.step.ext,Z.boxes.old⟩;exact hK g' w' u (by rw[ge,db];exact Z.core) Z.boxes (by rw[db];exact Z.step.weaken (fun x ⟨q,j,_,hx⟩=>⟨q++[j],by simp[hx]⟩)) (fm (s:={s with A:=_,B:=_}) (I.mono fid hext) Z.val hd)
       ·simp at C
    ·simp at C
   |_=>simp[aC]at m
  |_=>simp[aC]at m
 |callS c0 f args=>
  obtain⟨dst,op,ty,pos,after,guard⟩:=o;cases op with
  |call c=>
   obtain⟨callee,D,argTypes⟩:=c;cases callee with
   |value fo=>
    simp only[aC,aF]at m;obtain⟨S,V⟩:=m;simp only[aP]at C;split at C
    ·rename_i k b off vs b' o' hf hvs hc0
     split at C
     ·simp at C
     rename_i hbb;obtain⟨ds,d1,C⟩:=aw.1 C;obtain⟨cs,d2,C⟩:=aw.1 C;obtain⟨es,d3,C⟩:=aw.1 C;split at C
     ·rename_i v A cs' hc
      obtain⟨es',d4,C⟩:=au.1 C;have M:=bq (w:=w) I S hf;obtain⟨hl,G⟩:=p9 (w:=w) I V hvs;generalize hq:a.eval fo=q at M;cases M with
      |fn _ _ us x2 a1=>
       obtain⟨R,W⟩:=O _ _ _ _ _ _ hc;have X:us= #[]:=by simpa using x2
       subst X;have hl':D.size=vs.length+1:=by simp at hl;omega
       obtain⟨o0,ho0⟩:∃o0,D[0]?=some o0:=⟨D[0],by simp[hl']⟩;have hp0:=G 0 (.ptr b off) o0 rfl (by simpa using ho0);obtain⟨blk,x3,hev⟩:=fh hp0;have hE:ExtV g w (g.solo b) w:=⟨fun _=>aU _,fun _ _=>rfl,fun _ _ h=>h⟩;have hdd:=ft d1;have J:=yF (P:=P) (w:=w) (a:=a) (o:=⟨dst,.call ⟨.value fo,D,argTypes⟩,ty,pos,after,guard⟩) rfl rfl hq R;have F:=W (g.solo b) w (D.map a.eval++ #[]) (by simp[hl']) (fun j v u h1 N=>by
        simp at N;obtain⟨oo,h3,rfl⟩:=N;cases j with
        |zero=>
         simp only[d9,aB]at h1;subst h1;rw[ho0]at h3;simp only[aB]at h3;subst h3;rw[hev];exact .ptr _ _ _ (by simp[Gh.solo,x3])
        |succ j=>
         simp only[lH]at h1;have h4:=G (j+1) v oo (by simpa using h1) (by simpa using h3);rw[hdd]at h1;simp only[cH]at h1;obtain⟨d,_,rfl⟩:=au.1 h1;exact AVR.data fid hE h4) (Vb l d2 d3) (fun q j _=>by
        have:=x1 (q++[j]);simpa[Gh.solo]using this)
       unfold Oper.wp;rw[J,Oper.upon_enter];refine F.mono fun e w' ⟨u,g',he,Z⟩=> ?_
       subst he;obtain⟨g2,c2,b2,s2,e2,v2⟩:=Om l x3 d2 d3 d4 Z;subst C;exact hK g2 w' u (by rw[ge,db];exact c2) b2 (by rw[db];exact s2.weaken (fun x ⟨q,j,_,hx⟩=>⟨q++[j],by simp[hx]⟩)) (fm (s:={s with B:=_,A:=_}) (I.mono fid e2) v2 hd)
     ·simp at C
    ·simp at C
   |_=>simp[aC]at m
  |_=>simp[aC]at m
 |_=>
  simp only[aP]at C;obtain⟨v,h1,N⟩:=au.1 C;exact pure v h1 N.symm
end
inductive Eff where
 |none
 |box (b:Nat) (x:Option (List AV))
 |ids (X:Ids)
 |app (new a:Id)
def Eff.on(e:Eff)(s:St):St:=
 match e with
 | .none=>s
 | .box b x=>{s with B:=s.B.set b x}
 | .ids X=>{s with A:=Ids.or X s.A}
 | .app new a=>{s with A:=Ids.add new (Ids.del a s.A)}
def vA(A:Ids)(new:Id)(sz bytes:Nat)(x y:DV):Option (AV×Eff):=
 match x,y with
 | .sl g xs,.sl _ ys=>
  if ys.all (fun e=>e.cells.length=sz/\e.cells.all DV.isCell)then
   if ys.isEmpty then some (.d (.sl g xs),.none)
   else if(xs.length+ys.length)*bytes<=140737488355328 then
    match g with
    | .nil=>some (.d (.sl (.own new sz) ys),.ids (fun x=>decide (x=new)))
    | .own a b=>if xs.isEmpty then some (.d (.sl (.own new sz) ys),.ids (fun x=>decide (x=new)))else if b=sz/\A a=true then some (.d (.sl (.own new sz) (xs++ys)),.app new a)else none
    | .sub=>none
   else none
  else none
 |_,_=>none
def be(call:aZ)(p:Id)(L0 i:Nat)(op:VOp)(c:Nat)(r:List (Nat×AV))(B:ah)(A:Ids):Option (AV×Eff):=
 match op with
 | .alloc k zero=>if ct B (L0+k)/\zero.all DV.isCell then some (.ptr (L0+k) 0,.box (L0+k) (some (zero.map .d)))else none
 | .box k x=>(x.get r).bind fun v=>if ct B (L0+k)/\v.cells.all AV.isCell/\v.safe (L0+k)then some (.ptr (L0+k) 0,.box (L0+k) (some v.cells))else none
 | .load agg sz a=>
  match a.get r with
  |some (.ep cs)=>(cut agg sz cs).map fun v=>(.d v,.none)
  |some (.ptr b off)=>if L0<=b then none else(aG B agg sz b off).map fun v=>(v,.none)
  |_=>none
 | .loadS agg sz a c0=>
  match a.get r,lk r c0 with
  |some (.ptr b off),some (.ptr e _)=>if b=e\/L0<=b then none else(aG B agg sz b off).map fun v=>(v,.none)
  |_,_=>none
 | .store true sz a x=>
  match a.get r,x.get r with
  |some (.ptr b off),some v=>
   if b<L0 then none
   else(aI B b).bind fun cs=>if v.cells.length=sz/\off+sz<=cs.length/\v.cells.all AV.isCell/\v.safe b then some (.und,.box b (some (splice cs off v.cells)))else none
  |_,_=>none
 | .buildSlice sz zero len parts=>
  if zero.cells.length=sz/\zero.cells.all DV.isCell/\len*sz<=16777216/\len<=16777216 then
   (cF (VX.get r) sz (List.replicate len zero) parts).map fun xs=>(.d (.sl (.own ((c+i)::p) sz) xs),.ids (fun x=>decide (x=(c+i)::p)))
  else none
 | .append sz bytes x y=>
  match x.get r,y.get r with
  |some (.d v),some (.d w)=>vA A ((c+i)::p) sz bytes v w
  |_,_=>none
 | .call true f args=>
  match f.get r,cO r args with
  |some (.fn k caps),some vs=>
   match aM vs,caps with
   |some _,[]=>
    match call ((c+i)::p) k vs [] Ids.none with
    |some {v:= .d v,A:=A',B:=_}=>some (.d v,.ids A')
    |_=>none
   |_,_=>none
  |_,_=>none
 |op=>(aA r op).map fun v=>(v,.none)
theorem LY(call:aZ)(p:Id)(L0 i:Nat)(o:VOper)(s:St)(j:o.op.kind≠.eff):aP call p true L0 i o s=(be call p L0 i o.op s.c s.r s.B s.A).map fun q=>(q.2.on s).put o.dst q.1:=by
 obtain⟨dst,op,gd,af⟩:=o;cases op with
 |storeN sz a x av=>exact absurd rfl j
 |alloc k z=>
  simp only[aP,be];split<;>rfl
 |box k x=>
  simp only[aP,be];cases x.get s.r with
  |none=>rfl
  |some v=>simp only[aQ];split<;>rfl
 |load ag sz x=>
  simp only[aP,be];generalize x.get s.r=q;cases q with
  |none=>rfl
  |some v=>
   cases v with
   |ep cs=>cases h:cut ag sz cs<;>simp[h,Eff.on]
   |ptr b off=>
    by_cases hb:L0<=b
    ·simp[hb]
    ·cases h:aG s.B ag sz b off<;>simp[hb,h,Eff.on]
   |_=>rfl
 |loadS ag sz x c0=>
  simp only[aP,be];generalize x.get s.r=q;generalize lk s.r c0=q';cases q with
  |none=>rfl
  |some v=>
   cases v with
   |ptr b off=>
    cases q' with
    |none=>rfl
    |some w=>
     cases w with
     |ptr m u=>
      by_cases hb:b=m\/L0<=b
      ·simp only[hb,jP,if_true,D9]
      ·simp only[hb,jP,if_false]
       cases h:aG s.B ag sz b off<;>simp[Eff.on]
     |_=>rfl
   |_=>rfl
 |store l sz x y=>
  cases l with
  |false=>simp[VOp.kind]at j
  |true=>
   simp only[aP,be];generalize x.get s.r=q;generalize y.get s.r=q';cases q with
   |none=>rfl
   |some a=>
    cases a with
    |ptr b off=>
     cases q' with
     |none=>rfl
     |some v=>
      simp only[fq,eP,if_true,ba];split
      ·rfl
      ·unfold je
       cases aI s.B b with
       |none=>rfl
       |some cs=>
        simp only[aQ];split<;>rfl
    |_=>rfl
 |buildSlice sz z n ps=>
  simp only[aP,be];split
  ·cases cF (VX.get s.r) sz (List.replicate n z) ps<;>rfl
  ·rfl
 |makeSlice k sz e z x=>simp[VOp.kind]at j
 |callS c0 f args=>simp[VOp.kind]at j
 |append1 sz e x y C v t9=>simp[VOp.kind]at j
 |append sz e x y=>
  simp only[aP,be];generalize x.get s.r=q;generalize y.get s.r=q';have key:∀(v w:DV),(eO s ((s.c+i)::p) sz e v w).map (fun x=>x.2.put dst x.1)=(vA s.A ((s.c+i)::p) sz e v w).map fun q=>(q.2.on s).put dst q.1:=by
   intro v w;unfold eO vA;cases v with
   |sl g xs=>
    cases w with
    |sl g' ys=>
     simp only;split
     ·split
      ·rfl
      ·split
       ·cases g with
        |nil=>rfl
        |sub=>rfl
        |own a t=>simp only;split<;>first|rfl|(split<;>rfl)
       ·rfl
     ·rfl
    |_=>rfl
   |_=>rfl
  cases q with
  |none=>rfl
  |some a=>
   cases q' with
   |none=>cases a<;>rfl
   |some b=>
    cases a with
    |d v=>
     cases b with
     |d w=>exact key v w
     |_=>rfl
    |_=>rfl
 |call iso f args=>
  cases iso with
  |false=>simp[VOp.kind]at j
  |true=>
   simp only[aP,be,if_true];generalize f.get s.r=q;generalize cO s.r args=q';cases q with
   |none=>rfl
   |some a=>
    cases a with
    |fn k caps=>
     cases q' with
     |none=>rfl
     |some vs=>
      simp only;generalize aM vs=d;cases d with
      |none=>rfl
      |some ds=>
       cases caps with
       |cons _ _=>rfl
       |nil=>
        simp only;generalize call ((s.c+i)::p) k vs [] Ids.none=rr;cases rr with
        |none=>rfl
        |some res=>
         obtain⟨v,A,B⟩:=res;cases v<;>rfl
    |_=>rfl
 |_=>
  simp only[aP,be];generalize aA s.r _=q;cases q<;>rfl
def agree(r b:List (Nat×AV))(l:List Nat):Prop:=∀t,t∈l->lk r t=lk b t
theorem ck{r b:List (Nat×AV)}{x:VX}(h:agree r b x.tmps):x.get r=x.get b:=by
 cases x with
 |t n=>exact h n (by simp[VX.tmps])
 |c v=>rfl
theorem dC{r b:List (Nat×AV)}{l d:List Nat}(h:agree r b (l++d)):agree r b l:=fun t c=>h t (kj _ c)
theorem dP{r b:List (Nat×AV)}{l c:List Nat}(h:agree r b (l++c)):agree r b c:=fun t d=>h t (mF _ d)
theorem rA{r b:List (Nat×AV)}:∀{xs:List VX},agree r b (xs.flatMap VX.tmps)->cO r xs=cO b xs
 | [],_=>rfl
 |x::xs,h=>by
  simp only[ei]at h;simp only[cO,ck (dC h),rA (dP h)]
theorem G9{r b:List (Nat×AV)}:∀{ps:List (Nat×Nat×VX)} {cs:List DV},agree r b (ps.flatMap fun q=>q.2.2.tmps)->dS (VX.get r) cs ps=dS (VX.get b) cs ps
 | [],_,_=>rfl
 |(off,sz,x)::ps,cs,h=>by
  simp only[ei]at h;simp only[dS,ck (dC h)];split
  ·split
   ·exact G9 (dP h)
   ·rfl
  ·rfl
theorem LI{r b:List (Nat×AV)}{sz:Nat}:∀{ps:List (Nat×VX)} {cs:List DV},agree r b (ps.flatMap fun q=>q.2.tmps)->cF (VX.get r) sz cs ps=cF (VX.get b) sz cs ps
 | [],_,_=>rfl
 |(i,x)::ps,cs,h=>by
  simp only[ei]at h;simp only[cF,ck (dC h)];split
  ·split
   ·exact LI (dP h)
   ·rfl
  ·rfl
theorem Fo{r b:List (Nat×AV)}{x:Option VX}(h:agree r b (x.toList.flatMap VX.tmps)):cT r x=cT b x:=by
 cases x with
 |none=>rfl
 |some x=>simp only[Option.toList_some,ei,List.flatMap_nil,dq]at h;simp only[cT,ck h]
theorem Np{r d:List (Nat×AV)}{op:VOp}(h:agree r d op.tmps):aA r op=aA d op:=by
 cases op with
 |move x=>simp only[VOp.tmps]at h;simp only[aA,ck h]
 |pick c a b=>simp only[VOp.tmps]at h;simp only[aA,ck (dC (dC h)),ck (dP (dC h)),ck (dP h)]
 |build z ps=>simp only[VOp.tmps]at h;simp only[aA,G9 h]
 |nilCheck x=>simp only[VOp.tmps]at h;simp only[aA,ck h]
 |bin b x y=>simp only[VOp.tmps]at h;simp only[aA,ck (dC h),ck (dP h)]
 |eqAgg n k x y=>simp only[VOp.tmps]at h;simp only[aA,ck (dC h),ck (dP h)]
 |eqB n x y=>simp only[VOp.tmps]at h;simp only[aA,ck (dC h),ck (dP h)]
 |eqNil n x=>simp only[VOp.tmps]at h;simp only[aA,ck h]
 |not x=>simp only[VOp.tmps]at h;simp only[aA,ck h]
 |conv c x=>simp only[VOp.tmps]at h;cases c<;>simp only[aA,ck h]
 |index x y=>simp only[VOp.tmps]at h;simp only[aA,ck (dC h),ck (dP h)]
 |indexAddr sz arr x y=>simp only[VOp.tmps]at h;cases arr<;>simp only[aA,ck (dC h),ck (dP h)]
 |fieldAddr o x=>simp only[VOp.tmps]at h;simp only[aA,ck h]
 |slice s sz x lo hi=>
  simp only[VOp.tmps,List.flatMap_append]at h;cases s<;>simp only[aA,ck (dC h),Fo (dC (dP h)),Fo (dP (dP h))]
 |makeFunc f cs=>simp only[VOp.tmps]at h;simp only[aA,rA h]
 |extract x i=>simp only[VOp.tmps]at h;simp only[aA,ck h]
 |len s x=>simp only[VOp.tmps]at h;cases s<;>simp only[aA,ck h]
 |_=>simp only[aA]
theorem Er{call:aZ}{p:Id}{L0 i c:Nat}{r e:List (Nat×AV)}{op:VOp}{B:ah}{A:Ids}(h:agree r e op.tmps):be call p L0 i op c r B A=be call p L0 i op c e B A:=by
 cases op with
 |alloc k z=>rfl
 |box k x=>simp only[VOp.tmps]at h;simp only[be,ck h]
 |load ag sz x=>simp only[VOp.tmps]at h;simp only[be,ck h]
 |loadS ag sz x c0=>
  simp only[VOp.tmps]at h;simp only[be,ck (dC h),dP h c0 (by simp)]
 |store d sz x y=>
  simp only[VOp.tmps]at h;cases d
  ·simp only[be,aA]
  ·simp only[be,ck (dC h),ck (dP h)]
 |buildSlice sz z n ps=>simp only[VOp.tmps]at h;simp only[be,LI h]
 |makeSlice k sz b z x=>simp only[be,aA]
 |callS c0 f args=>simp only[be,aA]
 |append1 sz b x y j v t9=>simp only[be,aA]
 |append sz b x y=>simp only[VOp.tmps]at h;simp only[be,ck (dC h),ck (dP h)]
 |call iso f args=>
  simp only[VOp.tmps]at h;cases iso
  ·simp only[be,aA]
  ·simp only[be,ck (dC h),rA (dP h)]
 |_=>simp only[be,Np h]
def Eff.B(e:Eff)(B:ah):ah:=
 match e with
 | .box b x=>B.set b x
 |_=>B
def Eff.A(e:Eff)(A:Ids):Ids:=
 match e with
 | .ids X=>Ids.or X A
 | .app new a=>Ids.add new (Ids.del a A)
 |_=>A
theorem Eff.qWC(e:Eff)(s:St):e.on s={s with B:=e.B s.B,A:=e.A s.A}:=by cases e<;>rfl
def bE(call:aZ)(p:Id)(L0 i:Nat)(op:VOp)(c:Nat)(r:List (Nat×AV))(B:ah)(A:Ids):Option (AV×ah×Ids):=
 match op with
 | .store false sz a x=>
  match a.get r,x.get r with
  |some (.ptr b off),some v=>
   if L0<=b then none
   else(aI B b).bind fun cs=>if v.cells.length=sz/\off+sz<=cs.length/\v.cells.all AV.isCell/\v.safe b then some (.und,B.set b (some (splice cs off v.cells)),A)else none
  |_,_=>none
 | .storeN sz a x av=>
  match a.get r,x.get r with
  |some (.ptr b off),some v=>
   if L0<=b\/et r b av=false then none
   else(aI B b).bind fun cs=>if v.cells.length=sz/\off+sz<=cs.length/\v.cells.all AV.isCell/\v.safe b then some (.und,B.set b (some (splice cs off v.cells)),A)else none
  |_,_=>none
 | .call false f args=>
  match f.get r,cO r args with
  |some (.fn k caps),some vs=>
   match call ((c+i)::p) k (vs++caps) B A with
   |some {v,A:=A',B:=B'}=>some (v,B',A')
   |none=>none
  |_,_=>none
 | .makeSlice _ _ _ _ _=>none
 | .append1 _ _ _ _ _ _ _=>none
 | .callS c0 f args=>
  match f.get r,cO r args,lk r c0 with
  |some (.fn k []),some (.ptr b off::vs),some (.ptr e _)=>
   if b≠e then none else(aM vs).bind fun _=>(aI B b).bind fun cs=>(aM cs).bind fun _=>
    match call ((c+i)::p) k (.ptr 0 off::vs) [some cs] Ids.none with
    |some {v:= .d v,A:=A1,B:=[some cs']}=>(aM cs').map fun _=>(.d v,B.set b (some cs'),Ids.or A1 A)
    |_=>none
  |_,_,_=>none
 |op=>(be call p L0 i op c r B A).map fun q=>(q.1,q.2.B B,q.2.A A)
theorem DT(call:aZ)(p:Id)(L0 i:Nat)(o:VOper)(s:St):
 aP call p true L0 i o s=(bE call p L0 i o.op s.c s.r s.B s.A).map fun q=>St.put ⟨s.r,q.2.1,q.2.2,s.c⟩ o.dst q.1:=by
 have main:o.op.kind≠.eff->(∀sz a x,o.op≠.store false sz a x)->(∀f as,o.op≠.call false f as)->(∀k sz b z x,o.op≠.makeSlice k sz b z x)->
  aP call p true L0 i o s=(bE call p L0 i o.op s.c s.r s.B s.A).map fun q=>St.put ⟨s.r,q.2.1,q.2.2,s.c⟩ o.dst q.1:=by
  intro h1 n F D;rw[LY call p L0 i o s h1];have:bE call p L0 i o.op s.c s.r s.B s.A=(be call p L0 i o.op s.c s.r s.B s.A).map fun q=>(q.1,q.2.B s.B,q.2.A s.A):=by
   unfold bE;split<;>first
    |rfl
    |(rename_i h;first|exact absurd h (n _ _ _)|exact absurd h (F _ _)|exact absurd h (D _ _ _ _ _)|(rw[h]at h1;exact absurd rfl h1))
  rw[this];cases be call p L0 i o.op s.c s.r s.B s.A with
  |none=>rfl
  |some q=>simp[Eff.qWC]
 obtain⟨dst,op,gd,af⟩:=o;cases op with
 |storeN sz x y av=>
  simp only[aP,bE];generalize x.get s.r=q;generalize y.get s.r=q';cases q with
  |none=>rfl
  |some a=>
   cases a with
   |ptr b off=>
    cases q' with
    |none=>rfl
    |some v=>
     by_cases hc:L0<=b\/et s.r b av=false
     ·have e:(fq true false L0 b|| !et s.r b av)=true:=by
       simp only[fq,eP,bI,if_false,ci,ba,fi];exact hc
      simp only;rw[ap hc,ap e];rfl
     ·have e:¬(fq true false L0 b|| !et s.r b av)=true:=by
       simp only[fq,eP,bI,if_false,ci,ba,fi];exact hc
      simp only;rw[ak hc,ak e];unfold je;cases aI s.B b with
      |none=>rfl
      |some cs=>
       simp only[aQ];split<;>rfl
   |_=>rfl
 |store l sz x y=>
  cases l with
  |true=>exact main (by simp[VOp.kind]) (by simp) (by simp) (by simp)
  |false=>
   simp only[aP,bE];generalize x.get s.r=q;generalize y.get s.r=q';cases q with
   |none=>rfl
   |some a=>
    cases a with
    |ptr b off=>
     cases q' with
     |none=>rfl
     |some v=>
      simp only[fq,eP,bI,if_false,ba];split
      ·rfl
      ·unfold je
       cases aI s.B b with
       |none=>rfl
       |some cs=>
        simp only[aQ];split<;>rfl
    |_=>rfl
 |call iso f args=>
  cases iso with
  |true=>exact main (by simp[VOp.kind]) (by simp) (by simp) (by simp)
  |false=>
   simp only[aP,bE,bI,if_false];generalize f.get s.r=q;generalize cO s.r args=q';cases q with
   |none=>rfl
   |some a=>
    cases a with
    |fn k caps=>
     cases q' with
     |none=>rfl
     |some vs=>
      simp only;generalize call ((s.c+i)::p) k (vs++caps) s.B s.A=rr;cases rr<;>rfl
    |_=>rfl
 |makeSlice k sz b z x=>
  simp only[aP,bE];generalize x.get s.r=q;cases q with
  |none=>rfl
  |some a=>
   cases a with
   |d v=>cases v<;>simp
   |_=>rfl
 |append1 sz t x y G v t9=>
  simp only[aP,bE,D9];split
  ·rw[ak (fun h=>by simp at h)]
  ·rfl
 |callS c0 f args=>
  simp only[aP,bE];generalize f.get s.r=q;generalize cO s.r args=q';generalize lk s.r c0=q2;split
  ·rename_i C b off vs m u
   simp only;split
   ·rfl
   ·cases aM vs with
    |none=>rfl
    |some ds=>
     simp only[aQ];cases aI s.B b with
     |none=>rfl
     |some cs=>
      simp only[aQ];cases aM cs with
      |none=>rfl
      |some es=>
       simp only[aQ];generalize call ((s.c+i)::p) C (.ptr 0 off::vs) [some cs] Ids.none=rr;split
       ·rename_i v A cs'
        simp only;cases aM cs'<;>rfl
       ·rename_i j
        split
        ·rename_i v A cs'
         exact absurd rfl (j v A cs')
        ·rfl
  ·rename_i j
   split
   ·rename_i k b off vs m u
    exact absurd rfl (j _ _ _ _ _ _ rfl rfl)
   ·rfl
 |_=>exact main (by simp[VOp.kind]) (by simp) (by simp) (by simp)
theorem si{call:aZ}{p:Id}{L0 i c:Nat}{r e:List (Nat×AV)}{op:VOp}{B:ah}{A:Ids}(h:agree r e op.tmps):bE call p L0 i op c r B A=bE call p L0 i op c e B A:=by
 cases op with
 |store d sz x y=>
  cases d
  ·simp only[VOp.tmps]at h;simp only[bE,ck (dC h),ck (dP h)]
  ·simp only[bE,Er h]
 |call iso f args=>
  cases iso
  ·simp only[VOp.tmps]at h;simp only[bE,ck (dC h),rA (dP h)]
  ·simp only[bE,Er h]
 |storeN sz x y av=>
  simp only[VOp.tmps]at h;have h1:=dC (dC h);have m:=dP (dC h);have n:∀b,et r b av=et e b av:=fun b=>by
   unfold et;rw[wj,bu,bu];exact forall_congr' fun t=>forall_congr' fun j=>by rw[dP h t j]
  simp only[bE,ck h1,ck m,n]
 |makeSlice k sz b z x=>rfl
 |append1 sz l x y q v t9=>rfl
 |callS c0 f args=>
  simp only[VOp.tmps]at h;simp only[bE,ck (dC (dC h)),rA (dP (dC h)),dP h c0 (by simp)]
 |_=>simp only[bE,Er h]
theorem vC{call:aZ}{p:Id}{L0 i c:Nat}{op:VOp}(d:op.kind= .pure)(r:List (Nat×AV))(B:ah)(A:Ids):bE call p L0 i op c r B A=(aA r op).map fun v=>(v,B,A):=by
 cases op with
 |store e sz x y=>cases e<;>simp[VOp.kind]at d
 |call iso f args=>cases iso<;>simp[VOp.kind]at d
 |load ag sz x=>simp[VOp.kind]at d
 |alloc k z=>simp[VOp.kind]at d
 |box k x=>simp[VOp.kind]at d
 |buildSlice sz z n ps=>simp[VOp.kind]at d
 |append sz b x y=>simp[VOp.kind]at d
 |makeSlice k sz b z x=>simp[VOp.kind]at d
 |storeN sz a x av=>simp[VOp.kind]at d
 |callS c0 f args=>simp[VOp.kind]at d
 |append1 sz h x y j v t9=>simp[VOp.kind]at d
 |loadS ag sz x c0=>simp[VOp.kind]at d
 |_=>
  simp only[bE,be];generalize aA r _=q;cases q<;>rfl
theorem nh{call:aZ}{p:Id}{L0 i c:Nat}{op:VOp}(d:op.kind≠.eff)(r:List (Nat×AV))(B:ah)(A:Ids):
 bE call p L0 i op c r B A=(be call p L0 i op c r B A).map fun q=>(q.1,q.2.B B,q.2.A A):=by
 cases op with
 |store e sz x y=>cases e;simp[VOp.kind]at d;rfl
 |call iso f args=>cases iso;simp[VOp.kind]at d;rfl
 |makeSlice k sz b z x=>simp[VOp.kind]at d
 |storeN sz a x av=>simp[VOp.kind]at d
 |callS c0 f args=>simp[VOp.kind]at d
 |append1 sz h x y j v t9=>simp[VOp.kind]at d
 |_=>rfl
theorem jJ{call:aZ}{p:Id}{L0 i c:Nat}{op:VOp}(b:op.kind= .row\/op.kind= .iso)(r:List (Nat×AV))(B B':ah)(A A':Ids):
 be call p L0 i op c r B A=be call p L0 i op c r B' A'/\∀v e,be call p L0 i op c r B A=some (v,e)->∃X,e= .ids X:=by
 cases op with
 |buildSlice sz z n ps=>
  refine⟨rfl,fun v e h=> ?_⟩;simp only[be]at h;split at h
  ·obtain⟨xs,_,h⟩:=au.1 h
   simp at h;exact⟨_,h.2.symm⟩
  ·simp at h
 |call iso f args=>
  cases iso with
  |false=>simp[VOp.kind]at b
  |true=>
   refine⟨rfl,fun v e h=> ?_⟩;simp only[be]at h;split at h
   ·split at h
    ·split at h
     ·simp at h;exact⟨_,h.2.symm⟩
     ·simp at h
    ·simp at h
   ·simp at h
 |store d sz x y=>cases d<;>simp[VOp.kind]at b
 |_=>simp[VOp.kind]at b
theorem KQ{call:aZ}{p:Id}{L0 i c:Nat}{op:VOp}(b:op.kind= .app)(r:List (Nat×AV))(B B':ah)(A:Ids):
 be call p L0 i op c r B A=be call p L0 i op c r B' A/\∀v e,be call p L0 i op c r B A=some (v,e)->∀B,e.B B=B:=by
 cases op with
 |append sz j x y=>
  refine⟨rfl,fun v e h=> ?_⟩;simp only[be]at h;split at h
  ·unfold vA at h
   split at h
   ·split at h
    ·split at h
     ·simp at h;rw[<-h.2];intro B;rfl
     ·split at h
      ·split at h
       ·simp at h;rw[<-h.2];intro B;rfl
       ·split at h
        ·simp at h;rw[<-h.2];intro B;rfl
        ·split at h
         ·simp at h;rw[<-h.2];intro B;rfl
         ·simp at h
       ·simp at h
      ·simp at h
    ·simp at h
   ·simp at h
  ·simp at h
 |store d sz x y=>cases d<;>simp[VOp.kind]at b
 |call iso f args=>cases iso<;>simp[VOp.kind]at b
 |_=>simp[VOp.kind]at b
theorem kz{call:aZ}{p:Id}{L0 i c:Nat}{op:VOp}(d:op.kind= .read)(r:List (Nat×AV))(B B':ah)(A A':Ids)(k:∀b,b<L0->aI B b=aI B' b):
 be call p L0 i op c r B A=be call p L0 i op c r B' A'/\∀v e,be call p L0 i op c r B A=some (v,e)->e= .none:=by
 cases op with
 |loadS ag sz x c0=>
  constructor
  ·simp only[be]
   split
   ·split
    ·rfl
    ·rename_i hb
     unfold aG;rw[k _ (by omega)]
   ·rfl
  ·intro v e h
   simp only[be]at h;split at h
   ·split at h
    ·simp at h
    ·obtain⟨xs,_,h⟩:=au.1 h
     simp at h;exact h.2.symm
   ·simp at h
 |load ag sz x=>
  constructor
  ·simp only[be]
   split
   ·rfl
   ·split
    ·rfl
    ·rename_i hb
     unfold aG;rw[k _ (by omega)]
   ·rfl
  ·intro v e h
   simp only[be]at h;split at h
   ·obtain⟨xs,_,h⟩:=au.1 h
    simp at h;exact h.2.symm
   ·split at h
    ·simp at h
    ·obtain⟨xs,_,h⟩:=au.1 h
     simp at h;exact h.2.symm
   ·simp at h
 |store j sz x y=>cases j<;>simp[VOp.kind]at d
 |call iso f args=>cases iso<;>simp[VOp.kind]at d
 |_=>simp[VOp.kind]at d
theorem wU{call:aZ}{p:Id}{L0 i c:Nat}{op:VOp}(j:op.kind= .room)(r:List (Nat×AV))(B:ah)(A:Ids){v:AV}{e:Eff}(h:be call p L0 i op c r B A=some (v,e)):
 ∃b x,L0<=b/\e= .box b (some x)/\ct B b=true/\∀B' A',ct B' b=true->be call p L0 i op c r B' A'=some (v,e):=by
 cases op with
 |alloc k z=>
  simp only[be]at h;split at h
  ·rename_i hc
   simp at h;obtain⟨rfl,rfl⟩:=h;refine⟨_,_,AL _ _,rfl,hc.1,fun B' A' d=> ?_⟩;simp only[be];rw[ap ⟨d,hc.2⟩]
  ·simp at h
 |box k x=>
  simp only[be]at h;obtain⟨v',hx,h⟩:=aw.1 h;split at h
  ·rename_i hc
   simp at h;obtain⟨rfl,rfl⟩:=h;refine⟨_,_,AL _ _,rfl,hc.1,fun B' A' d=> ?_⟩;simp only[be,hx,aQ];rw[ap ⟨d,hc.2⟩]
  ·simp at h
 |store l sz x y=>cases l<;>simp[VOp.kind]at j
 |call iso f args=>cases iso<;>simp[VOp.kind]at j
 |_=>simp[VOp.kind]at j
theorem D2{call:aZ}{p:Id}{L0 i c:Nat}{op:VOp}(d:op.kind= .init)(r:List (Nat×AV))(B:ah)(A:Ids){v:AV}{e:Eff}(h:be call p L0 i op c r B A=some (v,e)):
 ∃b x,L0<=b/\e= .box b (some x)/\∀B' A',aI B' b=aI B b->be call p L0 i op c r B' A'=some (v,e):=by
 cases op with
 |store j sz x y=>
  cases j with
  |false=>simp[VOp.kind]at d
  |true=>
   simp only[be]at h;split at h
   ·rename_i b off v' h1 l
    split at h
    ·simp at h
    ·rename_i hb
     obtain⟨cs,hcs,h⟩:=aw.1 h;split at h
     ·rename_i hc
      simp at h;obtain⟨rfl,rfl⟩:=h;refine⟨_,_,by omega,rfl,fun B' A' k=> ?_⟩;simp only[be,h1,l];rw[ak hb,k,hcs];simp only[aQ];rw[ap hc]
     ·simp at h
   ·simp at h
 |call iso f args=>cases iso<;>simp[VOp.kind]at d
 |_=>simp[VOp.kind]at d
theorem kK{B:ah}{b c:Nat}{x:Option (List AV)}(h:b≠c):aI (B.set b x) c=aI B c:=by
 simp only[aI,dh h]
theorem E2{B:ah}{b c:Nat}{x:Option (List AV)}(h:b≠c):ct (B.set b x) c=ct B c:=by
 simp only[ct,dh h]
theorem qrY{B:ah}{b:Nat}{x:List AV}:ct (B.set b (some x)) b=false:=by
 unfold ct
 by_cases h:b<B.length
 ·simp[h]
 ·rw[List.set_eq_of_length_le (by omega),f8 (by omega)]
theorem Z1{call:aZ}{p:Id}{L0 i j c:Nat}{C H:VOp}(hm:H.kind.meet C.kind=true)(r:List (Nat×AV))(B:ah)(A:Ids){vj vi:AV}{Bj V:ah}{Aj h5:Ids}
 (h1:bE call p L0 j H c r B A=some (vj,Bj,Aj)) (G:bE call p L0 i C c r Bj Aj=some (vi,V,h5)):
 ∃Bi Ai,bE call p L0 i C c r B A=some (vi,Bi,Ai)/\bE call p L0 j H c r Bi Ai=some (vj,V,h5):=by
 by_cases Q:H.kind= .pure
 ·rw[vC Q]at h1
  obtain⟨v,hv,h1⟩:=au.1 h1;simp at h1;obtain⟨rfl,rfl,rfl⟩:=h1;exact⟨V,h5,G,by rw[vC Q,hv];rfl⟩
 by_cases N:C.kind= .pure
 ·rw[vC N]at G
  obtain⟨v,hv,G⟩:=au.1 G;simp at G;obtain⟨rfl,rfl,rfl⟩:=G;exact⟨B,A,by rw[vC N,hv];rfl,h1⟩
 have h4:H.kind≠.eff:=by
  intro h;rw[h]at hm
  revert hm N;cases C.kind<;>simp[Kind.meet]
 have Z:C.kind≠.eff:=by
  intro h;rw[h]at hm
  revert hm Q;cases H.kind<;>simp[Kind.meet]
 rw[nh h4]at h1;rw[nh Z]at G;obtain⟨⟨x1,u⟩,d1,h1⟩:=au.1 h1;obtain⟨⟨K,y⟩,d2,G⟩:=au.1 G;simp at h1 G;obtain⟨rfl,rfl,rfl⟩:=h1;obtain⟨rfl,rfl,rfl⟩:=G;have z:be call p L0 i C c r B A=some (K,y)->be call p L0 j H c r (y.B B) (y.A A)=some (x1,u)->y.B (u.B B)=u.B (y.B B)->y.A (u.A A)=u.A (y.A A)->
  ∃Bi Ai,bE call p L0 i C c r B A=some (K,Bi,Ai)/\bE call p L0 j H c r Bi Ai=some (x1,y.B (u.B B),y.A (u.A A)):=by
  intro e1 e2 e3 e4;refine⟨y.B B,y.A A,?_,?_⟩
  ·rw[nh Z,e1];rfl
  ·rw[nh h4,e2,e3,e4];rfl
 have n:∀{k:Nat} {op:VOp} (B:ah) (A:Ids) {v e},(op.kind= .row\/op.kind= .iso\/op.kind= .app)->be call p L0 k op c r B A=some (v,e)->(∀B',be call p L0 k op c r B' A=some (v,e))/\∀B',e.B B'=B':=by
  intro k op B A v e m hd;rcases m with m|m|m
  ·obtain⟨_,h⟩:=jJ (call:=call) (p:=p) (L0:=L0) (i:=k) (c:=c) (.inl m) r B B A A
   obtain⟨X,rfl⟩:=h v e hd;exact⟨fun B'=>by rw[<-hd];exact(jJ (.inl m) r B' B A A).1,fun _=>rfl⟩
  ·obtain⟨_,h⟩:=jJ (call:=call) (p:=p) (L0:=L0) (i:=k) (c:=c) (.inr m) r B B A A
   obtain⟨X,rfl⟩:=h v e hd;exact⟨fun B'=>by rw[<-hd];exact(jJ (.inr m) r B' B A A).1,fun _=>rfl⟩
  ·exact⟨fun B'=>by rw[<-hd];exact(KQ m r B' B A).1,(KQ m r B B A).2 v e hd⟩
 have q:∀{k:Nat} {op:VOp} (B:ah) (A:Ids) {v e},(op.kind= .read\/op.kind= .room\/op.kind= .init)->be call p L0 k op c r B A=some (v,e)->(∀A',be call p L0 k op c r B A'=some (v,e))/\∀A',e.A A'=A':=by
  intro k op B A v e m hd;rcases m with m|m|m
  ·have h:=(kz (call:=call) (p:=p) (L0:=L0) (i:=k) (c:=c) m r B B A A (fun _ _=>rfl)).2 v e hd
   subst h;exact⟨fun A'=>by rw[<-hd];exact(kz m r B B A' A (fun _ _=>rfl)).1,fun _=>rfl⟩
  ·obtain⟨b,x,_,rfl,hf,h⟩:=wU m r B A hd
   exact⟨fun A'=>h B A' hf,fun _=>rfl⟩
  ·obtain⟨b,x,_,rfl,h⟩:=D2 m r B A hd
   exact⟨fun A'=>h B A' rfl,fun _=>rfl⟩
 have D:∀k:Kind,k≠.pure->k≠.eff->(k= .row\/k= .iso\/k= .app)\/(k= .read\/k= .room\/k= .init):=by
  intro k h1 G;cases k<;>simp_all
 rcases D H.kind Q h4 with t|t<;>rcases D C.kind N Z with l|l
 ·
  obtain⟨a1,I⟩:=n B A t d1;obtain⟨R,M⟩:=n (u.B B) (u.A A) l d2;have ri:C.kind= .row\/C.kind= .iso:=by
   rcases t with h|h|h<;>rcases l with W|W|W<;>rw[h,W]at hm<;>simp_all[Kind.meet]
  have rj:H.kind= .row\/H.kind= .iso:=by
   rcases t with h|h|h<;>rcases l with W|W|W<;>rw[h,W]at hm<;>simp_all[Kind.meet]
  obtain⟨X,rfl⟩:=(jJ (call:=call) (p:=p) (L0:=L0) (i:=j) (c:=c) rj r B B A A).2 _ _ d1;obtain⟨Y,rfl⟩:=(jJ (call:=call) (p:=p) (L0:=L0) (i:=i) (c:=c) ri r _ B _ A).2 _ _ d2;refine z (by rw[<-d2];exact(jJ ri r _ _ _ _).1) (by rw[<-d1];exact(jJ rj r _ _ _ _).1) rfl ?_
  funext x
  simp only[Eff.A,Ids.or];cases Y x<;>cases X x<;>simp
 ·
  obtain⟨a1,I⟩:=n B A t d1;obtain⟨R,M⟩:=q (u.B B) (u.A A) l d2;rw[I]at R;refine z (R A) (by rw[M];exact a1 _) (by rw[I,I]) (by rw[M,M])
 ·
  obtain⟨a1,I⟩:=q B A t d1;obtain⟨R,M⟩:=n (u.B B) (u.A A) l d2;rw[I]at R;refine z (R B) (by rw[M];exact a1 _) (by rw[M,M]) (by rw[I,I])
 ·
  obtain⟨a1,I⟩:=q B A t d1;obtain⟨R,M⟩:=q (u.B B) (u.A A) l d2;have hA:y.A (u.A A)=u.A (y.A A):=by rw[I,M,I]
  have O:=R A;rcases t with t|t|t
  ·
   have hn:=(kz (call:=call) (p:=p) (L0:=L0) (i:=j) (c:=c) t r B B A A (fun _ _=>rfl)).2 _ _ d1;subst hn;have d:be call p L0 i C c r B A=some (K,y):=O;refine z d ?_ rfl hA;rw[<-d1];refine(kz t r _ _ _ _ (fun b hb=> ?_)).1;rcases l with l|l|l
   ·have hn:=(kz (call:=call) (p:=p) (L0:=L0) (i:=i) (c:=c) l r B B A A (fun _ _=>rfl)).2 _ _ d
    subst hn;rfl
   ·obtain⟨b',x,hb',rfl,_⟩:=wU l r B A d
    exact kK (by omega)
   ·obtain⟨b',x,hb',rfl,_⟩:=D2 l r B A d
    exact kK (by omega)
  ·obtain⟨bj,xj,x2,rfl,x3,J⟩:=wU t r B A d1
   rcases l with l|l|l
   ·have d:be call p L0 i C c r B A=some (K,y):=by
     rw[<-O];exact(kz l r _ _ _ _ (fun b hb=>(kK (by omega)).symm)).1
    have hn:=(kz (call:=call) (p:=p) (L0:=L0) (i:=i) (c:=c) l r B B A A (fun _ _=>rfl)).2 _ _ d;subst hn;exact z d (a1 _) rfl hA
   ·obtain⟨bi,xi,hbi,rfl,F,h3⟩:=wU l r _ A O
    have S:bj≠bi:=by
     intro h;subst h;simp only[Eff.B]at F;rw[qrY]at F;simp at F
    simp only[Eff.B]at F;rw[E2 S]at F;refine z (h3 B A F) (J _ _ ?_) (DI _ _ S) hA;simp only[Eff.B];rw[E2 (Ne.symm S)];exact x3
   ·rw[t,l]at hm;simp[Kind.meet]at hm
  ·obtain⟨bj,xj,x2,rfl,J⟩:=D2 t r B A d1
   rcases l with l|l|l
   ·have d:be call p L0 i C c r B A=some (K,y):=by
     rw[<-O];exact(kz l r _ _ _ _ (fun b hb=>(kK (by omega)).symm)).1
    have hn:=(kz (call:=call) (p:=p) (L0:=L0) (i:=i) (c:=c) l r B B A A (fun _ _=>rfl)).2 _ _ d;subst hn;exact z d (a1 _) rfl hA
   ·rw[t,l]at hm;simp[Kind.meet]at hm
   ·rw[t,l]at hm;simp[Kind.meet]at hm
theorem QI{call:aZ}{p:Id}{L0 i j c:Nat}{oi oj:VOp}(hm:wS oj oi=true)(r:List (Nat×AV))(B:ah)(A:Ids){vj vi:AV}{Bj W:ah}{Aj Q:Ids}
 (h1:bE call p L0 j oj c r B A=some (vj,Bj,Aj)) (I:bE call p L0 i oi c r Bj Aj=some (vi,W,Q)):
 ∃Bi Ai,bE call p L0 i oi c r B A=some (vi,Bi,Ai)/\bE call p L0 j oj c r Bi Ai=some (vj,W,Q):=by
 have ld:∀(k ag sz x:_) (B B':ah) (A A':Ids) v l m,bE call p L0 k (.load ag sz (.t x)) c r B A=some (v,l,m)->l=B/\m=A/\∀B' A',(∀b off,lk r x=some (.ptr b off)->aI B' b=aI B b)->bE call p L0 k (.load ag sz (.t x)) c r B' A'=some (v,B',A'):=by
  intro k ag sz x B B' A A' v l m h;simp only[bE,be]at h;obtain⟨q,C,he⟩:=au.1 h;simp only[VX.get]at C;split at C
  ·rename_i cs hx
   obtain⟨u,hu,rfl⟩:=au.1 C;simp only[Eff.B,Eff.A,di]at he;obtain⟨rfl,rfl,rfl⟩:=he;refine⟨rfl,rfl,fun B' A' _=> ?_⟩;simp only[bE,be,VX.get,hx,hu,bz,Eff.B,Eff.A]
  ·rename_i b off hx
   split at C
   ·simp at C
   ·rename_i hL
    obtain⟨u,hu,rfl⟩:=au.1 C;simp only[Eff.B,Eff.A,di]at he;obtain⟨rfl,rfl,rfl⟩:=he;refine⟨rfl,rfl,fun B' A' hb=> ?_⟩;have:aG B' ag sz b off=aG B ag sz b off:=by unfold aG;rw[hb b off hx]
    simp only[bE,be,VX.get,hx,ak hL,this,hu,bz,Eff.B,Eff.A]
  ·simp at C
 have st:∀(k sz a x av:_) (B:ah) (A:Ids) v l m,bE call p L0 k (.storeN sz a x av) c r B A=some (v,l,m)->m=A/\∃b cs,aI B b=some cs/\(∀t,av.contains t=true->∀d off,lk r t=some (.ptr d off)->d≠b)/\(∃O,l=B.set b (some O))/\∀A',bE call p L0 k (.storeN sz a x av) c r B A'=some (v,l,A'):=by
  intro k sz a x av B A v l m h;simp only[bE]at h;split at h
  ·rename_i b off w ha hx
   split at h
   ·simp at h
   ·rename_i hc
    obtain⟨cs,hb,h⟩:=aw.1 h;split at h
    ·rename_i x1
     simp only[aB,di]at h;obtain⟨rfl,rfl,rfl⟩:=h;refine⟨rfl,b,cs,hb,fun t ht d x3 G he=> ?_,⟨_,rfl⟩,fun A'=> ?_⟩
     ·have hf:et r b av=true:=by
       have:=not_or.1 hc;simpa using this.2
      unfold et at hf;have:=bu.1 hf t (by simpa using ht);rw[G]at this;simp[he]at this
     ·simp only[bE,ha,hx,ak hc,hb,aQ,ap x1]
    ·simp at h
  ·simp at h
 have ls:∀(k ag sz a c0:_) (B:ah) (A:Ids) v l m,bE call p L0 k (.loadS ag sz a c0) c r B A=some (v,l,m)->l=B/\m=A/\∃b d K,lk r c0=some (.ptr d K)/\b≠d/\∀B' A',aI B' b=aI B b->bE call p L0 k (.loadS ag sz a c0) c r B' A'=some (v,B',A'):=by
  intro k ag sz a c0 B A v l m h;simp only[bE,be]at h;obtain⟨q,C,he⟩:=au.1 h;split at C
  ·rename_i b off d K ha F
   split at C
   ·simp at C
   ·rename_i hL
    obtain⟨u,hu,rfl⟩:=au.1 C;simp only[Eff.B,Eff.A,di]at he;obtain⟨rfl,rfl,rfl⟩:=he;refine⟨rfl,rfl,b,d,K,F,fun J=>hL (.inl J),fun B' A' hb=> ?_⟩;have:aG B' ag sz b off=aG B ag sz b off:=by unfold aG;rw[hb]
    simp only[bE,be,ha,F,ak hL,this,hu,bz,Eff.B,Eff.A]
  ·simp at C
 have cl:∀(k c0 f args:_) (B:ah) (A:Ids) v l m,bE call p L0 k (.callS c0 f args) c r B A=some (v,l,m)->∃d K cs' X,lk r c0=some (.ptr d K)/\l=B.set d (some cs')/\m=Ids.or X A/\∀B' A',aI B' d=aI B d->bE call p L0 k (.callS c0 f args) c r B' A'=some (v,B'.set d (some cs'),Ids.or X A'):=by
  intro k c0 f args B A v l m h;simp only[bE]at h;split at h
  ·rename_i kk b off vs d K hf hg F
   split at h
   ·simp at h
   ·rename_i J
    have V:b=d:=by simpa using J
    subst V;obtain⟨ds,h1,h⟩:=aw.1 h;obtain⟨cs,I,h⟩:=aw.1 h;obtain⟨es,h3,h⟩:=aw.1 h;split at h
    ·rename_i v' A1 cs' S
     obtain⟨fs,h4,h⟩:=au.1 h;simp only[di]at h;obtain⟨rfl,rfl,rfl⟩:=h;refine⟨b,K,cs',A1,F,rfl,rfl,fun B' A' hb=> ?_⟩;simp only[bE,hf,hg,F,ak J,h1,aQ,hb,I,h3,S,h4,bz]
    ·simp at h
  ·simp at h
 have bs:∀(k sz z n ps:_) (B:ah) (A:Ids) v l m,bE call p L0 k (.buildSlice sz z n ps) c r B A=some (v,l,m)->l=B/\∃Y,m=Ids.or Y A/\∀B' A',bE call p L0 k (.buildSlice sz z n ps) c r B' A'=some (v,B',Ids.or Y A'):=by
  intro k sz z n ps B A v l m h;rw[nh (by simp[VOp.kind])]at h;obtain⟨⟨v',e⟩,C,he⟩:=au.1 h;obtain⟨Y,rfl⟩:=(jJ (call:=call) (p:=p) (L0:=L0) (i:=k) (c:=c) (op:= .buildSlice sz z n ps) (.inl rfl) r B B A A).2 _ _ C;simp only[Eff.B,Eff.A,di]at he;obtain⟨rfl,rfl,rfl⟩:=he;refine⟨rfl,Y,rfl,fun B' A'=> ?_⟩;rw[nh (by simp[VOp.kind]),<-(jJ (call:=call) (p:=p) (L0:=L0) (i:=k) (c:=c) (op:= .buildSlice sz z n ps) (.inl rfl) r B B' A A').1,C];rfl
 have h5:∀X Y Z:Ids,Ids.or X (Ids.or Y Z)=Ids.or Y (Ids.or X Z):=by
  intro X Y Z;funext x;simp only[Ids.or];cases X x<;>cases Y x<;>simp
 unfold wS at hm;split at hm
 ·rename_i ag sz x x2 a y av
  obtain⟨rfl,rfl,H⟩:=ld _ _ _ _ _ B A A _ _ _ h1;obtain⟨rfl,b,cs,hb,M,⟨O,rfl⟩,_⟩:=st _ _ _ _ _ _ _ _ _ _ I;exact⟨_,_,I,H _ _ fun d off G=>kK (Ne.symm (M x hm d off G))⟩
 ·rename_i x2 a y av ag sz x
  obtain⟨rfl,b,cs,hb,M,⟨O,rfl⟩,_⟩:=st _ _ _ _ _ _ _ _ _ _ h1;obtain⟨rfl,rfl,H⟩:=ld _ _ _ _ _ B Aj Aj _ _ _ I;exact⟨B,Q,H _ _ fun d off G=>(kK (Ne.symm (M x hm d off G))).symm,h1⟩
 ·rename_i ag sz a c0 c1 f args
  have R:c0=c1:=by simpa using hm
  subst R;obtain⟨rfl,rfl,b,d,K,G,N,H⟩:=ls _ _ _ _ _ _ _ _ _ _ h1;obtain⟨b2,o2,cs',X,D,rfl,rfl,l2⟩:=cl _ _ _ _ _ _ _ _ _ I;rw[G]at D;simp only[aB,AV.ptr.injEq]at D;obtain⟨rfl,rfl⟩:=D;exact⟨_,_,I,H _ _ (kK (Ne.symm N))⟩
 ·rename_i c1 f args ag sz a c0
  have R:c0=c1:=by simpa using hm
  subst R;obtain⟨b2,o2,cs',X,D,rfl,rfl,l2⟩:=cl _ _ _ _ _ _ _ _ _ h1;obtain⟨rfl,rfl,b,d,K,G,N,H⟩:=ls _ _ _ _ _ _ _ _ _ _ I;rw[D]at G;simp only[aB,AV.ptr.injEq]at G;obtain⟨rfl,rfl⟩:=G;exact⟨B,A,H _ _ (kK (Ne.symm N)).symm,h1⟩
 ·obtain⟨rfl,Y,rfl,H⟩:=bs _ _ _ _ _ _ _ _ _ _ h1
  obtain⟨b2,o2,cs',X,D,rfl,rfl,l2⟩:=cl _ _ _ _ _ _ _ _ _ I;refine⟨_,_,l2 _ _ rfl,?_⟩;rw[H,h5]
 ·obtain⟨b2,o2,cs',X,D,rfl,rfl,l2⟩:=cl _ _ _ _ _ _ _ _ _ h1
  obtain⟨rfl,Y,rfl,H⟩:=bs _ _ _ _ _ _ _ _ _ _ I;refine⟨_,_,H _ _,?_⟩;rw[l2 _ _ rfl,h5]
 ·simp at hm
def dn(call:aZ)(p:Id)(draw:Bool)(L0 i:Nat)(o:VOper)(s:St):Option St:=
 match cJ s.r o.guard with
 |some true=>aP call p draw L0 i o s
 |some false=>some (s.put o.dst .und)
 |none=>none
theorem xC(call:aZ)(p:Id)(draw:Bool)(L0 i:Nat)(o:VOper)(os:List VOper)(s:St):
 cD call p draw L0 i (o::os) s=(dn call p draw L0 i o s).bind (cD call p draw L0 (i+1) os):=by
 simp only[cD,dn];generalize cJ s.r o.guard=q;cases q with
 |none=>rfl
 |some b=>cases b<;>rfl
def St.eqv(s s':St):Prop:=(∀t,lk s.r t=lk s'.r t)/\s.B=s'.B/\s.A=s'.A/\s.c=s'.c
theorem St.eqv.refl(s:St):s.eqv s:=⟨fun _=>rfl,rfl,rfl,rfl⟩
theorem St.eqv.trans{s s' b:St}(h:s.eqv s')(c:s'.eqv b):s.eqv b:=⟨fun t=>(h.1 t).trans (c.1 t),h.2.1.trans c.2.1,h.2.2.1.trans c.2.2.1,h.2.2.2.trans c.2.2.2⟩
theorem ki{r b:List (Nat×AV)}{gd:Option (Nat×Bool)}(h:agree r b (match gd with|some (t,_)=>[t]|none=>[])):cJ r gd=cJ b gd:=by
 cases gd with
 |none=>rfl
 |some q=>
  obtain⟨t,w⟩:=q;simp only[cJ,h t (by simp)]
theorem fI(s:St)(dst:Option Nat)(v:AV)(t:Nat):lk (s.put dst v).r t=if dst=some t then some v else lk s.r t:=by
 cases dst with
 |none=>simp[St.put]
 |some d=>
  simp only[St.put,lk,aB]
  by_cases h:t=d
  ·simp[h]
  ·simp[h,Ne.symm h]
theorem nw{s s':St}(h:s.eqv s')(dst:Option Nat)(v:AV):(s.put dst v).eqv (s'.put dst v):=by
 refine⟨fun t=> ?_,?_,?_,?_⟩
 ·rw[fI,fI,h.1 t]
 ·cases dst<;>exact h.2.1
 ·cases dst<;>exact h.2.2.1
 ·cases dst<;>exact h.2.2.2
theorem ZF{call:aZ}{p:Id}{L0 i:Nat}{o:VOper}{s s' t:St}(h:s.eqv s')(h1:dn call p true L0 i o s=some t):∃b,dn call p true L0 i o s'=some b/\t.eqv b:=by
 have ha:∀l,agree s.r s'.r l:=fun l t _=>h.1 t
 unfold dn at h1⊢
 rw[<-ki (ha _)];split at h1
 ·rw[DT]at h1⊢
  obtain⟨q,d,e⟩:=au.1 h1;rw[si (ha _),h.2.1,h.2.2.1,h.2.2.2]at d;rw[d];subst e;exact⟨_,rfl,nw (s:=⟨s.r,q.2.1,q.2.2,s.c⟩) (s':=⟨s'.r,q.2.1,q.2.2,s'.c⟩) ⟨h.1,rfl,rfl,h.2.2.2⟩ _ _⟩
 ·simp at h1;subst h1
  exact⟨_,rfl,nw h _ _⟩
 ·simp at h1
def yP(a b:VOper):Prop:=(a.op.kind.meet b.op.kind=true\/wS a.op b.op=true)/\oY a b=true/\oY b a=true
theorem apart_spec{a b:VOper}(h:oY a b=true):∀d,a.dst=some d->d∉b.looks/\b.dst≠some d:=by
 intro d hd;unfold oY at h;rw[hd]at h;simp at h;exact h
theorem lB{s:St}{dst:Option Nat}{v:AV}{l:List Nat}(h:∀d,dst=some d->d∉l):agree s.r (s.put dst v).r l:=by
 intro t b;rw[fI,ak (fun hd=>h t hd b)]
theorem put_comm(s:St){d b:Option Nat}(v v':AV)(h:∀t,d=some t->b≠some t):((s.put d v).put b v').eqv ((s.put b v').put d v):=by
 refine⟨fun t=> ?_,?_,?_,?_⟩
 ·rw[fI,fI,fI,fI]
  by_cases h1:d=some t
  ·rw[ak (h t h1),ap h1,ap h1]
  ·rw[ak h1,ak h1]
 ·cases d<;>cases b<;>rfl
 ·cases d<;>cases b<;>rfl
 ·cases d<;>cases b<;>rfl
theorem uU{o:VOper}{r b:List (Nat×AV)}(h:agree r b o.looks):agree r b o.op.tmps:=fun t c=>h t (by unfold VOper.looks;exact kj _ c)
theorem kQ{o:VOper}{r b:List (Nat×AV)}(h:agree r b o.looks):agree r b (match o.guard with|some (t,_)=>[t]|none=>[]):=fun t c=>h t (by unfold VOper.looks;exact mF _ c)
theorem H4(s:St)(dst:Option Nat)(v:AV):(s.put dst v).B=s.B:=by cases dst<;>rfl
theorem FO(s:St)(dst:Option Nat)(v:AV):(s.put dst v).A=s.A:=by cases dst<;>rfl
theorem Hf(s:St)(dst:Option Nat)(v:AV):(s.put dst v).c=s.c:=by cases dst<;>rfl
theorem OK{call:aZ}{p:Id}{L0 i j:Nat}{b l:VOper}(hc:yP l b){s s1 s2:St}(h1:dn call p true L0 j l s=some s1)(V:dn call p true L0 i b s1=some s2):
 ∃M I,dn call p true L0 i b s=some M/\dn call p true L0 j l M=some I/\s2.eqv I:=by
 obtain⟨hm,ha,hb⟩:=hc;have A1:=apart_spec ha;have H:=apart_spec hb;have form:∀{k:Nat} {o:VOper} {s t:St},dn call p true L0 k o s=some t->
  (cJ s.r o.guard=some true/\∃v B A,bE call p L0 k o.op s.c s.r s.B s.A=some (v,B,A)/\t=St.put ⟨s.r,B,A,s.c⟩ o.dst v)\/(cJ s.r o.guard=some false/\t=s.put o.dst .und):=by
  intro k o s t h;unfold dn at h;split at h
  ·rename_i hw
   rw[DT]at h;obtain⟨⟨v,B,A⟩,X,W⟩:=au.1 h;exact .inl ⟨hw,v,B,A,X,W.symm⟩
  ·rename_i hw
   simp at h;exact .inr ⟨hw,h.symm⟩
  ·simp at h
 have n:∀{k:Nat} {o:VOper} {s:St} {v B A},cJ s.r o.guard=some true->bE call p L0 k o.op s.c s.r s.B s.A=some (v,B,A)->dn call p true L0 k o s=some (St.put ⟨s.r,B,A,s.c⟩ o.dst v):=by
  intro k o s v B A hw h;unfold dn;rw[hw];simp only;rw[DT,h];rfl
 have m:∀{k:Nat} {o:VOper} {s:St},cJ s.r o.guard=some false->dn call p true L0 k o s=some (s.put o.dst .und):=by
  intro k o s hw;unfold dn;rw[hw]
 have dd:∀t,l.dst=some t->b.dst≠some t:=fun t h=>(A1 t h).2
 rcases form h1 with⟨K,y,D,C,R,rfl⟩|⟨K,rfl⟩
 ·have F:∀v,agree s.r (St.put ⟨s.r,D,C,s.c⟩ l.dst v).r b.looks:=fun v=>lB (s:=⟨s.r,D,C,s.c⟩) (fun d hd=>(A1 d hd).1)
  rcases form V with⟨G,z,u,q,N,rfl⟩|⟨G,rfl⟩
  ·have x:cJ s.r b.guard=some true:=by rw[<-G];exact ki (kQ (F y))
   have J:bE call p L0 i b.op s.c s.r D C=some (z,u,q):=by
    have e:=N;rw[<-si (uU (F y))]at e;have O:(St.put ⟨s.r,D,C,s.c⟩ l.dst y).B=D:=by cases l.dst<;>rfl
    have S:(St.put ⟨s.r,D,C,s.c⟩ l.dst y).A=C:=by cases l.dst<;>rfl
    have Q:(St.put ⟨s.r,D,C,s.c⟩ l.dst y).c=s.c:=by cases l.dst<;>rfl
    rw[O,S,Q]at e;exact e
   obtain⟨B',A',Z,Y⟩:∃u q,bE call p L0 i b.op s.c s.r s.B s.A=some (z,u,q)/\bE call p L0 j l.op s.c s.r u q=some (y,_,_):=by
    rcases hm with hm|hm
    ·exact Z1 hm s.r s.B s.A R J
    ·exact QI hm s.r s.B s.A R J
   refine⟨_,_,n x Z,n (v:=y) (B:=u) (A:=q) ?_ ?_,?_⟩
   ·rw[<-K]
    exact(ki (kQ (lB (s:=⟨s.r,B',A',s.c⟩) (fun d hd=>(H d hd).1)))).symm
   ·have O:(St.put ⟨s.r,B',A',s.c⟩ b.dst z).B=B':=by cases b.dst<;>rfl
    have S:(St.put ⟨s.r,B',A',s.c⟩ b.dst z).A=A':=by cases b.dst<;>rfl
    have Q:(St.put ⟨s.r,B',A',s.c⟩ b.dst z).c=s.c:=by cases b.dst<;>rfl
    rw[O,S,Q,<-si (uU (lB (s:=⟨s.r,B',A',s.c⟩) (v:=z) (fun d hd=>(H d hd).1)))];exact Y
   ·have:=put_comm ⟨s.r,u,q,s.c⟩ y z dd
    refine St.eqv.trans ?_ (St.eqv.trans this ?_)
    ·refine nw (s:=⟨(St.put ⟨s.r,D,C,s.c⟩ l.dst y).r,u,q,_⟩) (s':=St.put ⟨s.r,u,q,s.c⟩ l.dst y) ⟨fun t=>by rw[fI,fI],by cases l.dst<;>rfl,by cases l.dst<;>rfl,by cases l.dst<;>rfl⟩ b.dst z
    ·refine nw (s:=St.put ⟨s.r,u,q,s.c⟩ b.dst z) (s':=⟨(St.put ⟨s.r,B',A',s.c⟩ b.dst z).r,u,q,_⟩) ⟨fun t=>by rw[fI,fI],by cases b.dst<;>rfl,by cases b.dst<;>rfl,by cases b.dst<;>rfl⟩ l.dst y
  ·have x:cJ s.r b.guard=some false:=by rw[<-G];exact ki (kQ (F y))
   refine⟨_,_,m x,n (v:=y) (B:=D) (A:=C) ?_ ?_,?_⟩
   ·rw[<-K]
    exact(ki (kQ (lB (fun d hd=>(H d hd).1)))).symm
   ·rw[H4,FO,Hf,<-si (uU (lB (s:=s) (v:= .und) (fun d hd=>(H d hd).1)))]
    exact R
   ·have:=put_comm ⟨s.r,D,C,s.c⟩ y .und dd
    refine St.eqv.trans this ?_;refine nw (s:=St.put ⟨s.r,D,C,s.c⟩ b.dst .und) (s':=⟨(s.put b.dst .und).r,D,C,_⟩) ⟨fun t=>by rw[fI,fI],by cases b.dst<;>rfl,by cases b.dst<;>rfl,by cases b.dst<;>rfl⟩ l.dst y
 ·have F:agree s.r (s.put l.dst .und).r b.looks:=lB (fun d hd=>(A1 d hd).1)
  rcases form V with⟨G,z,u,q,N,rfl⟩|⟨G,rfl⟩
  ·have x:cJ s.r b.guard=some true:=by rw[<-G];exact ki (kQ F)
   rw[H4,FO,Hf,<-si (uU F)]at N;refine⟨_,_,n x N,m ?_,?_⟩
   ·rw[<-K]
    exact(ki (kQ (lB (s:=⟨s.r,u,q,s.c⟩) (fun d hd=>(H d hd).1)))).symm
   ·have:=put_comm ⟨s.r,u,q,s.c⟩ .und z dd
    refine St.eqv.trans ?_ this;refine nw (s:=⟨(s.put l.dst .und).r,u,q,_⟩) (s':=St.put ⟨s.r,u,q,s.c⟩ l.dst .und) ⟨fun t=>by rw[fI,fI],by cases l.dst<;>rfl,by cases l.dst<;>rfl,by cases l.dst<;>rfl⟩ b.dst z
  ·have x:cJ s.r b.guard=some false:=by rw[<-G];exact ki (kQ F)
   refine⟨_,_,m x,m ?_,put_comm s .und .und dd⟩;rw[<-K];exact(ki (kQ (lB (fun d hd=>(H d hd).1)))).symm
def fk(call:aZ)(p:Id)(L0:Nat):List (Nat×VOper)->St->Option St
 | [],s=>some s
 |(i,o)::r,s=>(dn call p true L0 i o s).bind (fk call p L0 r)
theorem Hn{call:aZ}{p:Id}{L0:Nat}:∀{l:List (Nat×VOper)} {s s' t:St},s.eqv s'->fk call p L0 l s=some t->∃b,fk call p L0 l s'=some b/\t.eqv b
 | [],s,s',t,h,h1=>by simp[fk]at h1;subst h1;exact⟨s',rfl,h⟩
 |(i,o)::l,s,s',t,h,h1=>by
  simp only[fk]at h1⊢
  obtain⟨s1,c,m⟩:=aw.1 h1;obtain⟨n,j,k⟩:=ZF h c;obtain⟨b,e,d⟩:=Hn k m;exact⟨b,by rw[j];exact e,d⟩
theorem AK{call:aZ}{p:Id}{L0 i:Nat}{m:VOper}{post:List (Nat×VOper)}:∀{pre:List (Nat×VOper)} {s t:St},(∀q,q∈pre->yP q.2 m)->
 fk call p L0 (pre++(i,m)::post) s=some t->∃s1 n,dn call p true L0 i m s=some s1/\fk call p L0 (pre++post) s1=some n/\t.eqv n
 | [],s,t,_,h=>by
  simp only[dj,fk]at h;obtain⟨s1,c,d⟩:=aw.1 h;exact⟨s1,t,c,d,.refl t⟩
 |(j,F)::pre,s,t,hc,h=>by
  simp only[cP,fk]at h;obtain⟨H,c,d⟩:=aw.1 h;obtain⟨s1,n,x,y,u⟩:=AK (fun q z=>hc q (by simp[z])) d;obtain⟨e,r,C,G,D⟩:=OK (hc (j,F) (by simp)) c x;obtain⟨b,k,l⟩:=Hn D y;refine⟨e,b,C,?_,u.trans l⟩;simp only[cP,fk,G,aQ];exact k
theorem DZ{call:aZ}{p:Id}{L0:Nat}:∀{os:List VOper} {i:Nat} {s:St},cD call p true L0 i os s=fk call p L0 ((List.range' i os.length).zip os) s
 | [],_,_=>rfl
 |o::os,i,s=>by
  rw[xC];simp only[cB,AC,List.zip_cons_cons,fk]
  congr 1
  funext s1
  exact DZ
variable {P:Program} {fid:Nat->FuncId} {g:Gh} {w:World}
theorem Ks{ops:Array Oper}{a:Act}{r:List (Nat×AV)}(n:qcY fid g w r a.tmps){o:Oper}{gd:Option (Nat×Bool)}(d:yu ops o.guard gd=true){b:Bool}(h:cJ r gd=some b):
 Region.wanted o (yielded ops a.tmps)=b:=by
 unfold yu at d;unfold Region.wanted;split at d
 ·rename_i l
  rw[l];simp[cJ]at h;simp[h]
 ·rename_i j wn t q l
  simp at d;obtain⟨rfl,e⟩:=d;rw[l];simp only[cJ]at h;have hy:yielded ops a.tmps j=match a.tmps[t]? with|some (.bool b)=>some b|_=>none:=by
   unfold yielded;rw[e];rfl
  split at h
  ·rename_i m k
   simp at h;subst h
   have c:=ja (n t _ k);rw[bL]at c;cases hq:a.tmps[t]? with
   |none=>rw[hq]at c;simp[undef]at c
   |some x=>
    rw[hq]at c;simp at c;subst c;show(yielded ops a.tmps j==some wn)=(m==wn);rw[hy,hq];cases m<;>cases wn<;>rfl
  ·rename_i k
   simp at h;subst h
   have c:=n t _ k;rw[bL]at c;cases hq:a.tmps[t]? with
   |none=>simp[hy,hq]
   |some x=>
    rw[hq]at c;simp at c;cases c;simp[hy,hq,undef]
  ·simp at h
 ·simp at d
theorem qyp{s s1:St}{new:Id}{sz bytes:Nat}{x y:DV}{v:AV}(h1:eO s new sz bytes x y=some (v,s1)):s1.c=s.c:=by
 unfold eO at h1;split at h1
 ·split at h1
  ·split at h1
   ·simp at h1;rw[h1.2]
   ·split at h1
    ·split at h1
     ·simp at h1;rw[<-h1.2]
     ·split at h1
      ·simp at h1;rw[<-h1.2]
      ·split at h1
       ·simp at h1;rw[<-h1.2]
       ·simp at h1
     ·simp at h1
    ·simp at h1
  ·simp at h1
 ·simp at h1
theorem W2{call:aZ}{p:Id}{draw:Bool}{L0 i:Nat}{o:VOper}{s s':St}(h:aP call p draw L0 i o s=some s'):s'.c=s.c:=by
 obtain⟨dst,op,gd,af⟩:=o;cases op with
 |load ag sz x=>
  simp only[aP]at h;split at h
  ·obtain⟨v,_,rfl⟩:=au.1 h;exact ff _ _ _
  ·split at h
   ·simp at h
   ·obtain⟨v,_,rfl⟩:=au.1 h;exact ff _ _ _
  ·simp at h
 |store d sz x y=>
  simp only[aP]at h;split at h
  ·split at h
   ·simp at h
   ·obtain⟨v,h1,rfl⟩:=au.1 h
    unfold je at h1;obtain⟨cs,_,h1⟩:=aw.1 h1;split at h1
    ·simp at h1;subst h1;rw[ff]
    ·simp at h1
  ·simp at h
 |storeN sz x y av=>
  simp only[aP]at h;split at h
  ·split at h
   ·simp at h
   ·obtain⟨v,h1,rfl⟩:=au.1 h
    unfold je at h1;obtain⟨cs,_,h1⟩:=aw.1 h1;split at h1
    ·simp at h1;subst h1;rw[ff]
    ·simp at h1
  ·simp at h
 |alloc k z=>
  simp only[aP]at h;split at h
  ·simp at h;subst h;rw[ff]
  ·simp at h
 |box k x=>
  simp only[aP]at h;obtain⟨v,_,h⟩:=aw.1 h;split at h
  ·simp at h;subst h;rw[ff]
  ·simp at h
 |buildSlice sz z n ps=>
  simp only[aP]at h;split at h
  ·obtain⟨v,_,rfl⟩:=au.1 h;rw[ff]
  ·simp at h
 |makeSlice k sz b z x=>
  simp only[aP]at h;split at h
  ·split at h
   ·simp at h;subst h;rw[ff]
   ·simp at h
  ·simp at h
 |append sz b x y=>
  simp only[aP]at h;split at h
  ·obtain⟨⟨v,s1⟩,h1,rfl⟩:=au.1 h
   rw[ff];unfold eO at h1;split at h1
   ·split at h1
    ·split at h1
     ·simp at h1;rw[h1.2]
     ·split at h1
      ·split at h1
       ·simp at h1;rw[<-h1.2]
       ·split at h1
        ·simp at h1;rw[<-h1.2]
        ·split at h1
         ·simp at h1;rw[<-h1.2]
         ·simp at h1
       ·simp at h1
      ·simp at h1
    ·simp at h1
   ·simp at h1
  ·simp at h
 |call iso f args=>
  simp only[aP]at h;split at h
  ·split at h
   ·split at h
    ·split at h
     ·simp at h;subst h;rw[ff]
     ·simp at h
    ·simp at h
   ·split at h
    ·simp at h;subst h;rw[ff]
    ·simp at h
  ·simp at h
 |loadS ag sz x c0=>
  simp only[aP]at h;split at h
  ·split at h
   ·simp at h
   ·obtain⟨v,_,rfl⟩:=au.1 h;exact ff _ _ _
  ·simp at h
 |append1 sz b x y e v t9=>
  simp only[aP]at h;split at h
  ·split at h
   ·obtain⟨⟨v,s1⟩,h1,rfl⟩:=au.1 h
    rw[ff];exact qyp h1
   ·simp at h
  ·simp at h
 |callS c0 f args=>
  simp only[aP]at h;split at h
  ·split at h
   ·simp at h
   obtain⟨ds,d1,h⟩:=aw.1 h;obtain⟨cs,d2,h⟩:=aw.1 h;obtain⟨es,d3,h⟩:=aw.1 h;split at h
   ·obtain⟨v,_,rfl⟩:=au.1 h;exact ff _ _ _
   ·simp at h
  ·simp at h
 |_=>
  simp only[aP]at h;obtain⟨v,_,rfl⟩:=au.1 h;exact ff _ _ _
theorem xp{call:aZ}{p:Id}{draw:Bool}{L0 i:Nat}{o:VOper}{s s':St}(h:dn call p draw L0 i o s=some s'):s'.c=s.c:=by
 unfold dn at h;split at h
 ·exact W2 h
 ·simp at h;subst h;exact ff _ _ _
 ·simp at h
theorem IW{call:aZ}{p:Id}{draw:Bool}{L0:Nat}:∀{os:List VOper} {i:Nat} {s s':St},cD call p draw L0 i os s=some s'->s'.c=s.c
 | [],_,_,_,h=>by simp[cD]at h;rw[h]
 |o::os,i,s,s',h=>by
  rw[xC]at h;obtain⟨s1,h1,b⟩:=aw.1 h;rw[IW b,xp h1]
theorem vX{call:aZ}(e:gm P fid call){p:Id}{draw:Bool}{L0 i N:Nat}{a:Act}{ops:Array Oper}{o:Oper}{t:VOper}{s s':St}(b:Core fid g w s.B s.A)(k:qcY fid g w s.r a.tmps)(x:a.tmps.size=N)
 (l:∀q,g.row (q++(s.c+i)::p)=none) (j:gS P fid N ops o t=true) (h:dn call p draw L0 i t s=some s')
 (K:Act->World->Prop) (Q:Exit->Act->World->Prop)
 (n:∀g' w' u,Core fid g' w' s'.B s'.A->Boxes g w g'->Step (under (s.c+i) p) g w s.A g' w' s'.A->qcY fid g' w' s'.r (a.put o.dst u).tmps->K (a.put o.dst u) w'):
 if Region.wanted o (yielded ops a.tmps)then o.wp P a w K Q else K (a.put o.dst undef) w:=by
 simp only[gS,aF,eJ]at j;obtain⟨⟨⟨h1,y⟩,z⟩,m⟩:=j;have hd:∀d,o.dst=some d->d<a.tmps.size:=by
  intro d hd;rw[x];simpa[hd]using y
 unfold dn at h;split at h
 ·rename_i hw
  rw[Ks k m hw,ap rfl];exact ZO e b k l h1 hd z h K Q n
 ·rename_i hw
  rw[Ks k m hw];simp at h;subst h
  simp only[bI,if_false];refine n g w undef (by rw[ge,db];exact b) (.refl g w) (by rw[db];exact .refl _ g w s.A) ?_;rw[<-h1];exact fm k .und hd
 ·simp at h
theorem fN(a:Act)(d:Option Nat)(u:Value):(a.put d u).tmps.size=a.tmps.size:=by cases d<;>simp[Act.put]
theorem put_defers(a:Act)(d:Option Nat)(u:Value):(a.put d u).defers=a.defers:=by cases d<;>rfl
theorem ZL{k k':Nat}{p:Id}{q:Id}(h:k≠k'):¬under k p (q++k'::p):=by
 rintro⟨c,b⟩
 have:=pz b (by simp);simp at this;exact h this.2.symm
theorem Bb{p:Id}{k:Nat}{g':Gh}{w':World}{A A':Ids}(hs:Step (under k p) g w A g' w' A'){k':Nat}(b:k≠k')(h:∀q,g.row (q++k'::p)=none):∀q,g'.row (q++k'::p)=none:=by
 intro q
 by_cases he:g'.row (q++k'::p)=g.row (q++k'::p)
 ·rw[he];exact h q
 ·exact absurd (hs.new _ he) (ZL b)
theorem Lf{call:aZ}(d:gm P fid call){p:Id}{L0 N:Nat}{ops:Array Oper}:∀(os:List Oper) (vs:List VOper) (i:Nat) (g:Gh) (w:World) (a:Act) (s s':St),
 dI P fid N ops false os vs=true->Core fid g w s.B s.A->qcY fid g w s.r a.tmps->a.tmps.size=N->(∀q j,s.c+i<=j->g.row (q++j::p)=none)->cD call p false L0 i vs s=some s'->
 ∀(Q:Exit->Act->World->Prop),(∀g' a' w',Core fid g' w' s'.B s'.A->Boxes g w g'->Step (fun x=>∃q j,s.c+i<=j/\j<s.c+i+vs.length/\x=q++j::p) g w s.A g' w' s'.A->qcY fid g' w' s'.r a'.tmps->a'.tmps.size=N->a'.defers=a.defers->Q .normal a' w')->
  wpList P ops Q os a w
 | [],[],i,g,w,a,s,s',_,b,t,n,e,l,Q,z=>by
  simp[cD]at l;subst l
  exact z g a w b (.refl g w) (.refl _ g w s.A) t n rfl
 |o::os,v::vs,i,g,w,a,s,s',k,b,t,n,e,l,Q,z=>by
  simp only[dI,aF]at k;obtain⟨⟨⟨h1,_⟩,_⟩,G⟩:=k;rw[xC]at l;obtain⟨s1,m,y⟩:=aw.1 l;have D:=xp m;unfold wpList;have key:=vX (g:=g) (w:=w) d b t n (fun q=>e q _ (aU _)) h1 m (wpList P ops Q os) Q (fun g1 J u c1 C st1 M=>by
   refine Lf d os vs (i+1) g1 J (a.put o.dst u) s1 s' G c1 M (by rw[fN];exact n) (fun q j hj=> ?_) y Q (fun g2 O H c2 F st2 K I d2=> ?_)
   ·exact Bb st1 (by omega) (fun q=>e q j (by omega)) q
   ·refine z g2 O H c2 (C.trans st1.size F) ((st1.weaken (fun x ⟨q,hx⟩=>⟨q,s.c+i,aU _,by simp,hx⟩)).trans C (st2.weaken (fun x ⟨q,j,h3,h4,hx⟩=>⟨q,j,by omega,by simp only[cB];omega,hx⟩))) K I (by rw[d2,put_defers]))
  split
  ·rename_i hw
   rw[ap hw]at key;exact .inl key
  ·rename_i hw
   rw[ak hw]at key;exact key
 | [],_::_,_,_,_,_,_,_,h,_,_,_,_,_,_,_=>by simp[dI]at h
 |_::_,[],_,_,_,_,_,_,h,_,_,_,_,_,_,_=>by simp[dI]at h
end Go.Proofs.YtpcoohnjllclnaaGreat.VS
