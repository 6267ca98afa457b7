/- The engine, part 2: a call of the program answers what an evaluator of values without memory answers, for the functions whose code is the one that the evaluator is given. -/
import Derived.Test.YtbcbkiaineacpaaGreatEngA
import Derived.Laws.Append
import Derived.Laws.AppendOwn
import Derived.LoopN
import Derived.Tactics
set_option linter.unusedSimpArgs false
set_option linter.unusedVariables false
namespace Go.Proofs.YtbcbkiaineacpaaGreat.VS
variable {P:Program} {fid:Nat->FuncId} {g:Gh} {w:World}
def under(k:Nat)(p:Id)(a:Id):Prop:=∃q,a=q++k::p
structure Does(P:Program)(fid:Nat->FuncId)(N:Id->Prop)(g:Gh)(w:World)(a:Act)(o:Oper)(s s':St) where
 n:Next
 u:Value
 w':World
 g':Gh
 run:(execOp a.eval o).run P w= .ok n w'
 res:n= .value u\/(n= .skip/\u=undef)
 core:Core fid g' w' s'.B s'.A
 boxes:Boxes g w g'
 step:Step N g w s.A g' w' s'.A
 regs:qfh fid g' w' s'.r (a.put o.dst u).tmps
theorem qgS(a:Act)(dst:Option Nat)(u:Value)(t:Nat):
 (a.put dst u).tmps.getD t undef=if dst=some t/\t<a.tmps.size then u else a.tmps.getD t undef:=by
 cases dst with
 |none=>simp[Act.put]
 |some d=>
  simp only[Act.put,Option.some.injEq]
  by_cases h:d=t
  ·subst h
   by_cases hl:d<a.tmps.size
   ·simp[hl,yf_]
   ·simp[hl,yf_]
  ·simp[h,yf_,Array.getElem?_setIfInBounds_ne h]
theorem qcp{a:Act}{dst:Option Nat}{u:Value}{v:AV}{s:St}(hr:qfh fid g w s.r a.tmps)(hv:AVR fid g w v u)(hd:∀d,dst=some d->d<a.tmps.size):
 qfh fid g w (s.put dst v).r (a.put dst u).tmps:=by
 intro t x hx;rw[qgS];cases dst with
 |none=>simp[St.put]at hx;simpa using hr t x hx
 |some d=>
  simp only[St.put,lk]at hx;split at hx
  ·rename_i h
   subst h;simp at hx;subst hx
   simp[hd t rfl,hv]
  ·rename_i h
   rw[if_neg (by simp;intro h';exact absurd h'.symm h)];exact hr t x hx
theorem qlQ(s:St)(dst:Option Nat)(v:AV):(s.put dst v).B=s.B:=by cases dst<;>rfl
theorem qe5(s:St)(dst:Option Nat)(v:AV):(s.put dst v).A=s.A:=by cases dst<;>rfl
theorem qhR(s:St)(dst:Option Nat)(v:AV):(s.put dst v).c=s.c:=by cases dst<;>rfl
def Does.still{N:Id->Prop}{a:Act}{o:Oper}{s:St}{v:AV}(u:Value)(hcore:Core fid g w s.B s.A)(hr:qfh fid g w s.r a.tmps)(hd:∀d,o.dst=some d->d<a.tmps.size)
 (h1:(execOp a.eval o).run P w= .ok (.value u) w) (h2:AVR fid g w v u):Does P fid N g w a o s (s.put o.dst v):=
 ⟨.value u,u,w,g,h1,.inl rfl,by rw[qlQ,qe5];exact hcore,.refl g w,by rw[qe5];exact .refl N g w s.A,qcp hr h2 hd⟩
theorem qbn:∀{cs:List AV} {ds:List DV},qaF cs=some ds->cs=ds.map .d
 | [],ds,h=>by simp[qaF]at h;subst h;rfl
 | .d v::r,ds,h=>by
  simp only[qaF]at h;obtain⟨ds',h1,rfl⟩:=ya_.1 h;rw[qbn h1];rfl
 | .ptr _ _::_,_,h=>by simp[qaF]at h
 | .ep _::_,_,h=>by simp[qaF]at h
 | .nilp::_,_,h=>by simp[qaF]at h
 | .fn _ _::_,_,h=>by simp[qaF]at h
 | .bsl _ _ _ _ _::_,_,h=>by simp[qaF]at h
 | .tsl _ _ _ _::_,_,h=>by simp[qaF]at h
 | .ag _ _::_,_,h=>by simp[qaF]at h
 | .und::_,_,h=>by simp[qaF]at h
theorem qmy{B:qao}{i:Nat}{cs:List AV}:qdP B i=some cs↔B[i]?=some (some cs):=by
 unfold qdP;split
 ·rename_i h;rw[h];simp
 ·rename_i h
  constructor
  ·intro h';simp at h'
  ·intro h';exact absurd h' (by intro h'';exact h _ h'')
theorem qoG{B:qao}{A:Ids}(hc:Core fid g w B A){agg:Bool}{sz i off b:Nat}{v:AV}(hb:g.bx i=some b)(h:qaj B agg sz i off=some v):
 ∃u,AVR fid g w v u/\(agg=true->∃f:Nat->Value,u= .agg ((List.range sz).map f).toArray/\∀j,j<sz->w.cell? ((⟨b,off,none⟩:Addr).add j)=some (f j))/\(agg=false->w.cell? ⟨b,off,none⟩=some u):=by
 obtain⟨cs,arr,e,h1,h2,h3,h4,h5,h6⟩:=hc.box i b hb;have hcell:∀j,w.cell? ((⟨b,off,none⟩:Addr).add j)=arr[off+j]?:=by
  intro j;have:(⟨b,off,none⟩:Addr).add j=⟨b,off+j,none⟩:=by unfold Addr.add;split<;>simp_all
  rw[this];simp[World.cell?,h2]
 unfold qaj at h;rw[qmy.2 h1]at h;simp only[Option.bind_some]at h;cases agg with
 |true=>
  simp only[if_true]at h;split at h
  case isFalse=>simp at h
  rename_i hlen;cases hds:qaF ((cs.drop off).take sz)with
  |none=>
   rw[hds]at h;simp only[qmx]at h;split at h
   ·simp only[Option.some.injEq]at h
    subst h;refine⟨.agg ((List.range sz).map fun j=>arr.getD (off+j) undef).toArray,.ag _ _ (by simp;omega) (fun j v u hj hu=> ?_),fun _=>⟨_,rfl,fun j hj=> ?_⟩,by simp⟩
    ·have hlt:j<sz:=by have:=(List.getElem?_eq_some_iff.1 hj).1;simp at this;omega
     rw[List.getElem?_take,if_pos hlt,List.getElem?_drop]at hj;simp[hlt]at hu;have hl:off+j<arr.size:=by omega
     rw[<-hu];simp only[yf_,Array.getElem?_eq_getElem hl,Option.getD_some];exact h4 _ _ (arr[off+j]) hj (by simp[hl])
    ·rw[hcell]
     have hl:off+j<arr.size:=by omega
     simp[hl,yf_]
   ·simp at h
  |some ds=>
  rw[hds]at h;simp only[qmx,Option.some.injEq]at h;subst h;have hd:=qbn hds;have hget:∀j,j<sz->∃x,ds[j]?=some x/\cs[off+j]?=some (.d x):=by
   intro j hj;have:(cs.drop off).take sz=ds.map .d:=hd;have h7:=congrArg (·[j]?) this;simp[List.getElem?_take,List.getElem?_drop,hj]at h7;have hl:off+j<cs.length:=by omega
   rw[List.getElem?_eq_getElem hl]at h7;cases hx:ds[j]? with
   |none=>rw[hx]at h7;simp at h7
   |some x=>rw[hx]at h7;simp at h7;exact⟨x,rfl,by rw[List.getElem?_eq_getElem hl,h7]⟩
  have hlds:ds.length=sz:=by
   have:=congrArg List.length hd;simp at this;omega
  refine⟨.agg ((List.range sz).map fun j=>arr.getD (off+j) undef).toArray,.d _ _ (.agg _ _ (by simp[hlds]) (fun v hv=> ?_) fun j v u hj hu=> ?_),fun _=>⟨_,rfl,fun j hj=> ?_⟩,by simp⟩
  ·obtain⟨j,hj⟩:=List.mem_iff_getElem?.1 hv
   have hlt:j<sz:=by have:=(List.getElem?_eq_some_iff.1 hj).1;omega
   obtain⟨x,hx,hx'⟩:=hget j hlt;rw[hj]at hx;simp at hx;subst hx
   exact(h5 _ (List.mem_of_getElem? hx')).1
  ·have hlt:j<sz:=by have:=(List.getElem?_eq_some_iff.1 hj).1;omega
   obtain⟨x,hx,hx'⟩:=hget j hlt;rw[hj]at hx;simp at hx;subst hx
   simp[hlt]at hu;have hl:off+j<arr.size:=by omega
   have:=h4 _ _ (arr[off+j]) hx' (by simp[hl]);rw[<-hu];simp[yf_,hl];exact qfp this
  ·rw[hcell]
   have hl:off+j<arr.size:=by omega
   simp[hl,yf_]
 |false=>
  simp at h;have hl:off<arr.size:=by have:=(List.getElem?_eq_some_iff.1 h).1;omega
  refine⟨arr[off],h4 _ _ _ h (by simp[hl]),by simp,fun _=> ?_⟩;have:=hcell 0;simpa[Addr.add,hl]using this
section
variable {p:Id} {call:qaz} {draw:Bool} {L0 i:Nat} {a:Act} {o:Oper} {s s':St}
theorem qpX{t:TypeId}{ad:Addr}{agg:Bool}{sz:Nat}{u:Value}(h1:qr3 P t=some agg)(h2:qfL P t=some sz)
 (ha:agg=true->∃f:Nat->Value,u= .agg ((List.range sz).map f).toArray/\∀j,j<sz->w.cell? (ad.add j)=some (f j)) (hb:agg=false->w.cell? ad=some u):
 (loadVar t ad).run P w= .ok u w:=by
 unfold loadVar;simp only[Sem.run_bind,qNu h1,Result.andThen_ok];cases agg with
 |true=>
  obtain⟨f,rfl,hf⟩:=ha rfl;simp only[if_true,Sem.run_bind,qpr h2,Result.andThen_ok];rw[run_loadCells w ad sz f hf];simp
 |false=>simp[hb rfl]
theorem qKz(hcore:Core fid g w s.B s.A)(hr:qfh fid g w s.r a.tmps)(hd:∀d,o.dst=some d->d<a.tmps.size){agg:Bool}{sz:Nat}{x:VX}(h:qaY P fid o.op (.load agg sz x)=true)
 {gd:Option (Nat×Bool)} {af:List Nat} (hv:qb2 call p draw L0 i ⟨o.dst,.load agg sz x,gd,af⟩ s=some s') (N:Id->Prop):Nonempty (Does P fid N g w a o s s'):=by
 obtain⟨dst,op,ty,pos,after,guard⟩:=o;cases op with
 |load t y=>
  simp only[qaY,Bool.and_eq_true,decide_eq_true_eq]at h;obtain⟨⟨h1,h2⟩,h3⟩:=h;simp only[qb2]at hv;split at hv
  ·rename_i cs hx
   obtain⟨v,hcut,rfl⟩:=ya_.1 hv;have hrel:=qas (w:=w) hr h3 hx;generalize hq:a.eval y=q at hrel;cases hrel with
   |ep _ ad U hs hK hcc=>
    obtain⟨u,hu,ha,hb⟩:=qPd (g:=g) (w:=w) hcut ad U hcc;refine⟨Does.still u hcore hr hd ?_ (.d _ _ hu)⟩;have:=qpX (P:=P) (w:=w) (ad:=ad) (u:=u) h1 h2 (fun e=>⟨U,(ha e).1,(ha e).2⟩) (fun e=>by have:=hb e;rw[this.1];simpa[Addr.add]using this.2);simp[execOp,Instr.loadAt,hq,Instr.sureAddr,this]
  ·rename_i b off hx
   split at hv
   ·simp at hv
   ·obtain⟨v,hl,rfl⟩:=ya_.1 hv
    obtain⟨blk,hb,he⟩:=qfo (qas (w:=w) hr h3 hx);obtain⟨u,hu,ha,hb'⟩:=qoG hcore hb hl;refine⟨Does.still u hcore hr hd ?_ hu⟩;have:=qpX (P:=P) (w:=w) (ad:=⟨blk,off,none⟩) (u:=u) h1 h2 ha hb';simp[execOp,Instr.loadAt,he,Instr.sureAddr,this]
  ·simp at hv
 |_=>simp[qaY]at h
end
end Go.Proofs.YtbcbkiaineacpaaGreat.VS
namespace Go.Proofs.YtbcbkiaineacpaaGreat.VS
variable {P:Program} {fid:Nat->FuncId} {g:Gh} {w:World}
theorem qq0{m:Nat}:∀{l:List AV},AV.safe.safes m l=true->∀v:AV,v∈l->v.safe m=true
 | [],_,v,h=>by simp at h
 |a::r,hs,v,h=>by
  unfold AV.safe.safes at hs;simp only[Bool.and_eq_true]at hs;rcases List.mem_cons.1 h with rfl|h
  ·exact hs.1
  ·exact qq0 hs.2 v h
theorem qm6{m:Nat}{t:Bool}{cs:List AV}(h:(AV.ag t cs).safe m=true):∀v:AV,v∈(AV.ag t cs).cells->v.safe m=true:=by
 intro v hv;cases t with
 |false=>unfold AV.safe at h;exact qq0 h v hv
 |true=>simp[AV.cells]at hv;subst hv;exact h
theorem qKT{v:AV}{u:Value}(h:AVR fid g w v u)(hc:v.isCell=true):u.oneCell'=true:=by
 cases h with
 |d v u hv=>cases hv<;>first|rfl|simp[AV.isCell,DV.isCell]at hc
 |ag cs us hs h=>simp[AV.isCell]at hc
 |tp cs us hs h=>simp[AV.isCell]at hc
 |und=>simp[AV.isCell]at hc
 |_=>rfl
theorem qsR{v:AV}{u:Value}(h:AVR fid g w v u)(hc:v.cells.all AV.isCell=true):
 u.cells.size=v.cells.length/\(∀(j:Nat) (c:AV) (x:Value),v.cells[j]?=some c->u.cells[j]?=some x->AVR fid g w c x)/\(∀x,x∈u.cells.toList->x.oneCell'=true):=by
 have one:∀(v:AV) (u:Value),v.cells=[v]->u.cells= #[u]->u.oneCell'=true->AVR fid g w v u->
  u.cells.size=v.cells.length/\(∀(j:Nat) (c:AV) (x:Value),v.cells[j]?=some c->u.cells[j]?=some x->AVR fid g w c x)/\(∀x,x∈u.cells.toList->x.oneCell'=true):=by
  intro v u h1 h2 h3 h4;rw[h1,h2];refine⟨rfl,fun j c x h5 h6=> ?_,fun x hx=>by simp at hx;subst hx;exact h3⟩;cases j<;>simp at h5 h6
  subst h5;subst h6;exact h4
 cases h with
 |d v u hv=>
  cases v with
  |agg cs=>
   have hcc:∀c,c∈(DV.agg cs).cells->c.isCell=true:=by
    intro c hm;have:=List.all_eq_true.1 hc (.d c) (by simp[AV.cells];exact hm);exact this
   obtain⟨h1,h2,h3⟩:=qph hv hcc;refine⟨by simpa[AV.cells,DV.cells]using h1,fun j c x h4 h5=> ?_,h3⟩;simp only[AV.cells,List.getElem?_map]at h4;obtain⟨c',h6,rfl⟩:=ya_.1 h4;exact .d _ _ (h2 j c' x h6 h5)
  |tup cs=>simp[AV.cells,AV.isCell,DV.isCell]at hc
  |int k n=>exact one _ _ rfl (by cases hv;rfl) (by cases hv;rfl) (.d _ _ hv)
  |bool b=>exact one _ _ rfl (by cases hv;rfl) (by cases hv;rfl) (.d _ _ hv)
  |str b=>exact one _ _ rfl (by cases hv;rfl) (by cases hv;rfl) (.d _ _ hv)
  |sl t xs=>exact one _ _ rfl (by cases hv<;>rfl) (by cases hv<;>rfl) (.d _ _ hv)
 |ptr i off b h=>exact one _ _ rfl rfl rfl (.ptr i off b h)
 |ep cs ad U hs hK h=>exact one _ _ rfl rfl rfl (.ep cs ad U hs hK h)
 |nilp=>exact one _ _ rfl rfl rfl .nilp
 |fn f cap us hs h=>exact one _ _ rfl rfl rfl (.fn f cap us hs h)
 |bsl id ag i sz n b h=>exact one _ _ rfl rfl rfl (.bsl id ag i sz n b h)
 |tsl ag i sz n c b h h1 h2=>exact one _ _ rfl rfl rfl (.tsl ag i sz n c b h h1 h2)
 |ag cs us hs h=>
  refine⟨hs,h,fun x hx=> ?_⟩;obtain⟨j,hj⟩:=List.mem_iff_getElem?.1 hx;have hj':us[j]?=some x:=by simpa[Value.cells]using hj
  have hlt:j<cs.length:=by have:=(Array.getElem?_eq_some_iff.1 hj').1;omega
  exact qKT (h j cs[j] x (by simp[hlt]) hj') (List.all_eq_true.1 hc _ (by simp[AV.cells]))
 |tp cs us hs h=>simp[AV.cells,AV.isCell]at hc
 |und=>simp[AV.cells,AV.isCell]at hc
theorem qoR{b:Nat}{arr arr':Array Value}{e:TypeId}(hb:w.heap[b]?=some (.cells arr e (0,0)))(hK:g.K b=0):Ext g w g (w.setRow b arr'):=by
 refine⟨⟨fun _=>Nat.le_refl _,fun ad had=> ?_,fun _ _ h=>h⟩,fun _ _ h=>h⟩;have hne:ad.block≠b:=fun h=>by rw[h,hK]at had;omega
 simp only[World.cell?];rw[setRow_other w b ad.block arr' hne]
section
variable {p:Id} {call:qaz} {draw:Bool} {L0 i:Nat} {a:Act} {o:Oper} {s s':St}
theorem qwj(hcore:Core fid g w s.B s.A)(hr:qfh fid g w s.r a.tmps)(hd:∀d,o.dst=some d->d<a.tmps.size){ini:Bool}{sz:Nat}{x y:VX}(h:qaY P fid o.op (.store ini sz x y)=true)
 {gd:Option (Nat×Bool)} {af:List Nat} (hv:qb2 call p draw L0 i ⟨o.dst,.store ini sz x y,gd,af⟩ s=some s') (N:Id->Prop):Nonempty (Does P fid N g w a o s s'):=by
 obtain⟨dst,op,ty,pos,after,guard⟩:=o;cases op with
 |store t x' y'=>
  simp only[qaY,Bool.and_eq_true,decide_eq_true_eq]at h;obtain⟨⟨h1,h2⟩,h3⟩:=h;simp only[qb2]at hv;split at hv
  ·rename_i b off v hx hy
   split at hv
   ·simp at hv
   ·obtain⟨s1,hs1,rfl⟩:=ya_.1 hv
    unfold qd6 at hs1;obtain⟨cs,hcs,hs1⟩:=yb_.1 hs1;split at hs1
    ·rename_i hcond
     obtain⟨hsz,hlen,hall,hsafe⟩:=hcond;simp at hs1;subst hs1
     obtain⟨blk,hb,he⟩:=qfo (qas (w:=w) hr h2 hx);have hy':=qas (w:=w) hr h3 hy;generalize hq:a.eval y'=q at hy';obtain⟨c1,c2,c3⟩:=qsR hy' hall;obtain⟨cs',arr,e,b1,b2,b3,b4,b5,b6⟩:=hcore.box b blk hb;have:cs'=cs:=by have:=qmy.1 hcs;rw[b1]at this;simpa using this
     subst this;have hst:=run_storeCells_at (P:=P) blk off e q.cells.toList 0 arr w b2 (by simp;omega) c3;have hrun:(execOp a.eval ⟨dst,.store t x' y',ty,pos,after,guard⟩).run P w= .ok .skip (w.setRow blk (arr.toList.take (off+0)++q.cells.toList++arr.toList.drop (off+0+q.cells.toList.length)).toArray):=by
      simp only[execOp,Instr.storeAt,he,Instr.sureAddr,hq,Sem.run_bind,Sem.run_pure,Result.andThen_ok,storeVar,qpr h1];rw[if_neg (by simp;omega),hst];simp
     have hnew:(arr.toList.take (off+0)++q.cells.toList++arr.toList.drop (off+0+q.cells.toList.length))=splice arr.toList off q.cells.toList:=by simp[splice]
     rw[hnew]at hrun;have hext:=qoR (g:=g) (arr':=(splice arr.toList off q.cells.toList).toArray) b2 b6;have hheap:=setRow_heap w blk arr (splice arr.toList off q.cells.toList).toArray e (0,0) b2;have hoth:∀b',b'≠blk->(w.setRow blk (splice arr.toList off q.cells.toList).toArray).heap[b']?=w.heap[b']?:=fun b' hb'=>setRow_other w blk b' _ hb'
     have hlt:b<s.B.length:=(List.getElem?_eq_some_iff.1 b1).1;refine⟨⟨.skip,undef,_,g,hrun,.inr ⟨rfl,rfl⟩,?_,.refl g w,?_,?_⟩⟩
     ·rw[qlQ,qe5]
      refine⟨fun i b' hb'=> ?_,hcore.inj,fun id hid=> ?_,hcore.apart,fun b' hb'=>hcore.K0 b' (by simpa[World.setRow]using hb')⟩
      ·by_cases hi:i=b
       ·subst hi
        rw[hb]at hb';simp at hb';subst hb'
        refine⟨splice cs' off v.cells,_,e,by simp[hlt],hheap,?_,fun j v' u' hj hu=> ?_,fun v' hm=> ?_,b6⟩
        ·simp only[List.size_toArray]
         rw[qco cs' _ _ (by omega),qco arr.toList _ _ (by simp;omega)];simpa using b3
        ·rw[qdq _ _ _ (by omega)]at hj
         simp only[List.getElem?_toArray]at hu;rw[qdq _ _ _ (by simp;omega)]at hu
         by_cases hc:off<=j/\j<off+v.cells.length
         ·rw[if_pos hc]at hj
          rw[if_pos (by simp;omega)]at hu;exact(c2 _ _ _ hj (by simpa using hu)).mono fid hext
         ·rw[if_neg hc]at hj
          rw[if_neg (by simp;omega)]at hu;exact(b4 _ _ _ hj (by simpa using hu)).mono fid hext
        ·obtain⟨j,hj⟩:=List.mem_iff_getElem?.1 hm
         rw[qdq _ _ _ (by omega)]at hj;split at hj
         ·have hmem:=List.mem_of_getElem? hj
          refine⟨List.all_eq_true.1 hall _ hmem,?_⟩;cases v with
          |d dv=>
           have:∃d',v'= .d d':=by
            cases dv<;>simp[AV.cells]at hmem<;>first|exact⟨_,hmem⟩|(obtain⟨d',_,rfl⟩:=hmem;exact⟨d',rfl⟩)
           obtain⟨d',rfl⟩:=this;unfold AV.safe;rfl
          |ag tp cs=>exact qm6 hsafe _ hmem
          |_=>simp[AV.cells]at hmem;subst hmem;exact hsafe
         ·exact b5 _ (List.mem_of_getElem? hj)
       ·obtain⟨cs2,arr2,e2,d1,d2,d3,d4,d5,d6⟩:=hcore.box i b' hb'
        have hne:b'≠blk:=fun h=>hi (hcore.inj i b b' hb' (by rw[h];exact hb))
        refine⟨cs2,arr2,e2,by rw[List.getElem?_set_ne (by omega)];exact d1,by rw[hoth _ hne];exact d2,d3,fun j v' u' hj hu=>(d4 j v' u' hj hu).mono fid hext,d5,d6⟩
      ·obtain⟨bb,n,c,sz',arr2,e2,o1,o2,o3,o4,o5,o6⟩:=hcore.opn id hid
       exact⟨bb,n,c,sz',arr2,e2,o1,by rw[hoth _ (fun h=>o6 b (by rw[h];exact hb))];exact o2,o3,o4,o5,o6⟩
     ·rw[qe5]
      refine⟨rfl,rfl,rfl,by simp[World.setRow],hext.toExtV,fun b' hlt' hbx _=>⟨hoth b' (fun h=>hbx b (by rw[h];exact hb)),rfl⟩,fun _ h=>absurd rfl h,fun id b' hid hb'=> .inr ⟨id,hid,hb'⟩,fun b' c' e' z' h'=>by
       by_cases he:b'=blk
       ·subst he
        rw[b2]at h';simp only[Option.some.injEq,Obj.cells.injEq]at h';obtain⟨rfl,rfl,rfl⟩:=h';exact⟨_,hheap,by rw[List.size_toArray,qco _ _ _ (by simp;omega)];simp⟩
       ·exact⟨c',by rw[hoth b' he];exact h',rfl⟩⟩
     ·exact qcp (s:={s with B:=_}) (hr.mono fid hext) .und hd
    ·simp at hs1
  ·simp at hv
 |_=>simp[qaY]at h
end
end Go.Proofs.YtbcbkiaineacpaaGreat.VS
namespace Go.Proofs.YtbcbkiaineacpaaGreat.VS
variable {P:Program} {fid:Nat->FuncId} {g:Gh} {w:World}
theorem qhS(w:World)(o:Obj){b:Nat}(h:b<w.heap.size):({w with heap:=w.heap.push o}:World).heap[b]?=w.heap[b]?:=by
 simp[Array.getElem?_push,Nat.ne_of_lt h]
theorem qFJ(w:World)(o:Obj):({w with heap:=w.heap.push o}:World).heap[w.heap.size]?=some o:=by simp
theorem qGk{K0:∀b,w.heap.size<=b->g.K b=0}(o:Obj):ExtV g w g {w with heap:=w.heap.push o}:=by
 refine⟨fun _=>Nat.le_refl _,fun ad had=> ?_,fun _ _ h=>h⟩;have hlt:ad.block<w.heap.size:=by
  rcases Nat.lt_or_ge ad.block w.heap.size with h|h
  ·exact h
  ·rw[K0 _ h]at had;omega
 simp only[World.cell?];rw[qhS w o hlt]
theorem qDH{B:qao}{i:Nat}:qdv B i=true↔B[i]?=some none:=by
 unfold qdv;split
 ·rename_i h;rw[h];simp
 ·rename_i h
  constructor
  ·intro h';simp at h'
  ·intro h';exact absurd h' h
theorem Core.lt{B:qao}{A:Ids}(hc:Core fid g w B A){i b:Nat}(h:g.bx i=some b):b<w.heap.size:=by
 obtain⟨cs,arr,e,_,h2,_⟩:=hc.box i b h;exact(Array.getElem?_eq_some_iff.1 h2).1
theorem qFK{B:qao}{A:Ids}(hc:Core fid g w B A){i0:Nat}(hf:qdv B i0=true)(cs:List AV)(arr:Array Value)(e:TypeId)(hsz:arr.size=cs.length)
 (hv:∀(j:Nat) (v:AV) (u:Value),cs[j]?=some v->arr[j]?=some u->AVR fid g w v u) (hcell:∀v,v∈cs->v.isCell=true/\v.safe i0=true) (N:Id->Prop):
 ∃g1,Core fid g1 {w with heap:=w.heap.push (.cells arr e)} (B.set i0 (some cs)) A/\Boxes g w g1/\Step N g w A g1 {w with heap:=w.heap.push (.cells arr e)} A/\
  Ext g w g1 {w with heap:=w.heap.push (.cells arr e)}/\g1.bx i0=some w.heap.size:=by
 have hB:=qDH.1 hf;have hlt:i0<B.length:=(List.getElem?_eq_some_iff.1 hB).1;have hnone:g.bx i0=none:=by
  cases h:g.bx i0 with
  |none=>rfl
  |some b=>
   obtain⟨cs',arr',e',h1,_⟩:=hc.box i0 b h;rw[hB]at h1;simp at h1
 have hE:ExtV g w g {w with heap:=w.heap.push (.cells arr e)}:=qGk (K0:=hc.K0) _;have hext:Ext g w {g with bx:=fun j=>if j=i0 then some w.heap.size else g.bx j} {w with heap:=w.heap.push (.cells arr e)}:=by
  refine⟨⟨hE.K,hE.cell,hE.row⟩,fun i b h=> ?_⟩;simp only;rw[if_neg (fun he=>by rw[he,hnone]at h;simp at h)];exact h
 refine⟨{g with bx:=fun j=>if j=i0 then some w.heap.size else g.bx j},⟨fun i b h=> ?_,fun i j b h1 h2=> ?_,fun a ha=> ?_,hc.apart,fun b hb=>hc.K0 b (by simp at hb;omega)⟩,⟨hext.bx,fun i b h=> ?_⟩,?_,hext,by simp⟩
 ·simp only at h
  by_cases hi:i=i0
  ·subst hi
   simp at h;subst h
   exact⟨cs,arr,e,by simp[hlt],qFJ w _,Nat.le_of_eq hsz.symm,fun j v u h1 h2=>(hv j v u h1 h2).mono fid hext,hcell,hc.K0 _ (Nat.le_refl _)⟩
  ·rw[if_neg hi]at h
   obtain⟨cs',arr',e',h1,h2,h3,h4,h5,h6⟩:=hc.box i b h;exact⟨cs',arr',e',by rw[List.getElem?_set_ne (Ne.symm hi)];exact h1,by rw[qhS w _ (hc.lt h)];exact h2,h3,fun j v u h7 h8=>(h4 j v u h7 h8).mono fid hext,h5,h6⟩
 ·simp only at h1 h2
  by_cases hi:i=i0<;>by_cases hj:j=i0
  ·rw[hi,hj]
  ·rw[if_pos hi]at h1;rw[if_neg hj]at h2
   simp at h1;subst h1
   have:=hc.lt h2;omega
  ·rw[if_neg hi]at h1;rw[if_pos hj]at h2
   simp at h2;subst h2
   have:=hc.lt h1;omega
  ·rw[if_neg hi]at h1;rw[if_neg hj]at h2
   exact hc.inj i j b h1 h2
 ·obtain⟨b,n,c,sz,arr2,e2,o1,o2,o3,o4,o5,o6⟩:=hc.opn a ha
  have hbl:b<w.heap.size:=(Array.getElem?_eq_some_iff.1 o2).1;refine⟨b,n,c,sz,arr2,e2,o1,by rw[qhS w _ hbl];exact o2,o3,o4,o5,fun i h=> ?_⟩;simp only at h;split at h
  ·simp at h;omega
  ·exact o6 i h
 ·simp only at h
  split at h
  ·simp at h;subst h;exact .inr (Nat.le_refl _)
  ·exact .inl h
 ·refine⟨rfl,rfl,rfl,by simp,⟨hE.K,hE.cell,hE.row⟩,fun b hb _ _=>⟨qhS w _ hb,rfl⟩,fun _ h=>absurd rfl h,fun id b hid hb=> .inr ⟨id,hid,hb⟩,fun b c e z h=>⟨c,by rw[qhS w _ (Array.getElem?_eq_some_iff.1 h).1];exact h,rfl⟩⟩
section
variable {p:Id} {call:qaz} {draw:Bool} {L0 i:Nat} {a:Act} {o:Oper} {s s':St}
theorem qqb(hcore:Core fid g w s.B s.A)(hr:qfh fid g w s.r a.tmps)(hd:∀d,o.dst=some d->d<a.tmps.size){i0:Nat}(hf:qdv s.B i0=true){cs:List AV}{arr:Array Value}{e:TypeId}(hsz:arr.size=cs.length)
 (hv:∀(j:Nat) (v:AV) (u:Value),cs[j]?=some v->arr[j]?=some u->AVR fid g w v u) (hcell:∀v,v∈cs->v.isCell=true/\v.safe i0=true) (N:Id->Prop) {u:Value} {v:AV}
 (hrun:(execOp a.eval o).run P w= .ok (.value u) {w with heap:=w.heap.push (.cells arr e)})
 (hu:∀(g1:Gh) (w1:World),g1.bx i0=some w.heap.size->AVR fid g1 w1 v u):
 Nonempty (Does P fid N g w a o s ({s with B:=s.B.set i0 (some cs)}.put o.dst v)):=by
 obtain⟨g1,c1,b1,s1,e1,x1⟩:=qFK hcore hf cs arr e hsz hv hcell N;refine⟨⟨_,u,_,g1,hrun,.inl rfl,by rw[qlQ,qe5];exact c1,b1,by rw[qe5];exact s1,qcp (s:={s with B:=_}) (hr.mono fid e1) (hu g1 _ x1) hd⟩⟩
theorem qGo(hcore:Core fid g w s.B s.A)(hr:qfh fid g w s.r a.tmps)(hd:∀d,o.dst=some d->d<a.tmps.size){k:Nat}{zero:List DV}(h:qaY P fid o.op (.alloc k zero)=true)
 {gd:Option (Nat×Bool)} {af:List Nat} (hv:qb2 call p draw L0 i ⟨o.dst,.alloc k zero,gd,af⟩ s=some s') (N:Id->Prop):Nonempty (Does P fid N g w a o s s'):=by
 obtain⟨dst,op,ty,pos,after,guard⟩:=o;cases op with
 |alloc t=>
  simp only[qaY]at h;unfold qD7 at h;split at h
  ·rename_i z hz
   obtain⟨it,hit,hzero⟩:=yb_.1 hz;simp only[qb2]at hv;split at hv
   ·rename_i hc
    simp at hv;subst hv
    have hcv:=qoE (g:=g) (w:=w) h;refine qqb (arr:=z.cells) (e:=t) (u:= .pointer (some ⟨w.heap.size,0,none⟩)) hcore hr hd hc.1 (by simpa using hcv.1) (fun j v u h1 h2=> ?_) (fun v hm=> ?_) N ?_ (fun g1 w1 hb=> .ptr _ _ _ hb)
    ·simp only[List.getElem?_map]at h1
     obtain⟨d,h3,rfl⟩:=ya_.1 h1;exact .d _ _ (hcv.2.2 j d u h3 h2)
    ·simp at hm
     obtain⟨d,h3,rfl⟩:=hm;exact⟨hcv.2.1 d h3,by unfold AV.safe;rfl⟩
    ·simp[execOp,Instr.alloc,zeroValue,typeInfo,hit,hzero,newVar,newRow]
   ·simp at hv
  ·simp at h
 |_=>simp[qaY]at h
theorem qO9(hcore:Core fid g w s.B s.A)(hr:qfh fid g w s.r a.tmps)(hd:∀d,o.dst=some d->d<a.tmps.size){k:Nat}{x:VX}(h:qaY P fid o.op (.box k x)=true)
 {gd:Option (Nat×Bool)} {af:List Nat} (hv:qb2 call p draw L0 i ⟨o.dst,.box k x,gd,af⟩ s=some s') (N:Id->Prop):Nonempty (Does P fid N g w a o s s'):=by
 obtain⟨dst,op,ty,pos,after,guard⟩:=o;cases op with
 |box t y=>
  simp only[qaY]at h;simp only[qb2]at hv;obtain⟨v,hx,hv⟩:=yb_.1 hv;split at hv
  ·rename_i hc
   obtain⟨hf,hall,hsafe⟩:=hc;simp at hv;subst hv
   have hy:=qas (w:=w) hr h hx;generalize hq:a.eval y=q at hy;obtain⟨c1,c2,c3⟩:=qsR hy hall;refine qqb (arr:=q.cells) (e:=t) (u:= .pointer (some ⟨w.heap.size,0,none⟩)) hcore hr hd hf c1 c2 (fun v' hm=> ?_) N ?_ (fun g1 w1 hb=> .ptr _ _ _ hb)
   ·refine⟨List.all_eq_true.1 hall _ hm,?_⟩
    cases v with
    |d dv=>
     have:∃d',v'= .d d':=by
      cases dv<;>simp[AV.cells]at hm<;>first|exact⟨_,hm⟩|(obtain⟨d',_,rfl⟩:=hm;exact⟨d',rfl⟩)
     obtain⟨d',rfl⟩:=this;unfold AV.safe;rfl
    |ag tp cs=>exact qm6 hsafe _ hm
    |_=>simp[AV.cells]at hm;subst hm;exact hsafe
   ·simp[execOp,Instr.box,hq,newVar,newRow]
  ·simp at hv
 |_=>simp[qaY]at h
end
end Go.Proofs.YtbcbkiaineacpaaGreat.VS
namespace Go.Proofs.YtbcbkiaineacpaaGreat.VS
variable {P:Program} {fid:Nat->FuncId} {g:Gh} {w:World}
theorem wrap_i64{n:Int}(h: -9223372036854775808<=n)(h':n<9223372036854775808):IntKind.i64.wrap n=n:=by
 show(if(true&&decide (n%18446744073709551616>=9223372036854775808))=true then n%18446744073709551616-18446744073709551616 else n%18446744073709551616)=n;simp only[Bool.true_and,decide_eq_true_eq];split<;>omega
def flat(xs:List DV):List DV:=xs.flatMap DV.cells
theorem qd8{s:Nat}:∀{xs:List DV},(∀x:DV,x∈xs->x.cells.length=s)->(flat xs).length=xs.length*s
 | [],_=>by simp[flat]
 |x::xs,h=>by
  have h1:=h x (by simp);have h2:=qd8 (xs:=xs) (fun y hy=>h y (by simp[hy]));simp only[flat,List.flatMap_cons,yg_,List.length_cons,Nat.add_mul]at h2⊢
  omega
theorem flat_get{s:Nat}:∀{xs:List DV},(∀x:DV,x∈xs->x.cells.length=s)->∀(i j:Nat) (x:DV),xs[i]?=some x->j<s->(flat xs)[i*s+j]?=x.cells[j]?
 | [],_,i,j,x,h,_=>by simp at h
 |y::ys,hs,i,j,x,h,hj=>by
  have h1:=hs y (by simp);have hc:flat (y::ys)=y.cells++flat ys:=by simp[flat]
  cases i with
  |zero=>
   simp at h;subst h
   rw[hc,ye_ (by omega)];simp
  |succ i=>
   simp at h;have ih:=flat_get (xs:=ys) (fun z hz=>hs z (by simp[hz])) i j x h hj;rw[hc,yd_ (by rw[Nat.add_mul];omega),<-ih]
   congr 1
   rw[Nat.add_mul];omega
theorem qp8{s:Nat}:∀{xs:List DV} (i:Nat) (v:DV),(∀x:DV,x∈xs->x.cells.length=s)->v.cells.length=s->i<xs.length->flat (xs.set i v)=splice (flat xs) (i*s) v.cells
 | [],i,v,_,_,h=>by simp at h
 |y::ys,i,v,hs,hv,h=>by
  have h1:=hs y (by simp);have hc:∀z zs,flat (z::zs)=z.cells++flat zs:=fun z zs=>by simp[flat]
  cases i with
  |zero=>
   simp only[List.set_cons_zero,hc,splice,Nat.zero_mul,List.take_zero,List.nil_append,Nat.zero_add];rw[hv,<-h1,List.drop_left]
  |succ i=>
   simp only[List.set_cons_succ,hc];rw[qp8 i v (fun z hz=>hs z (by simp[hz])) hv (by simpa using h)];simp only[splice];have e1:(i+1)*s=y.cells.length+i*s:=by rw[Nat.add_mul];omega
   rw[e1,List.take_append,List.take_of_length_le (l:=y.cells) (by omega),show y.cells.length+i*s-y.cells.length=i*s by omega];rw[List.drop_append,List.drop_eq_nil_of_le (as:=y.cells) (by omega),show y.cells.length+i*s+v.cells.length-y.cells.length=i*s+v.cells.length by omega];simp[yh_]
theorem qkm{B:qao}{A:Ids}(hc:Core fid g w B A){id:Id}(hfresh:g.row id=none)(xs:List DV)(sz c:Nat)(arr:Array Value)(e:TypeId)(w1:World)
 (h1:w1.heap=w.heap.push (.cells arr e)) (ho:w1.os=w.os) (ht:w1.tape=w.tape) (hout:w1.output=w.output)
 (hlen:xs.length<=c) (hem:xs=[]->c=0) (hm:c<=maxLen) (harr:arr.size=c*sz) (hel:∀x:DV,x∈xs->x.cells.length=sz/\∀v:DV,v∈x.cells->v.isCell=true)
 (hv:∀(k:Nat) (v:DV),(flat xs)[k]?=some v->∃u,arr[k]?=some u/\VR g w v u) (N:Id->Prop) (hN:N id):
 ∃g1,Core fid g1 w1 B (Ids.add id A)/\Boxes g w g1/\Step N g w A g1 w1 (Ids.add id A)/\Ext g w g1 w1/\VR g1 w1 (.sl (.own id sz) xs) (.slice (some ⟨w.heap.size,0,none⟩) xs.length c):=by
 have hold:∀b,b<w.heap.size->w1.heap[b]?=w.heap[b]?:=fun b hb=>by rw[h1];simp[Array.getElem?_push,Nat.ne_of_lt hb]
 have hnew:w1.heap[w.heap.size]?=some (.cells arr e):=by rw[h1];simp
 have hfl:=qd8 (xs:=xs) (fun x hx=>(hel x hx).1);have hext:Ext g w {K:=fun b=>if b=w.heap.size then xs.length*sz else g.K b,row:=fun a=>if a=id then some (w.heap.size,xs.length,c,sz)else g.row a,bx:=g.bx} w1:=by
  refine⟨⟨fun b=> ?_,fun ad had=> ?_,fun a x h=> ?_⟩,fun _ _ h=>h⟩
  ·simp only
   split
   ·rename_i hb;subst hb;rw[hc.K0 _ (Nat.le_refl _)];exact Nat.zero_le _
   ·exact Nat.le_refl _
  ·have hlt:ad.block<w.heap.size:=by
    rcases Nat.lt_or_ge ad.block w.heap.size with h|h
    ·exact h
    ·rw[hc.K0 _ h]at had;omega
   simp only[World.cell?];rw[hold _ hlt]
  ·simp only
   rw[if_neg (fun he=>by rw[he,hfresh]at h;simp at h)];exact h
 have hbig:∀a b x,A a=true->g.row a=some (b,x)->b<w.heap.size:=by
  intro a b x ha hb;obtain⟨b',n,c',sz',arr2,e2,o1,o2,_⟩:=hc.opn a ha;rw[hb]at o1;simp at o1
  rw[o1.1];exact(Array.getElem?_eq_some_iff.1 o2).1
 have hnid:∀a,A a=true->a≠id:=by
  intro a ha he;obtain⟨b',n,c',sz',arr2,e2,o1,_⟩:=hc.opn a ha;rw[he,hfresh]at o1;simp at o1
 refine⟨{K:=fun b=>if b=w.heap.size then xs.length*sz else g.K b,row:=fun a=>if a=id then some (w.heap.size,xs.length,c,sz)else g.row a,bx:=g.bx},⟨fun i b h=> ?_,hc.inj,fun a ha=> ?_,fun a a' b x x' ha ha' hb hb'=> ?_,fun b hb=> ?_⟩,⟨hext.bx,fun i b h=> .inl h⟩,⟨ho,ht,hout,by rw[h1];simp,hext.toExtV,fun b hb _ _=>⟨hold b hb,?_⟩,fun a ha=> ?_,fun a b ha hb=> ?_,fun b c e z h=>⟨c,by rw[hold b (Array.getElem?_eq_some_iff.1 h).1];exact h,rfl⟩⟩,hext,?_⟩
 ·obtain⟨cs',arr',e',b1,b2,b3,b4,b5,b6⟩:=hc.box i b h
  have hlt:=hc.lt h;refine⟨cs',arr',e',b1,by rw[hold _ hlt];exact b2,b3,fun j v u h7 h8=>(b4 j v u h7 h8).mono fid hext,b5,?_⟩;simp only;rw[if_neg (by omega)];exact b6
 ·simp only[Ids.add,Bool.or_eq_true,decide_eq_true_eq]at ha
  rcases ha with rfl|ha
  ·exact⟨w.heap.size,xs.length,c,sz,arr,e,by simp,hnew,Nat.le_of_eq harr.symm,by simp,hlen,fun i h=>by have:=hc.lt h;omega⟩
  ·obtain⟨b,n,c',sz',arr2,e2,o1,o2,o3,o4,o5,o6⟩:=hc.opn a ha
   have hlt:b<w.heap.size:=(Array.getElem?_eq_some_iff.1 o2).1;refine⟨b,n,c',sz',arr2,e2,by simp only;rw[if_neg (hnid a ha)];exact o1,by rw[hold _ hlt];exact o2,o3,?_,o5,o6⟩;simp only;rw[if_neg (by omega)];exact o4
 ·simp only[Ids.add,Bool.or_eq_true,decide_eq_true_eq]at ha ha'
  simp only at hb hb';rcases ha with rfl|ha<;>rcases ha' with rfl|ha'
  ·rfl
  ·rw[if_neg (hnid a' ha')]at hb'
   simp at hb;have:=hbig a' b x' ha' hb';omega
  ·rw[if_neg (hnid a ha)]at hb
   simp at hb';have:=hbig a b x ha hb;omega
  ·rw[if_neg (hnid a ha)]at hb
   rw[if_neg (hnid a' ha')]at hb';exact hc.apart a a' b x x' ha ha' hb hb'
 ·rw[h1]at hb
  simp at hb;simp only;rw[if_neg (by omega)];exact hc.K0 b (by omega)
 ·simp only
  rw[if_neg (by omega)]
 ·simp only at ha
  split at ha
  ·rename_i he;subst he;exact hN
  ·exact absurd rfl ha
 ·simp only[Ids.add,Bool.or_eq_true,decide_eq_true_eq]at ha
  simp only[Gh.blk]at hb;rcases ha with rfl|ha
  ·simp at hb;left;omega
  ·rw[if_neg (hnid a ha)]at hb
   exact .inr ⟨a,ha,hb⟩
 ·refine .row _ xs ⟨w.heap.size,0,none⟩ c sz (fun k=>arr.getD k undef) (by simp) hlen hm (fun k hk=> ?_) (.inr (by simp)) (fun i x hi=>hel x (List.mem_of_getElem? hi)) (fun i x j v hi hj=> ?_) (fun a sz' h=> ?_)
  ·have:(⟨w.heap.size,0,none⟩:Addr).add k=⟨w.heap.size,k,none⟩:=by unfold Addr.add;split<;>simp_all
   rw[this];have hk':k<arr.size:=by rw[harr];exact Nat.lt_of_lt_of_le hk (Nat.mul_le_mul_right _ hlen)
   simp[World.cell?,hnew,hk',yf_]
  ·have hx:=hel x (List.mem_of_getElem? hi)
   have hjs:j<sz:=by have:=(List.getElem?_eq_some_iff.1 hj).1;omega
   have hfg:=flat_get (xs:=xs) (fun x hx=>(hel x hx).1) i j x hi hjs;rw[hj]at hfg;obtain⟨u,hu,hvr⟩:=hv _ _ hfg;rw[yf_,hu];exact hvr.mono hext.toExtV
  ·simp at h
   obtain⟨rfl,rfl⟩:=h;exact⟨rfl,rfl,rfl,by simp,hem⟩
section
variable {p:Id} {call:qaz} {draw:Bool} {L0 i:Nat} {a:Act} {o:Oper} {s s':St}
theorem qii{r:List (Nat×AV)}{sz:Nat}:∀(ps:List (Nat×Operand)) (ps':List (Nat×VX)) (xs xs':List DV),qxU fid ps ps'=true->qaR (VX.get r) sz xs ps'=some xs'->
 (∀x:DV,x∈xs->x.cells.length=sz/\∀v:DV,v∈x.cells->v.isCell=true)->
 ∃ps2,qgA fid (fun i=>some (i*sz,sz)) ps ps2=true/\qaG (VX.get r) (flat xs) ps2=some (flat xs')/\xs'.length=xs.length/\
  (∀x:DV,x∈xs'->x.cells.length=sz/\∀v:DV,v∈x.cells->v.isCell=true)
 | [],[],xs,xs',_,h,hx=>by simp[qaR]at h;subst h;exact⟨[],rfl,rfl,rfl,hx⟩
 |(i,o)::ps,(i',x)::ps',xs,xs',hok,h,hx=>by
  simp only[qxU,Bool.and_eq_true,beq_iff_eq]at hok;obtain⟨⟨rfl,h1⟩,h2⟩:=hok;simp only[qaR]at h;split at h
  ·rename_i v hv
   split at h
   ·rename_i hc
    obtain⟨hl,hi,hall⟩:=hc;have hall':∀c:DV,c∈v.cells->c.isCell=true:=fun c hm=>List.all_eq_true.1 hall c hm
    have hx2:∀x:DV,x∈xs.set i v->x.cells.length=sz/\∀v:DV,v∈x.cells->v.isCell=true:=by
     intro y hy;rcases List.mem_or_eq_of_mem_set hy with h3|h3
     ·exact hx y h3
     ·subst h3;exact⟨hl,hall'⟩
    obtain⟨ps2,h3,h4,h5,h6⟩:=qii ps ps' _ xs' h2 h hx2;refine⟨(i*sz,sz,x)::ps2,by simp[qgA,h1,h3],?_,by simpa using h5,h6⟩;have hfl:=qd8 (xs:=xs) (fun x hx'=>(hx x hx').1);have hle:i*sz+sz<=(flat xs).length:=by
     rw[hfl];have:=Nat.mul_le_mul_right sz (show i+1<=xs.length by omega);rw[Nat.add_mul]at this;omega
    simp only[qaG,hv];rw[if_pos ⟨hl,by omega,hall⟩,<-qp8 i v (fun x hx'=>(hx x hx').1) hl hi];exact h4
   ·simp at h
  ·simp at h
 | [],_::_,_,_,h,_,_=>by simp[qxU]at h
 |_::_,[],_,_,h,_,_=>by simp[qxU]at h
theorem qmV{t:TypeId}{v:DV}{it:TypeInfo}{z:Value}(hit:P.info? t=some it)(hz:it.zero=some z)(h:zeroV P t v=true)(hc:v.cells.all DV.isCell=true):qe3 g w v.cells z.cells:=by
 unfold zeroV at h;simp[hit,hz]at h;have hvr:=qrW (g:=g) (w:=w) h;obtain⟨h1,h2,h3⟩:=qph hvr (fun c hm=>List.all_eq_true.1 hc c hm);exact⟨h1,fun c hm=>List.all_eq_true.1 hc c hm,h2⟩
theorem quS{z:DV}{zs:Array Value}{sz:Nat}(hz:qe3 g w z.cells zs)(hl:z.cells.length=sz)(n:Nat):
 qe3 g w (flat (List.replicate n z)) ((Array.range (n*sz)).map fun j=>zs[j%zs.size]!):=by
 have hs:zs.size=sz:=by rw[hz.1,hl]
 have hfl:(flat (List.replicate n z)).length=n*sz:=by
  rw[qd8 (s:=sz) (fun x hx=>by rw[List.eq_of_mem_replicate hx];exact hl)];simp
 refine⟨by simp[hfl],fun v hv=> ?_,fun j v u hj hu=> ?_⟩
 ·simp only[flat,List.mem_flatMap]at hv
  obtain⟨x,hx,hv⟩:=hv;rw[List.eq_of_mem_replicate hx]at hv;exact hz.2.1 v hv
 ·have hlt:j<n*sz:=by have:=(List.getElem?_eq_some_iff.1 hj).1;omega
  have hsz:0<sz:=by
   rcases Nat.eq_zero_or_pos sz with h|h
   ·rw[h]at hlt;simp at hlt
   ·exact h
  have hq:j/sz<n:=Nat.div_lt_of_lt_mul (by rw[Nat.mul_comm];exact hlt);have hr:=Nat.mod_lt j hsz;have hfg:=flat_get (xs:=List.replicate n z) (s:=sz) (fun x hx=>by rw[List.eq_of_mem_replicate hx];exact hl) (j/sz) (j%sz) z (by simp[hq]) hr;rw[show j/sz*sz+j%sz=j by rw[Nat.mul_comm];exact Nat.div_add_mod j sz,hj]at hfg;simp[hlt]at hu;have hr':j%sz<zs.size:=by omega
  rw[hs]at hu;simp[hr']at hu;exact hz.2.2 _ _ _ hfg.symm (by rw[<-hu];simp[hr'])
theorem qqc(hcore:Core fid g w s.B s.A)(hr:qfh fid g w s.r a.tmps)(hd:∀d,o.dst=some d->d<a.tmps.size){sz n:Nat}{z:DV}{ps':List (Nat×VX)}(h:qaY P fid o.op (.buildSlice sz z n ps')=true)
 {gd:Option (Nat×Bool)} {af:List Nat} (hv:qb2 call p draw L0 i ⟨o.dst,.buildSlice sz z n ps',gd,af⟩ s=some s') (hfr:g.row ((s.c+i)::p)=none):Nonempty (Does P fid (under (s.c+i) p) g w a o s s'):=by
 obtain⟨dst,op,ty,pos,after,guard⟩:=o;cases op with
 |buildSlice t n' ps=>
  simp only[qaY,Bool.and_eq_true,decide_eq_true_eq]at h;obtain⟨rfl,h⟩:=h;split at h
  ·rename_i e he
   simp only[Bool.and_eq_true,decide_eq_true_eq]at h;obtain⟨⟨h1,h2⟩,h3⟩:=h;have hu:=qpR he;obtain⟨it,hit,hsz⟩:=qpQ h1;simp only[qb2]at hv;split at hv
   ·rename_i hc
    obtain⟨hzl,hzc,hbig,hbig2⟩:=hc;obtain⟨xs,hxs,rfl⟩:=ya_.1 hv;obtain⟨zv,hzv⟩:∃zv,it.zero=some zv:=by
     unfold zeroV at h2;simp[hit]at h2;cases hq:it.zero with
     |none=>simp[hq]at h2
     |some z=>exact⟨z,rfl⟩
    have hz:=qmV (g:=g) (w:=w) hit hzv h2 hzc;have hzz:=quS hz hzl n';obtain⟨ps2,q1,q2,q3,q4⟩:=qii ps.toList ps' _ xs h3 hxs (fun x hx=>by rw[List.eq_of_mem_replicate hx];exact⟨hzl,fun v hv=>List.all_eq_true.1 hzc v hv⟩);obtain⟨arr,f1,f2⟩:=qut hr _ ps.toList ps2 _ _ _ q1 q2 hzz;have hlen:xs.length=n':=by simpa using q3
    have hfl:=qd8 (xs:=xs) (fun x hx=>(q4 x hx).1);obtain⟨g1,c1,b1,s1,e1,v1⟩:=qkm hcore hfr xs sz n' arr e {w with heap:=w.heap.push (.cells arr e)} rfl rfl rfl rfl (by omega) (fun h=>by rw[h]at hlen;simpa using hlen.symm)
     (by simp only[maxLen];omega)
     (by rw[f2.1,hfl,hlen]) q4 (fun k v hk=>by
      have hlt:k<arr.size:=by have:=(List.getElem?_eq_some_iff.1 hk).1;rw[f2.1];exact this
      exact⟨arr[k],by simp[hlt],f2.2.2 k v _ hk (by simp[hlt])⟩) (under (s.c+i) p) ⟨[],rfl⟩
    refine⟨⟨_,.slice (some ⟨w.heap.size,0,none⟩) n' n',_,g1,?_,.inl rfl,by rw[qlQ,qe5];exact c1,b1,by rw[qe5];exact s1,qcp (s:={s with A:=_}) (hr.mono fid e1) (.d _ _ (by rw[hlen]at v1;exact v1)) hd⟩⟩;have hnb:¬(2^24<n'*sz):=by omega
    have hfill:Instr.fill (fun i=>some (i*sz,sz)) ((Array.range (n'*sz)).map fun j=>zv.cells[j%zv.cells.size]!) (ps.map fun(i,x)=>(i,a.eval x)).toList=some arr:=by
     have e:(ps.map fun(i,x)=>(i,a.eval x)).toList=ps.toList.map fun q=>(q.1,a.eval q.2):=by simp
     rw[e];exact f1
    simp only[execOp,Instr.buildSlice,Sem.run_bind,qkM hu,Result.andThen_ok,qpr h1]
    by_cases h0:n'*sz=0
    ·simp only[h0]at hfill⊢
     simp at hfill;have hr0:∀f:Nat->Value,Array.map f (Array.range 0)= #[]:=fun f=>by simp[Array.range]
     rw[hr0]at hfill;simp[hr0,hfill,newRow]
    ·simp[hnb,h0,zeroValue,typeInfo,hit,hzv]
     simp at hfill;simp[hfill,newRow]
   ·simp at hv
  ·simp at h
 |_=>simp[qaY]at h
theorem qsp(hcore:Core fid g w s.B s.A)(hr:qfh fid g w s.r a.tmps)(hd:∀d,o.dst=some d->d<a.tmps.size){k sz bytes:Nat}{z:DV}{x:VX}(h:qaY P fid o.op (.makeSlice k sz bytes z x)=true)
 {gd:Option (Nat×Bool)} {af:List Nat} (hv:qb2 call p draw L0 i ⟨o.dst,.makeSlice k sz bytes z x,gd,af⟩ s=some s') (N:Id->Prop):Nonempty (Does P fid N g w a o s s'):=by
 obtain⟨dst,op,ty,pos,after,guard⟩:=o;cases op with
 |makeSlice t l c=>
  simp only[qaY,Bool.and_eq_true]at h;obtain⟨⟨h1,h2⟩,h⟩:=h;split at h
  ·rename_i e he
   simp only[Bool.and_eq_true,decide_eq_true_eq]at h;obtain⟨⟨h3,h4⟩,h5⟩:=h;have hu:=qpR he;obtain⟨it,hit,hsz⟩:=qpQ h3;have hby:it.bytes=bytes:=by
    unfold qwr at h4;simp[hit]at h4;exact h4
   simp only[qb2]at hv;split at hv
   ·rename_i kk n hx
    split at hv
    ·rename_i hc
     obtain⟨hdr,hf,hn0,hnb,hn63,hzl,hzc⟩:=hc;simp at hv;subst hv
     obtain⟨m,rfl⟩:=Int.eq_ofNat_of_zero_le hn0;simp only[Int.toNat_natCast]at hnb⊢
     have e1:=qdm (qas (w:=w) hr h1 hx);have e2:=qdm (qas (w:=w) hr h2 hx);obtain⟨zv,hzv⟩:∃zv,it.zero=some zv:=by
      unfold zeroV at h5;simp[hit]at h5;cases hq:it.zero with
      |none=>simp[hq]at h5
      |some z=>exact⟨z,rfl⟩
     have hz:=qmV (g:=g) (w:=w) hit hzv h5 hzc;have hzz:=quS hz hzl m;refine qqb (arr:=(Array.range (m*sz)).map fun j=>zv.cells[j%zv.cells.size]!) (e:=e) (u:= .slice (some ⟨w.heap.size,0,none⟩) m m) hcore hr hd hf (by rw[hzz.1];simp[flat]) (fun j v u q1 q2=> ?_) (fun v hm=> ?_) N ?_ (fun g1 w1 hb=> .bsl _ _ _ _ _ _ hb)
     ·simp only[List.getElem?_map]at q1
      obtain⟨d,q3,rfl⟩:=ya_.1 q1;exact .d _ _ (hzz.2.2 j d u q3 q2)
     ·simp only[List.mem_map]at hm
      obtain⟨d,q3,rfl⟩:=hm;exact⟨hzz.2.1 d q3,by unfold AV.safe;rfl⟩
     ·have hwrap:IntKind.i64.wrap (m:Int)=m:=by
       exact wrap_i64 (by omega) hn63
      have hbb:¬((bytes:Int)*(m:Int)>2^48):=by
       have h7:((m*bytes:Nat):Int)<=140737488355328:=Int.ofNat_le.2 hnb;rw[Int.natCast_mul,Int.mul_comm]at h7;have h8:(2:Int)^48=281474976710656:=rfl;omega
      have hc0:¬((m:Int)<0):=by omega
      have hb2:¬(281474976710656<(bytes:Int)*(m:Int)):=by omega
      simp only[execOp,Instr.makeSlice,Sem.run_bind,qkM hu,Result.andThen_ok,e1,e2]
      by_cases h0:m*sz=0
      ·have hr0:∀f:Nat->Value,Array.map f (Array.range 0)= #[]:=fun f=>by simp[Array.range]
       simp[asInt,asIntOf,typeInfo,hit,hby,hwrap,hb2,hc0,sizeOf,hsz,h0,hr0,newRow]
      ·simp[asInt,asIntOf,typeInfo,hit,hby,hwrap,hb2,hc0,sizeOf,hsz,h0,zeroValue,hzv,newRow]
    ·simp at hv
   ·simp at hv
  ·simp at h
 |_=>simp[qaY]at h
end
end Go.Proofs.YtbcbkiaineacpaaGreat.VS
namespace Go.Proofs.YtbcbkiaineacpaaGreat.VS
variable {P:Program} {fid:Nat->FuncId} {g:Gh} {w:World}
theorem Core.sub{B:qao}{A A':Ids}(hc:Core fid g w B A)(h:∀x,A' x=true->A x=true):Core fid g w B A':=
 ⟨hc.box,hc.inj,fun a ha=>hc.opn a (h a ha),fun a a' b x x' ha ha'=>hc.apart a a' b x x' (h a ha) (h a' ha'),hc.K0⟩
theorem Step.sub{N:Id->Prop}{g':Gh}{w':World}{A A' A'':Ids}(hs:Step N g w A g' w' A')(h:∀x,A'' x=true->A' x=true):Step N g w A g' w' A'':=
 {hs with org:=fun a b ha hb=>hs.org a b (h a ha) hb}
theorem qu6{xs:List DV}{s:Nat}{U:Nat->Value}(hcs:∀(i:Nat) (x:DV),xs[i]?=some x->x.cells.length=s/\∀v:DV,v∈x.cells->v.isCell=true)
 (hvs:∀(i:Nat) (x:DV) (j:Nat) (v:DV),xs[i]?=some x->x.cells[j]?=some v->VR g w v (U (i*s+j))):
 (flat xs).length=xs.length*s/\∀(k:Nat) (v:DV),(flat xs)[k]?=some v->k<xs.length*s/\v.isCell=true/\VR g w v (U k):=by
 have hall:∀x:DV,x∈xs->x.cells.length=s:=fun x hx=>by
  obtain⟨i,hi⟩:=List.mem_iff_getElem?.1 hx;exact(hcs i x hi).1
 have hl:=qd8 hall;refine⟨hl,fun k v hk=> ?_⟩;have hlt:k<xs.length*s:=by have:=(List.getElem?_eq_some_iff.1 hk).1;omega
 have hs0:0<s:=by
  rcases Nat.eq_zero_or_pos s with h|h
  ·rw[h]at hlt;simp at hlt
  ·exact h
 have hq:k/s<xs.length:=Nat.div_lt_of_lt_mul (by rw[Nat.mul_comm];exact hlt);have hx:xs[k/s]?=some xs[k/s]:=by simp[hq]
 have hfg:=flat_get hall (k/s) (k%s) _ hx (Nat.mod_lt _ hs0);have e:k/s*s+k%s=k:=by rw[Nat.mul_comm];exact Nat.div_add_mod k s
 rw[e,hk]at hfg;have:=hvs _ _ _ _ hx hfg.symm;rw[e]at this;exact⟨hlt,(hcs _ _ hx).2 v (List.mem_of_getElem? hfg.symm),this⟩
theorem qma(xs ys:List DV):flat (xs++ys)=flat xs++flat ys:=by simp[flat]
theorem quN(w:World)(t ty e e':TypeId)(i:TypeInfo)(ht:P.underlying t=some (.slice e))(hi:P.info? e=some i)
 (gb sLen sCap:Nat) (cur:Array Value) (hg:w.heap[gb]?=some (.cells cur e' (0,0)))
 (a:Addr) (m c:Nat) (news:List Value) (hl:news.length=m*i.size) (hnews:∀j u,news[j]?=some u->w.cell? (a.add j)=some u) (h1:∀u∈news,u.oneCell'=true)
 (hroom:sLen+m<=sCap) (hfit:sLen*i.size+news.length<=cur.size):
 (Builtin.append_ #[t,t] ty #[.slice (some ⟨gb,0,none⟩) sLen sCap,.slice (some a) m c]).run P w=
  .ok (.slice (some ⟨gb,0,none⟩) (sLen+m) sCap) (w.setRow gb (cur.toList.take (sLen*i.size)++news++cur.toList.drop (sLen*i.size+news.length)).toArray):=by
 have hf:=run_firstCells_some (P:=P) w i.size m a m c news hl hnews;have hst:=run_storeCells_at P gb (sLen*i.size) e' news 0 cur w hg (by simpa using hfit) h1;simp only[Nat.add_zero]at hst;simp[Builtin.append_,run_underlying ht,sizeOf,typeInfo,hi,Builtin.lenOf,hroom,hf,Addr.add_lit,hst]
theorem quO(w:World)(t ty e:TypeId)(i:TypeInfo)(ht:P.underlying t=some (.slice e))(hi:P.info? e=some i)(b:Option Addr)(n c:Nat)(hn:n<=c)(b':Option Addr)(c':Nat):
 (Builtin.append_ #[t,t] ty #[.slice b n c,.slice b' 0 c']).run P w= .ok (.slice b n c) w:=by
 cases b<;>cases b'<;>simp[Builtin.append_,run_underlying ht,sizeOf,typeInfo,hi,Builtin.lenOf,Builtin.firstCells,loadCells,loadCellsFrom,hn,storeCells]
theorem qF4{B:qao}{A:Ids}(hc:Core fid g w B A){a0 id:Id}(hfresh:g.row id=none)(ha:A a0=true){b n c sz m:Nat}{arr:Array Value}{e:TypeId}
 (hrow:g.row a0=some (b,n,c,sz)) (hheap:w.heap[b]?=some (.cells arr e (0,0))) (harr:c*sz<=arr.size) (hK:g.K b=n*sz) (hbx:∀i,g.bx i≠some b)
 (news:List Value) (hnl:news.length=m*sz) (hroom:n+m<=c) (hcm:c<=maxLen) (xs:List DV) (hxl:xs.length=n+m) (hxn:xs≠[])
 (hel:∀x:DV,x∈xs->x.cells.length=sz/\∀v:DV,v∈x.cells->v.isCell=true)
 (hv:∀(k:Nat) (v:DV),(flat xs)[k]?=some v->∃u,(splice arr.toList (n*sz) news)[k]?=some u/\VR g w v u) (N:Id->Prop) (hN:N id):
 ∃g1,Core fid g1 (w.setRow b (splice arr.toList (n*sz) news).toArray) B (Ids.add id (Ids.del a0 A))/\Boxes g w g1/\
  Step N g w A g1 (w.setRow b (splice arr.toList (n*sz) news).toArray) (Ids.add id (Ids.del a0 A))/\Ext g w g1 (w.setRow b (splice arr.toList (n*sz) news).toArray)/\
  VR g1 (w.setRow b (splice arr.toList (n*sz) news).toArray) (.sl (.own id sz) xs) (.slice (some ⟨b,0,none⟩) xs.length c):=by
 have hfit:n*sz+news.length<=arr.toList.length:=by
  rw[hnl];simp only[Array.length_toList,<-Nat.add_mul];exact Nat.le_trans (Nat.mul_le_mul_right _ hroom) harr
 have hb:b<w.heap.size:=(Array.getElem?_eq_some_iff.1 hheap).1;have hnew:=setRow_heap w b arr (splice arr.toList (n*sz) news).toArray e (0,0) hheap;have hoth:∀b',b'≠b->(w.setRow b (splice arr.toList (n*sz) news).toArray).heap[b']?=w.heap[b']?:=fun b' h=>setRow_other w b b' _ h
 have hsize:(w.setRow b (splice arr.toList (n*sz) news).toArray).heap.size=w.heap.size:=by simp[World.setRow]
 have hnid:∀a,A a=true->a≠id:=by
  intro a ha he;obtain⟨b',n',c',sz',arr2,e2,o1,_⟩:=hc.opn a ha;rw[he,hfresh]at o1;simp at o1
 have hblk:∀a b' x,A a=true->a≠a0->g.row a=some (b',x)->b'≠b:=by
  intro a b' x h1 h2 h3 h4;subst h4;exact h2 (hc.apart a a0 b' x (n,c,sz) h1 ha h3 hrow)
 have hext:Ext g w {K:=fun k=>if k=b then(n+m)*sz else g.K k,row:=fun a=>if a=id then some (b,n+m,c,sz)else g.row a,bx:=g.bx} (w.setRow b (splice arr.toList (n*sz) news).toArray):=by
  refine⟨⟨fun k=> ?_,fun ad had=> ?_,fun a x h=> ?_⟩,fun _ _ h=>h⟩
  ·simp only
   split
   ·rename_i h;subst h;rw[hK];exact Nat.mul_le_mul_right _ (Nat.le_add_right _ _)
   ·exact Nat.le_refl _
  ·by_cases hbk:ad.block=b
   ·rw[hbk,hK]at had
    simp only[World.cell?,hbk,hnew,hheap];split
    ·rfl
    ·rw[List.getElem?_toArray,qdq _ _ _ hfit,if_neg (by omega)]
     simp
   ·simp only[World.cell?]
    rw[hoth _ hbk]
  ·simp only
   rw[if_neg (fun he=>by rw[he,hfresh]at h;simp at h)];exact h
 have hA1:∀a,Ids.add id (Ids.del a0 A) a=true->a=id\/(a≠a0/\A a=true):=by
  intro a h;simpa[Ids.add,Ids.del]using h
 refine⟨{K:=fun k=>if k=b then(n+m)*sz else g.K k,row:=fun a=>if a=id then some (b,n+m,c,sz)else g.row a,bx:=g.bx},⟨fun i b' h=> ?_,hc.inj,fun a h=> ?_,fun a a' b' x x' h1 h2 h3 h4=> ?_,fun b' h=> ?_⟩,⟨hext.bx,fun i b h=> .inl h⟩,⟨rfl,rfl,rfl,by rw[hsize];exact Nat.le_refl _,hext.toExtV,fun b' hb' _ h=> ?_,fun a h=> ?_,fun a b' h1 h2=> ?_,fun b' c' e' z' h=>by
  by_cases he:b'=b
  ·subst he
   rw[hheap]at h;simp only[Option.some.injEq,Obj.cells.injEq]at h;obtain⟨rfl,rfl,rfl⟩:=h;exact⟨_,hnew,by rw[List.size_toArray,qco _ _ _ hfit];simp⟩
  ·exact⟨c',by rw[hoth b' he];exact h,rfl⟩⟩,hext,?_⟩
 ·obtain⟨cs',arr',e',b1,b2,b3,b4,b5,b6⟩:=hc.box i b' h
  have hne:b'≠b:=fun he=>hbx i (by rw[<-he];exact h)
  refine⟨cs',arr',e',b1,by rw[hoth _ hne];exact b2,b3,fun j v u h7 h8=>(b4 j v u h7 h8).mono fid hext,b5,?_⟩;simp only;rw[if_neg hne];exact b6
 ·rcases hA1 a h with rfl|⟨h1,h2⟩
  ·refine⟨b,n+m,c,sz,_,e,by simp,hnew,?_,by simp,hroom,hbx⟩
   rw[List.size_toArray,qco _ _ _ hfit];simpa using harr
  ·obtain⟨b',n',c',sz',arr2,e2,o1,o2,o3,o4,o5,o6⟩:=hc.opn a h2
   have hne:=hblk a b' _ h2 h1 o1;refine⟨b',n',c',sz',arr2,e2,by simp only;rw[if_neg (hnid a h2)];exact o1,by rw[hoth _ hne];exact o2,o3,?_,o5,o6⟩;simp only;rw[if_neg hne];exact o4
 ·simp only at h3 h4
  rcases hA1 a h1 with rfl|⟨h5,h6⟩<;>rcases hA1 a' h2 with rfl|⟨h7,h8⟩
  ·rfl
  ·rw[if_neg (hnid a' h8)]at h4
   simp at h3;exact absurd h3.1.symm (hblk a' b' _ h8 h7 h4)
  ·rw[if_neg (hnid a h6)]at h3
   simp at h4;exact absurd h4.1.symm (hblk a b' _ h6 h5 h3)
  ·rw[if_neg (hnid a h6)]at h3
   rw[if_neg (hnid a' h8)]at h4;exact hc.apart a a' b' x x' h6 h8 h3 h4
 ·rw[hsize]at h
  simp only;rw[if_neg (by omega)];exact hc.K0 b' h
 ·have hne:b'≠b:=fun he=>h a0 ha (by simp[Gh.blk,hrow,he])
  refine⟨hoth _ hne,?_⟩;simp only;rw[if_neg hne]
 ·simp only at h
  split at h
  ·rename_i he;subst he;exact hN
  ·exact absurd rfl h
 ·simp only[Gh.blk]at h2
  rcases hA1 a h1 with rfl|⟨h5,h6⟩
  ·simp at h2
   exact .inr ⟨a0,ha,by simp[Gh.blk,hrow,h2]⟩
  ·rw[if_neg (hnid a h6)]at h2
   exact .inr ⟨a,h6,h2⟩
 ·refine .row _ xs ⟨b,0,none⟩ c sz (fun k=>(splice arr.toList (n*sz) news).getD k undef) (by simp) (by omega) hcm (fun k hk=> ?_) (.inr (by simp[hxl])) (fun i x hi=>hel x (List.mem_of_getElem? hi)) (fun i x j v hi hj=> ?_) (fun a sz' h=> ?_)
  ·have hadd:(⟨b,0,none⟩:Addr).add k=⟨b,k,none⟩:=by unfold Addr.add;split<;>simp_all
   rw[hadd];have hk':k<(splice arr.toList (n*sz) news).length:=by
    rw[qco _ _ _ hfit];simp only[Array.length_toList];rw[hxl]at hk;exact Nat.lt_of_lt_of_le hk (Nat.le_trans (Nat.mul_le_mul_right _ hroom) harr)
   simp[World.cell?,hnew,hk',List.getD]
  ·have hx:=hel x (List.mem_of_getElem? hi)
   have hjs:j<sz:=by have:=(List.getElem?_eq_some_iff.1 hj).1;omega
   have hfg:=flat_get (xs:=xs) (fun x hx=>(hel x hx).1) i j x hi hjs;rw[hj]at hfg;obtain⟨u,hu,hvr⟩:=hv _ _ hfg;rw[List.getD,hu];exact hvr.mono hext.toExtV
  ·simp at h
   obtain⟨rfl,rfl⟩:=h;exact⟨rfl,rfl,rfl,by simp[hxl],fun h=>absurd h hxn⟩
end Go.Proofs.YtbcbkiaineacpaaGreat.VS
namespace Go.Proofs.YtbcbkiaineacpaaGreat.VS
variable {P:Program} {fid:Nat->FuncId} {g:Gh} {w:World}
theorem qf4(b k:Nat):(⟨b,0,none⟩:Addr).add k=⟨b,k,none⟩:=by unfold Addr.add;split<;>simp_all
theorem source{ys:List DV}{t:Tag}{q:Value}{sz:Nat}(h:VR g w (.sl t ys) q)(hne:ys≠[])(hall:∀y:DV,y∈ys->y.cells.length=sz):
 ∃(ad:Addr) (c:Nat) (news:List Value),q= .slice (some ad) ys.length c/\news.length=ys.length*sz/\(∀(j:Nat) (u:Value),news[j]?=some u->w.cell? (ad.add j)=some u)/\(∀u:Value,u∈news->u.oneCell'=true)/\
  ∀(k:Nat) (v:DV),(flat ys)[k]?=some v->∃u,news[k]?=some u/\VR g w v u:=by
 cases h with
 |nil=>exact absurd rfl hne
 |row _ _ ad c s U ht hl hm hcell hK hcs hvs hown=>
  obtain⟨y,hy⟩:=List.exists_mem_of_ne_nil ys hne;obtain⟨i,hi⟩:=List.mem_iff_getElem?.1 hy;have hs:s=sz:=by rw[<-(hcs i y hi).1];exact hall y hy
  subst hs;obtain⟨hfl,hfv⟩:=qu6 hcs hvs;refine⟨ad,c,(List.range (ys.length*s)).map U,rfl,by simp,fun j u hj=> ?_,fun u hu=> ?_,fun k v hk=> ?_⟩
  ·simp only[List.getElem?_map]at hj
   obtain⟨j',h1,rfl⟩:=ya_.1 hj;have h2:=List.getElem?_eq_some_iff.1 h1;obtain⟨h3,h4⟩:=h2;simp at h3 h4;subst h4;exact hcell _ h3
  ·simp only[List.mem_map,List.mem_range]at hu
   obtain⟨k,hk,rfl⟩:=hu;have hk':k<(flat ys).length:=by omega
   obtain⟨_,h2,h3⟩:=hfv k (flat ys)[k] (by simp);exact(qfJ h3 h2).1
  ·obtain⟨h1,h2,h3⟩:=hfv k v hk
   exact⟨U k,by simp[h1],h3⟩
section
variable {p:Id} {call:qaz} {draw:Bool} {L0 i:Nat} {a:Act} {o:Oper} {s s':St}
theorem qC9(hcore:Core fid g w s.B s.A)(hr:qfh fid g w s.r a.tmps)(hd:∀d,o.dst=some d->d<a.tmps.size){sz bytes:Nat}{x y:VX}(h:qaY P fid o.op (.append sz bytes x y)=true)
 {gd:Option (Nat×Bool)} {af:List Nat} (hv:qb2 call p draw L0 i ⟨o.dst,.append sz bytes x y,gd,af⟩ s=some s') (hfr:g.row ((s.c+i)::p)=none):Nonempty (Does P fid (under (s.c+i) p) g w a o s s'):=by
 obtain⟨dst,op,ty,pos,after,guard⟩:=o;cases op with
 |call cc=>
  obtain⟨callee,args,argTypes⟩:=cc;cases callee with
  |builtin b=>
   cases b with
   |append=>
    simp only[qaY]at h;split at h
    ·rename_i px py t t' ha ht
     simp only[Bool.and_eq_true,decide_eq_true_eq]at h;obtain⟨⟨⟨h1,h2⟩,rfl⟩,h3⟩:=h;have hargs:args= #[px,py]:=by cases args;simp_all
     have htys:argTypes= #[t,t]:=by cases argTypes;simp_all
     subst hargs;subst htys
     split at h3
     ·rename_i e he
      simp only[Bool.and_eq_true,decide_eq_true_eq]at h3;obtain⟨⟨⟨⟨h4,h5⟩,h6⟩,h7⟩,h8⟩:=h3;have hu:=qpR he;obtain⟨it,hit,hsz⟩:=qpQ h4;have hby:it.bytes=bytes:=by
       unfold qwr at h5;simp[hit]at h5;exact h5
      obtain⟨z,hz,hzc⟩:∃z,it.zero=some z/\z.cells.size=sz:=by
       simp only[hit,Option.bind_some]at h8;cases hq:it.zero with
       |none=>rw[hq]at h8;simp at h8
       |some z=>rw[hq]at h8;simp at h8;exact⟨z,rfl,h8⟩
      have hexec:∀(v:Value) (w':World),(Builtin.append_ #[t,t] ty #[a.eval px,a.eval py]).run P w= .ok v w'->
       (execOp a.eval ⟨dst,.call ⟨.builtin .append,#[px,py],#[t,t]⟩,ty,pos,after,guard⟩).run P w= .ok (.value v) w':=by
       intro v w' hr';simp[execOp,resolve,invoke,builtin,hr']
      simp only[qb2]at hv;split at hv
      ·rename_i dx dy hx hy
       obtain⟨⟨rv,s1⟩,hap,rfl⟩:=ya_.1 hv;have rx:=qfp (qas (w:=w) hr h1 hx);have ry:=qfp (qas (w:=w) hr h2 hy);generalize a.eval px=qx at rx hexec;generalize a.eval py=qy at ry hexec;unfold qes at hap;split at hap
       ·rename_i gx xs gy ys
        split at hap
        ·rename_i hall0
         have hall:∀y:DV,y∈ys->y.cells.length=sz/\∀v:DV,v∈y.cells->v.isCell=true:=by
          intro y hy;have:=List.all_eq_true.1 hall0 y hy;simp at this;exact this
         split at hap
         ·
          rename_i hemp;simp at hemp;subst hemp
          simp at hap;obtain⟨rfl,rfl⟩:=hap;obtain⟨by',cy,hqy⟩:∃by' cy,qy= .slice by' 0 cy:=by cases ry<;>exact⟨_,_,rfl⟩
          obtain⟨bx',cx,hqx,hlc⟩:∃bx' cx,qx= .slice bx' xs.length cx/\xs.length<=cx:=by
           cases rx with
           |nil=>exact⟨_,_,rfl,Nat.le_refl _⟩
           |row _ _ ad c s U ht' hl=>exact⟨_,_,rfl,hl⟩
          have hrun:=hexec _ _ (by rw[hqx,hqy];exact quO w t ty e it hu hit bx' xs.length cx hlc by' cy);rw[<-hqx]at hrun;exact⟨Does.still qx hcore hr hd hrun (.d _ _ rx)⟩
         ·rename_i hne0
          have hne:ys≠[]:=by simpa using hne0
          have hypos:0<ys.length:=List.length_pos_iff.2 hne;split at hap
          ·rename_i hbytes
           obtain⟨ad,cy,news,rfl,hnl,hncell,hn1,hnv⟩:=source ry hne (fun y hy=>(hall y hy).1);have hfly:=qd8 (xs:=ys) (fun y hy=>(hall y hy).1);have hlim:xs.length+ys.length<=140737488355328:=Nat.le_trans (Nat.le_mul_of_pos_right _ h7) hbytes;have hylim:ys.length<=140737488355328:=by omega
           split at hap
           ·
            simp at hap;obtain⟨rfl,rfl⟩:=hap;cases rx with
            |row _ _ _ _ _ _ ht'=>exact absurd rfl ht'
            |nil=>
             have hbytes':ys.length*it.bytes<=140737488355328:=by simpa[hby]using hbytes
             have hrun:=hexec _ _ (run_append_nil (P:=P) w t ty e it z hu hit hz ad ys.length cy news (by rw[hsz];exact hnl) hncell hypos (by omega) (by omega));have hge:=grownCap_ge w ys.length 0 e;have hle:=grownCap_le_maxLen w ys.length 0 e (by simp only[maxLen];omega);obtain⟨g1,c1,b1,s1,e1,v1⟩:=qkm hcore hfr ys sz (grownCap w ys.length 0 e) (news.toArray++Builtin.zeroCells z.cells (grownCap w ys.length 0 e-ys.length)) e
              (w.drew.alloc (.cells (news.toArray++Builtin.zeroCells z.cells (grownCap w ys.length 0 e-ys.length)) e)) rfl rfl rfl rfl hge (fun h=>absurd h hne) hle
              (by simp only[Array.size_append,List.size_toArray,size_zeroCells,hzc,hnl,<-Nat.add_mul];congr 1;omega) hall
              (fun k v hk=>by
               obtain⟨u,h9,h10⟩:=hnv k v hk;have hlt:k<news.length:=(List.getElem?_eq_some_iff.1 h9).1;exact⟨u,by rw[Array.getElem?_append_left (by simpa using hlt)];simpa using h9,h10⟩) (under (s.c+i) p) ⟨[],rfl⟩
             refine⟨⟨_,.slice (some ⟨w.heap.size,0,none⟩) ys.length (grownCap w ys.length 0 e),_,g1,hrun,.inl rfl,by rw[qlQ,qe5];exact c1,b1,by rw[qe5];exact s1,qcp (s:={s with A:=_}) (hr.mono fid e1) (.d _ _ v1) hd⟩⟩
           ·
            rename_i a0 sz';split at hap
            ·
             rename_i hxe;have hxe':xs=[]:=by simpa using hxe
             subst hxe';simp at hap;obtain⟨rfl,rfl⟩:=hap;cases rx with
             |row _ _ adx c sx U ht' hl hm hcell hK hcs hvs hown=>
              obtain⟨o1,o2,rfl,o4,o5⟩:=hown a0 _ rfl;have hc0:c=0:=o5 rfl;subst hc0;have hbytes':(([]:List DV).length+ys.length)*it.bytes<=140737488355328:=by rw[hby];exact hbytes
              have hrun:=hexec _ _ (run_append_grow (P:=P) w t ty e it z hu hit hz adx ([]:List DV).length 0 [] (by simp) (by simp) ad ys.length cy news (by rw[hsz];exact hnl) hncell (by omega) (by simp;omega) (growslice_fits (by simp;omega) hbytes'));have hge:=grownCap_ge w (([]:List DV).length+ys.length) 0 e;have hle:=grownCap_le_maxLen w (([]:List DV).length+ys.length) 0 e (by simp only[maxLen,List.length_nil];omega);simp only[List.length_nil,Nat.zero_add]at hrun hge hle;obtain⟨g1,c1,b1,s1,e1,v1⟩:=qkm hcore hfr ys sz (grownCap w ys.length 0 e)
               (([]:List Value).toArray++news.toArray++Builtin.zeroCells z.cells (grownCap w ys.length 0 e-ys.length)) e
               (w.drew.alloc (.cells (([]:List Value).toArray++news.toArray++Builtin.zeroCells z.cells (grownCap w ys.length 0 e-ys.length)) e)) rfl rfl rfl rfl hge (fun h=>absurd h hne) hle
               (by simp only[Array.size_append,List.size_toArray,size_zeroCells,hzc,hnl,List.length_nil,Nat.zero_add,<-Nat.add_mul];congr 1;omega) hall
               (fun k v hk=>by
                obtain⟨u,h9,h10⟩:=hnv k v hk;have hlt:k<news.length:=(List.getElem?_eq_some_iff.1 h9).1;exact⟨u,by rw[show([]:List Value).toArray= #[]from rfl,Array.empty_append,Array.getElem?_append_left (by simpa using hlt)];simpa using h9,h10⟩) (under (s.c+i) p) ⟨[],rfl⟩
              refine⟨⟨_,.slice (some ⟨w.heap.size,0,none⟩) ys.length (grownCap w ys.length 0 e),_,g1,hrun,.inl rfl,by rw[qlQ,qe5];exact c1,b1,by rw[qe5];exact s1,qcp (s:={s with A:=_}) (hr.mono fid e1) (.d _ _ v1) hd⟩⟩
            split at hap
            ·rename_i hown0
             obtain⟨rfl,ha0⟩:=hown0;simp at hap;obtain⟨rfl,rfl⟩:=hap;cases rx with
             |row _ _ adx c sx U ht' hl hm hcell hK hcs hvs hown=>
              obtain⟨o1,o2,rfl,o4,_⟩:=hown a0 _ rfl;obtain⟨bb,n,c',sz2,arr,e',p1,p2,p3,p4,p5,p6⟩:=hcore.opn a0 ha0;rw[o4]at p1;simp at p1;obtain⟨rfl,rfl,rfl,rfl⟩:=p1;obtain⟨hflx,hfvx⟩:=qu6 hcs hvs;have hadx:adx=⟨adx.block,0,none⟩:=by cases adx;simp_all
              have hcellx:∀k,k<xs.length*sx->arr[k]?=some (U k):=by
               intro k hk;have h9:=hcell k hk;rw[hadx]at h9;have:=qf4 adx.block k;rw[this]at h9;simpa[World.cell?,p2]using h9
              have hxl:(xs++ys).length=xs.length+ys.length:=by simp
              have hel:∀x:DV,x∈xs++ys->x.cells.length=sx/\∀v:DV,v∈x.cells->v.isCell=true:=by
               intro x hx;rcases List.mem_append.1 hx with h9|h9
               ·obtain⟨j,hj⟩:=List.mem_iff_getElem?.1 h9
                exact hcs j x hj
               ·exact hall x h9
              by_cases hroom:xs.length+ys.length<=c
              ·have hfit:xs.length*it.size+news.length<=arr.size:=by
                rw[hsz,hnl,<-Nat.add_mul];exact Nat.le_trans (Nat.mul_le_mul_right _ hroom) p3
               have hrun:=hexec _ _ (by rw[hadx];exact quN w t ty e e' it hu hit adx.block xs.length c arr p2 ad ys.length cy news (by rw[hsz];exact hnl) hncell hn1 hroom hfit);have hsp:(arr.toList.take (xs.length*it.size)++news++arr.toList.drop (xs.length*it.size+news.length))=splice arr.toList (xs.length*sx) news:=by rw[hsz];rfl
               rw[hsp]at hrun;obtain⟨g1,c1,b1,s1,e1,v1⟩:=qF4 hcore hfr ha0 o4 p2 p3 p4 p6 news hnl hroom hm (xs++ys) hxl (fun h=>absurd (List.append_eq_nil_iff.1 h).2 hne) hel (fun k v hk=>by
                rw[qma]at hk;have hfit':xs.length*sx+news.length<=arr.toList.length:=by rw[<-hsz];exact hfit
                rw[qdq _ _ _ hfit']
                by_cases hkx:k<xs.length*sx
                ·rw[ye_ (by omega)]at hk
                 rw[if_neg (by omega)];exact⟨U k,by simpa using hcellx k hkx,(hfvx k v hk).2.2⟩
                ·rw[yd_ (by omega),hflx]at hk
                 obtain⟨u,h9,h10⟩:=hnv _ v hk;have hlt:k-xs.length*sx<news.length:=(List.getElem?_eq_some_iff.1 h9).1;rw[if_pos (by omega)];exact⟨u,h9,h10⟩) (under (s.c+i) p) ⟨[],rfl⟩
               rw[hxl]at v1;refine⟨⟨_,.slice (some ⟨adx.block,0,none⟩) (xs.length+ys.length) c,_,g1,hrun,.inl rfl,by rw[qlQ,qe5];exact c1,b1,by rw[qe5];exact s1,qcp (s:={s with A:=_}) (hr.mono fid e1) (.d _ _ v1) hd⟩⟩
              ·have holds:∀(j:Nat) (v:Value),((List.range (xs.length*sx)).map U)[j]?=some v->w.cell? (adx.add j)=some v:=by
                intro j v hj;simp only[List.getElem?_map]at hj;obtain⟨j',h1,rfl⟩:=ya_.1 hj;obtain⟨h3,h4⟩:=List.getElem?_eq_some_iff.1 h1;simp at h3 h4;subst h4;exact hcell _ h3
               have hbytes':(xs.length+ys.length)*it.bytes<=140737488355328:=by rw[hby];exact hbytes
               have hrun:=hexec _ _ (run_append_grow (P:=P) w t ty e it z hu hit hz adx xs.length c ((List.range (xs.length*sx)).map U) (by simp[hsz]) holds ad ys.length cy news (by rw[hsz];exact hnl) hncell (by omega) (by omega) (growslice_fits (by omega) hbytes'));have hge:=grownCap_ge w (xs.length+ys.length) c e;have hle:=grownCap_le_maxLen w (xs.length+ys.length) c e (by simp only[maxLen];omega);obtain⟨g1,c1,b1,s1,e1,v1⟩:=qkm hcore hfr (xs++ys) sx (grownCap w (xs.length+ys.length) c e)
                (((List.range (xs.length*sx)).map U).toArray++news.toArray++Builtin.zeroCells z.cells (grownCap w (xs.length+ys.length) c e-(xs.length+ys.length))) e
                (w.drew.alloc (.cells (((List.range (xs.length*sx)).map U).toArray++news.toArray++Builtin.zeroCells z.cells (grownCap w (xs.length+ys.length) c e-(xs.length+ys.length))) e)) rfl rfl rfl rfl (by rw[hxl];exact hge) (fun h=>absurd (List.append_eq_nil_iff.1 h).2 hne) hle
                (by simp only[Array.size_append,List.size_toArray,List.length_map,List.length_range,size_zeroCells,hzc,hnl,<-Nat.add_mul];congr 1;omega) hel
                (fun k v hk=>by
                 rw[qma]at hk
                 by_cases hkx:k<xs.length*sx
                 ·rw[ye_ (by omega)]at hk
                  refine⟨U k,?_,(hfvx k v hk).2.2⟩;rw[Array.append_assoc,Array.getElem?_append_left (by simp[hkx])];simp[hkx]
                 ·rw[yd_ (by omega),hflx]at hk
                  obtain⟨u,h9,h10⟩:=hnv _ v hk;have hlt:k-xs.length*sx<news.length:=(List.getElem?_eq_some_iff.1 h9).1;refine⟨u,?_,h10⟩;rw[Array.append_assoc,Array.getElem?_append_right (by simp;omega),Array.getElem?_append_left (by simp;omega)];simpa using h9) (under (s.c+i) p) ⟨[],rfl⟩
               rw[hxl]at v1;have hsub:∀x,Ids.add ((s.c+i)::p) (Ids.del a0 s.A) x=true->Ids.add ((s.c+i)::p) s.A x=true:=by
                intro x hx;simp[Ids.add,Ids.del]at hx⊢
                rcases hx with h|h
                ·exact .inl h
                ·exact .inr h.2
               refine⟨⟨_,.slice (some ⟨w.heap.size,0,none⟩) (xs.length+ys.length) (grownCap w (xs.length+ys.length) c e),_,g1,hrun,.inl rfl,by rw[qlQ,qe5];exact c1.sub hsub,b1,by rw[qe5];exact s1.sub hsub,qcp (s:={s with A:=_}) (hr.mono fid e1) (.d _ _ v1) hd⟩⟩
            ·simp at hap
           ·simp at hap
          ·simp at hap
        ·simp at hap
       ·simp at hap
      ·simp at hv
     ·simp at h3
    ·simp at h
   |_=>simp[qaY]at h
  |_=>simp[qaY]at h
 |_=>simp[qaY]at h
end
end Go.Proofs.YtbcbkiaineacpaaGreat.VS
namespace Go.Proofs.YtbcbkiaineacpaaGreat.VS
variable {P:Program} {fid:Nat->FuncId} {g:Gh} {w:World}
def from_(p:Id)(k:Nat)(a:Id):Prop:=∃q j,k<=j/\a=q++j::p
def qi6(g:Gh)(p:Id)(k:Nat):Prop:=∀q j,k<=j->g.row (q++j::p)=none
def quQ(P:Program)(f:FuncId):Prop:=∃fn,P.funcs[f]?=some fn/\(fn.name== "runtime.NumGoroutine")=false/\fn.body.isNone=false
structure Post(fid:Nat->FuncId)(N:Id->Prop)(g:Gh)(w:World)(A:Ids)(r:Res)(u:Value)(g':Gh)(w':World):Prop where
 val:AVR fid g' w' r.v u
 core:Core fid g' w' r.B r.A
 boxes:Boxes g w g'
 step:Step N g w A g' w' r.A
def qgO(P:Program)(fid:Nat->FuncId)(call:qaz):Prop:=
 ∀p f args B A r,call p f args B A=some r->quQ P (fid f)/\∀g w (us:Array Value),us.size=args.length->(∀(j:Nat) (v:AV) (u:Value),args[j]?=some v->us[j]?=some u->AVR fid g w v u)->
  Core fid g w B A->qi6 g p 0->Calls P (fid f) us w fun e w'=>∃u g',e= .returned u/\Post fid (from_ p 0) g w A r u g' w'
def Gh.cutB(m:Nat)(g:Gh):Gh:={g with bx:=fun i=>if i<m then g.bx i else none}
mutual
theorem qq1{m n:Nat}(h:m<=n):∀(v:AV),v.safe m=true->v.safe n=true
 | .d _,_=>by unfold AV.safe;rfl
 | .ep _,_=>by unfold AV.safe;rfl
 | .nilp,_=>by unfold AV.safe;rfl
 | .und,_=>by unfold AV.safe;rfl
 | .ptr i _,hs=>by unfold AV.safe at hs⊢;simp at hs⊢;omega
 | .bsl _ _ i _ _,hs=>by unfold AV.safe at hs⊢;simp at hs⊢;omega
 | .tsl _ i _ _,hs=>by unfold AV.safe at hs⊢;simp at hs⊢;omega
 | .fn _ cap,hs=>by
  unfold AV.safe at hs⊢
  exact qiD h cap hs
 | .ag _ cap,hs=>by
  unfold AV.safe at hs⊢
  exact qiD h cap hs
theorem qiD{m n:Nat}(h:m<=n):∀(l:List AV),AV.safe.safes m l=true->AV.safe.safes n l=true
 | [],_=>by unfold AV.safe.safes;rfl
 |a::r,hs=>by
  unfold AV.safe.safes at hs⊢
  simp only[Bool.and_eq_true]at hs⊢
  exact⟨qq1 h a hs.1,qiD h r hs.2⟩
end
theorem qkk{m:Nat}:∀{l:List AV},AV.safe.safes m l=true->∀v:AV,v∈l->v.safe m=true
 | [],_,v,h=>by simp at h
 |a::r,hs,v,h=>by
  unfold AV.safe.safes at hs;simp only[Bool.and_eq_true]at hs;rcases List.mem_cons.1 h with rfl|h
  ·exact hs.1
  ·exact qkk hs.2 v h
theorem AVR.cutB{m:Nat}{v:AV}{u:Value}(h:AVR fid g w v u)(hs:v.safe m=true):AVR fid (g.cutB m) w v u:=by
 have hE:ExtV g w (g.cutB m) w:=⟨fun _=>Nat.le_refl _,fun _ _=>rfl,fun _ _ h=>h⟩
 induction h with
 |d v u h=>exact .d v u (h.mono hE)
 |ptr i off b h=>unfold AV.safe at hs;simp at hs;exact .ptr i off b (by simp[Gh.cutB,hs,h])
 |ep cs ad U hs' hK h=>exact .ep cs ad U hs' hK fun j v hj=>⟨(h j v hj).1,(h j v hj).2.1,(h j v hj).2.2.mono hE⟩
 |nilp=>exact .nilp
 |fn f cap us hsz _ ih=>
  unfold AV.safe at hs;exact .fn f cap us hsz fun j v u h1 h2=>ih j v u h1 h2 (qkk hs v (List.mem_of_getElem? h1))
 |bsl id ag i sz n b h=>unfold AV.safe at hs;simp at hs;exact .bsl id ag i sz n b (by simp[Gh.cutB,hs,h])
 |tsl ag i sz n c b h h1 h2=>unfold AV.safe at hs;simp at hs;exact .tsl ag i sz n c b (by simp[Gh.cutB,hs,h]) h1 h2
 |ag cap us hsz _ ih=>
  unfold AV.safe at hs;exact .ag cap us hsz fun j v u h1 h2=>ih j v u h1 h2 (qkk hs v (List.mem_of_getElem? h1))
 |tp cap us hsz _ ih=>
  unfold AV.safe at hs;exact .tp cap us hsz fun j v u h1 h2=>ih j v u h1 h2 (qkk hs v (List.mem_of_getElem? h1))
 |und=>exact .und
theorem qcI{m i b:Nat}(h:(g.cutB m).bx i=some b):i<m/\g.bx i=some b:=by
 simp only[Gh.cutB]at h;split at h
 ·exact⟨by assumption,h⟩
 ·simp at h
theorem Core.cutB{B:qao}{A:Ids}(hc:Core fid g w B A)(m:Nat):Core fid (g.cutB m) w (B.take m) A:=by
 refine⟨fun i b h=> ?_,fun i j b h1 h2=>hc.inj i j b (qcI h1).2 (qcI h2).2,fun a ha=> ?_,hc.apart,hc.K0⟩
 ·obtain⟨hi,h⟩:=qcI h
  obtain⟨cs,arr,e,h1,h2,h3,h4,h5,h6⟩:=hc.box i b h;exact⟨cs,arr,e,by rw[List.getElem?_take,if_pos hi];exact h1,h2,h3,fun j v u h7 h8=>(h4 j v u h7 h8).cutB (qq1 (Nat.le_of_lt hi) v (h5 v (List.mem_of_getElem? h7)).2),h5,h6⟩
 ·obtain⟨b,n,c,sz,arr,e,o1,o2,o3,o4,o5,o6⟩:=hc.opn a ha
  exact⟨b,n,c,sz,arr,e,o1,o2,o3,o4,o5,fun i h=>o6 i (qcI h).2⟩
theorem Core.more{B B':qao}{A:Ids}(hc:Core fid g w B A)(h:∀(i:Nat) (cs:List AV),B[i]?=some (some cs)->B'[i]?=some (some cs)):Core fid g w B' A:=
 ⟨fun i b hb=>by
  obtain⟨cs,arr,e,h1,h2⟩:=hc.box i b hb;exact⟨cs,arr,e,h i cs h1,h2⟩,hc.inj,hc.opn,hc.apart,hc.K0⟩
theorem qv6{B:qao}{A:Ids}(hc:Core fid g w B A){N:Id->Prop}{r:Res}{u:Value}{g':Gh}{w':World}{v:DV}(hv:r.v= .d v)
 (hp:Post fid N (g.cutB 0) w Ids.none r u g' w'):
 ∃g2,Core fid g2 w' B (Ids.or r.A A)/\Boxes g w g2/\Step N g w A g2 w' (Ids.or r.A A)/\Ext g w g2 w'/\AVR fid g2 w' (.d v) u:=by
 have hst:=hp.step;have hkeep:∀b,b<w.heap.size->w'.heap[b]?=w.heap[b]?/\g'.K b=g.K b:=fun b hb=>hst.keep b hb (fun i h=>by have:=(qcI h).1;omega) (fun a ha=>by simp[Ids.none]at ha)
 have hE:ExtV g w {K:=g'.K,row:=g'.row,bx:=g.bx} w':=⟨hst.ext.K,hst.ext.cell,hst.ext.row⟩;have hext:Ext g w {K:=g'.K,row:=g'.row,bx:=g.bx} w':=⟨hE,fun _ _ h=>h⟩;have hnew:∀a b,r.A a=true->g'.blk a=some b->w.heap.size<=b:=fun a b ha hb=>by
  rcases hst.org a b ha hb with h|⟨a0,h,_⟩
  ·exact h
  ·simp[Ids.none]at h
 have hold:∀a,A a=true->∃b x,g.row a=some (b,x)/\g'.row a=some (b,x)/\b<w.heap.size:=fun a ha=>by
  obtain⟨b,n,c,sz,arr,e,o1,o2,_⟩:=hc.opn a ha;exact⟨b,_,o1,hst.ext.row a _ o1,(Array.getElem?_eq_some_iff.1 o2).1⟩
 refine⟨{K:=g'.K,row:=g'.row,bx:=g.bx},⟨fun i b h=> ?_,hc.inj,fun a ha=> ?_,fun a a' b x x' ha ha' hb hb'=> ?_,hp.core.K0⟩,⟨fun _ _ h=>h,fun _ _ h=> .inl h⟩,⟨hst.os,hst.tape,hst.output,hst.size,hE,fun b hb _ _=>hkeep b hb,hst.new,fun a b ha hb=> ?_,hst.arr⟩,hext,?_⟩
 ·obtain⟨cs,arr,e,h1,h2,h3,h4,h5,h6⟩:=hc.box i b h
  have hk:=hkeep b (hc.lt h);exact⟨cs,arr,e,h1,by rw[hk.1];exact h2,h3,fun j v u h7 h8=>(h4 j v u h7 h8).mono fid hext,h5,by rw[<-h6];exact hk.2⟩
 ·simp only[Ids.or,Bool.or_eq_true]at ha
  rcases ha with ha|ha
  ·obtain⟨b,n,c,sz,arr,e,o1,o2,o3,o4,o5,o6⟩:=hp.core.opn a ha
   refine⟨b,n,c,sz,arr,e,o1,o2,o3,o4,o5,fun i h=> ?_⟩;have:=hc.lt h;have:=hnew a b ha (by simp[Gh.blk,o1]);omega
  ·obtain⟨b,n,c,sz,arr,e,o1,o2,o3,o4,o5,o6⟩:=hc.opn a ha
   have hk:=hkeep b (Array.getElem?_eq_some_iff.1 o2).1;exact⟨b,n,c,sz,arr,e,hst.ext.row a _ o1,by rw[hk.1];exact o2,o3,by rw[<-o4];exact hk.2,o5,o6⟩
 ·simp only[Ids.or,Bool.or_eq_true]at ha ha'
  simp only at hb hb';rcases ha with ha|ha<;>rcases ha' with ha'|ha'
  ·exact hp.core.apart a a' b x x' ha ha' hb hb'
  ·obtain⟨b2,x2,h1,h2,h3⟩:=hold a' ha'
   rw[hb']at h2;simp at h2;have:=hnew a b ha (by simp[Gh.blk,hb]);omega
  ·obtain⟨b2,x2,h1,h2,h3⟩:=hold a ha
   rw[hb]at h2;simp at h2;have:=hnew a' b ha' (by simp[Gh.blk,hb']);omega
  ·obtain⟨b2,x2,h1,h2,h3⟩:=hold a ha
   obtain⟨b3,x3,h4,h5,h6⟩:=hold a' ha';rw[hb]at h2;rw[hb']at h5
   simp only[Option.some.injEq,Prod.mk.injEq]at h2 h5;refine hc.apart a a' b x2 x3 ha ha' (by rw[h1,h2.1]) (by rw[h4,h5.1])
 ·simp only[Ids.or,Bool.or_eq_true]at ha
  rcases ha with ha|ha
  ·exact .inl (hnew a b ha hb)
  ·obtain⟨b2,x2,h1,h2,h3⟩:=hold a ha
   simp only[Gh.blk,h2]at hb;exact .inr ⟨a,ha,by simpa[Gh.blk,h1]using hb⟩
 ·have:=hp.val
  rw[hv]at this;cases this with
  |d _ _ h=>
   have e:ExtV g' w' {K:=g'.K,row:=g'.row,bx:=g.bx} w':=⟨fun _=>Nat.le_refl _,fun _ _=>rfl,fun _ _ h=>h⟩;exact .d _ _ (h.mono e)
end Go.Proofs.YtbcbkiaineacpaaGreat.VS
namespace Go.Proofs.YtbcbkiaineacpaaGreat.VS
variable {P:Program} {fid:Nat->FuncId}
theorem qmr{agg:Bool}{sz:Nat}:∀{n:Nat} {cs xs:List DV},(∀v:DV,v∈cs->v.isCell=true)->chunks agg sz n cs=some xs->xs.length=n/\
 ∀(i:Nat) (x:DV),xs[i]?=some x->x.cells.length=sz/\(∀v:DV,v∈x.cells->v.isCell=true)/\∀(j:Nat) (v:DV),x.cells[j]?=some v->cs[i*sz+j]?=some v
 |0,cs,xs,_,h=>by
  simp[chunks]at h;subst h
  exact⟨rfl,fun i x h=>by simp at h⟩
 |n+1,cs,xs,hc,h=>by
  simp only[chunks]at h;obtain⟨v,h1,h2⟩:=yb_.1 h;split at h2
  ·rename_i hl
   obtain⟨xs',h3,rfl⟩:=ya_.1 h2;obtain⟨h4,h5⟩:=qmr (fun v hv=>hc v (List.mem_of_mem_drop hv)) h3;refine⟨by simp[h4],fun i x hx=> ?_⟩;cases i with
   |zero=>
    simp at hx;subst hx
    refine⟨hl.1,fun v' hv'=>List.all_eq_true.1 hl.2 v' hv',fun j u hj=> ?_⟩;unfold cut at h1;split at h1
    ·split at h1
     ·simp at h1;subst h1
      simp[DV.cells,List.getElem?_take]at hj;simpa using hj.2
     ·simp at h1
    ·have hcell:=hc v (List.mem_of_getElem? h1)
     have hcs:v.cells=[v]:=by cases v<;>simp_all[DV.cells,DV.isCell]
     rw[hcs]at hj;cases j with
     |zero=>simp at hj;subst hj;simpa using h1
     |succ j=>simp at hj
   |succ i=>
    simp at hx;obtain⟨h6,h7,h8⟩:=h5 i x hx;refine⟨h6,h7,fun j u hj=> ?_⟩;have:=h8 j u hj;rw[List.getElem?_drop]at this;rw[show(i+1)*sz+j=sz+(i*sz+j)by rw[Nat.succ_mul];omega];exact this
  ·simp at h2
end Go.Proofs.YtbcbkiaineacpaaGreat.VS
namespace Go.Proofs.YtbcbkiaineacpaaGreat.VS
variable {P:Program} {fid:Nat->FuncId}
section
variable {g g2:Gh} {w:World} {A:Ids}
end
end Go.Proofs.YtbcbkiaineacpaaGreat.VS
namespace Go.Proofs.YtbcbkiaineacpaaGreat.VS
variable {P:Program} {fid:Nat->FuncId}
noncomputable def Gh.back(g g':Gh)(w:World)(L:Nat)(l:List Id):Gh:=
 {K:=fun b=>open Classical in if b<w.heap.size then g.K b else if∃a,a∈l/\g'.blk a=some b then 0 else g'.K b
  row:=g'.row
  bx:=fun i=>if i<L then g.bx i else(l[i-L]?).bind g'.blk}
section
variable {g g2:Gh} {w:World} {A:Ids}
end
end Go.Proofs.YtbcbkiaineacpaaGreat.VS
namespace Go.Proofs.YtbcbkiaineacpaaGreat.VS
variable {P:Program} {fid:Nat->FuncId} {g:Gh} {w:World}
theorem qmf{a:Act}{o:Oper}{c:Call}{f:Operand}{k:FuncId}{caps:Array Value}(ho:o.op= .call c)(hc:c.callee= .value f)(hf:a.eval f= .func (.func k) #[] caps)(hfn:quQ P k):
 (execOp a.eval o).run P w= .ok (.enter k (c.args.map a.eval++caps)) w:=by
 obtain⟨fn,h1,h2,h3⟩:=hfn;have h2':¬fn.name= "runtime.NumGoroutine":=by simpa using h2
 have h3':¬fn.body=none:=fun h=>by simp[h]at h3
 simp[execOp,ho,resolve,hc,hf,Deferred.ofValue,invoke,callFunc,h1,h2',h3']
theorem qQF{call:qaz}(hcall:qgO P fid call){p:Id}{draw:Bool}{L0 i:Nat}{a:Act}{o:Oper}{vo:VOper}{s s':St}(hcore:Core fid g w s.B s.A)(hr:qfh fid g w s.r a.tmps)
 (hfr:∀q,g.row (q++(s.c+i)::p)=none) (hdst:o.dst=vo.dst) (hd:∀d,o.dst=some d->d<a.tmps.size) (hok:qaY P fid o.op vo.op=true) (hv:qb2 call p draw L0 i vo s=some s')
 (K:Act->World->Prop) (Q:Exit->Act->World->Prop)
 (hK:∀g' w' u,Core fid g' w' s'.B s'.A->Boxes g w g'->Step (under (s.c+i) p) g w s.A g' w' s'.A->qfh fid g' w' s'.r (a.put o.dst u).tmps->K (a.put o.dst u) w'):o.wp P a w K Q:=by
 have fin:Nonempty (Does P fid (under (s.c+i) p) g w a o s s')->o.wp P a w K Q:=by
  rintro⟨n,u,w',g',run,res,core,boxes,step,regs⟩
  unfold Oper.wp;rw[run];rcases res with rfl|⟨rfl,rfl⟩
  ·exact hK g' w' u core boxes step regs
  ·exact hK g' w' undef core boxes step regs
 obtain⟨dst,vop,gd,af⟩:=vo;simp only at hdst hok;subst hdst;have hf0:=hfr [];simp only[List.nil_append]at hf0;have pure:∀v,evP s.r vop=some v->s'=s.put o.dst v->o.wp P a w K Q:=by
  rintro v h1 rfl
  obtain⟨u,h2,h3⟩:=qHS (P:=P) (fid:=fid) hr hok h1;exact fin ⟨Does.still u hcore hr hd h2 h3⟩
 cases vop with
 |load ag sz x=>exact fin (qKz hcore hr hd hok hv _)
 |store ini sz x y=>exact fin (qwj hcore hr hd hok hv _)
 |storeN sz x y av=>
  have hok':qaY P fid o.op (.store false sz x y)=true:=by
   cases ho:o.op with
   |store t a v=>rw[ho]at hok;simpa only[qaY]using hok
   |_=>rw[ho]at hok;simp[qaY]at hok
  have hv':qb2 call p draw L0 i ⟨o.dst,.store false sz x y,gd,af⟩ s=some s':=by
   simp only[qb2]at hv⊢
   split at hv
   ·split at hv
    ·simp at hv
    ·rename_i hc
     simp only[Bool.or_eq_true,not_or]at hc;rw[if_neg hc.1];exact hv
   ·simp at hv
  exact fin (qwj hcore hr hd hok' hv' _)
 |alloc k z=>exact fin (qGo hcore hr hd hok hv _)
 |box k x=>exact fin (qO9 hcore hr hd hok hv _)
 |buildSlice sz z n ps=>exact fin (qqc hcore hr hd hok hv hf0)
 |makeSlice k sz by' z x=>exact fin (qsp hcore hr hd hok hv _)
 |append sz by' x y=>exact fin (qC9 hcore hr hd hok hv hf0)
 |call iso f args=>
  obtain⟨dst,op,ty,pos,after,guard⟩:=o;cases op with
  |call c=>
   obtain⟨callee,cargs,argTypes⟩:=c;cases callee with
   |value fo=>
    simp only[qaY,Bool.and_eq_true]at hok;obtain⟨hok1,hok2⟩:=hok;simp only[qb2]at hv;split at hv
    ·rename_i k caps vs hf hvs
     have hfun:=qas (w:=w) hr hok1 hf;obtain⟨hl,hargs⟩:=qko (w:=w) hr hok2 hvs;generalize hq:a.eval fo=q at hfun;cases hfun with
     |fn _ _ us hus hcap=>
      split at hv
      ·
       split at hv
       ·rename_i ds hds
        split at hv
        ·rename_i v A B hc
         simp at hv;subst hv
         obtain⟨hfn,hcc⟩:=hcall _ _ _ _ _ _ hc;have hdd:=qbn hds;have hus0:us= #[]:=by simpa using hus
         subst hus0;have hrun:=qmf (P:=P) (w:=w) (a:=a) (o:=⟨dst,.call ⟨.value fo,cargs,argTypes⟩,ty,pos,after,guard⟩) rfl rfl hq hfn;have hcalls:=hcc (g.cutB 0) w (cargs.map a.eval++ #[]) (by simp[hl]) (fun j v u h1 h2=>by
          simp at h2;obtain⟨oo,h3,rfl⟩:=h2;have h4:=hargs j v oo h1 (by simpa using h3);have:∃d,v= .d d:=by
           rw[hdd]at h1;simp at h1;obtain⟨d,_,rfl⟩:=h1;exact⟨d,rfl⟩
          obtain⟨d,rfl⟩:=this;have e5:ExtV g w (g.cutB 0) w:=⟨fun _=>Nat.le_refl _,fun _ _=>rfl,fun _ _ h=>h⟩;exact AVR.data fid e5 h4) (by
          have h5:=(hcore.cutB 0).sub (A':=Ids.none) (fun x hx=>by simp[Ids.none]at hx);simpa using h5) (fun q j _=>by
          have:=hfr (q++[j]);simpa[Gh.cutB]using this)
         unfold Oper.wp;rw[hrun,Oper.upon_enter];refine hcalls.mono fun e w' ⟨u,g',he,hp⟩=> ?_
         subst he;obtain⟨g2,c2,b2,s2,e2,v2⟩:=qv6 hcore rfl hp;exact hK g2 w' u (by rw[qlQ,qe5];exact c2) b2 (by rw[qe5];exact s2.weaken (fun x ⟨q,j,_,hx⟩=>⟨q++[j],by simp[hx]⟩)) (qcp (s:={s with A:=_}) (hr.mono fid e2) v2 hd)
        ·simp at hv
       ·simp at hv
      ·
       split at hv
       ·rename_i v A B hc
        simp at hv;subst hv
        obtain⟨hfn,hcc⟩:=hcall _ _ _ _ _ _ hc;have hrun:=qmf (P:=P) (w:=w) (a:=a) (o:=⟨dst,.call ⟨.value fo,cargs,argTypes⟩,ty,pos,after,guard⟩) rfl rfl hq hfn;have hcalls:=hcc g w (cargs.map a.eval++us) (by simp[hl,hus]) (fun j v u h1 h2=>by
         by_cases hj:j<vs.length
         ·rw[ye_ hj]at h1
          rw[Array.getElem?_append_left (by simpa[hl]using hj)]at h2;simp at h2;obtain⟨oo,h3,rfl⟩:=h2;exact hargs j v oo h1 (by simpa using h3)
         ·rw[yd_ (by omega)]at h1
          rw[Array.getElem?_append_right (by simp at hl⊢;omega)]at h2;exact hcap _ v u h1 (by simpa[hl]using h2)) hcore (fun q j _=>by
         have:=hfr (q++[j]);simpa using this)
        unfold Oper.wp;rw[hrun,Oper.upon_enter];refine hcalls.mono fun e w' ⟨u,g',he,hp⟩=> ?_
        subst he;have hext:Ext g w g' w':=⟨hp.step.ext,hp.boxes.old⟩;exact hK g' w' u (by rw[qlQ,qe5];exact hp.core) hp.boxes (by rw[qe5];exact hp.step.weaken (fun x ⟨q,j,_,hx⟩=>⟨q++[j],by simp[hx]⟩)) (qcp (s:={s with A:=_,B:=_}) (hr.mono fid hext) hp.val hd)
       ·simp at hv
    ·simp at hv
   |_=>simp[qaY]at hok
  |_=>simp[qaY]at hok
 |_=>
  simp only[qb2]at hv;obtain⟨v,h1,h2⟩:=ya_.1 hv;exact pure v h1 h2.symm
end Go.Proofs.YtbcbkiaineacpaaGreat.VS
namespace Go.Proofs.YtbcbkiaineacpaaGreat.VS
inductive Eff where
 |none
 |box (b:Nat) (x:Option (List AV))
 |ids (X:Ids)
 |app (new a:Id)
def Eff.on(e:Eff)(s:St):St:=
 match e with
 | .none=>s
 | .box b x=>{s with B:=s.B.set b x}
 | .ids X=>{s with A:=Ids.or X s.A}
 | .app new a=>{s with A:=Ids.add new (Ids.del a s.A)}
def qPG(A:Ids)(new:Id)(sz bytes:Nat)(x y:DV):Option (AV×Eff):=
 match x,y with
 | .sl g xs,.sl _ ys=>
  if ys.all (fun e=>e.cells.length=sz/\e.cells.all DV.isCell)then
   if ys.isEmpty then some (.d (.sl g xs),.none)
   else if(xs.length+ys.length)*bytes<=140737488355328 then
    match g with
    | .nil=>some (.d (.sl (.own new sz) ys),.ids (fun x=>decide (x=new)))
    | .own a sz'=>if xs.isEmpty then some (.d (.sl (.own new sz) ys),.ids (fun x=>decide (x=new)))else if sz'=sz/\A a=true then some (.d (.sl (.own new sz) (xs++ys)),.app new a)else none
    | .sub=>none
   else none
  else none
 |_,_=>none
def evD(call:qaz)(p:Id)(L0 i:Nat)(op:VOp)(c:Nat)(r:List (Nat×AV))(B:qao)(A:Ids):Option (AV×Eff):=
 match op with
 | .alloc k zero=>if qdv B (L0+k)/\zero.all DV.isCell then some (.ptr (L0+k) 0,.box (L0+k) (some (zero.map .d)))else none
 | .box k x=>(x.get r).bind fun v=>if qdv B (L0+k)/\v.cells.all AV.isCell/\v.safe (L0+k)then some (.ptr (L0+k) 0,.box (L0+k) (some v.cells))else none
 | .load agg sz a=>
  match a.get r with
  |some (.ep cs)=>(cut agg sz cs).map fun v=>(.d v,.none)
  |some (.ptr b off)=>if L0<=b then none else(qaj B agg sz b off).map fun v=>(v,.none)
  |_=>none
 | .store true sz a x=>
  match a.get r,x.get r with
  |some (.ptr b off),some v=>
   if b<L0 then none
   else(qdP B b).bind fun cs=>if v.cells.length=sz/\off+sz<=cs.length/\v.cells.all AV.isCell/\v.safe b then some (.und,.box b (some (splice cs off v.cells)))else none
  |_,_=>none
 | .buildSlice sz zero len parts=>
  if zero.cells.length=sz/\zero.cells.all DV.isCell/\len*sz<=16777216/\len<=16777216 then
   (qaR (VX.get r) sz (List.replicate len zero) parts).map fun xs=>(.d (.sl (.own ((c+i)::p) sz) xs),.ids (fun x=>decide (x=(c+i)::p)))
  else none
 | .append sz bytes x y=>
  match x.get r,y.get r with
  |some (.d v),some (.d w)=>qPG A ((c+i)::p) sz bytes v w
  |_,_=>none
 | .call true f args=>
  match f.get r,qip r args with
  |some (.fn k caps),some vs=>
   match qaF vs,caps with
   |some _,[]=>
    match call ((c+i)::p) k vs [] Ids.none with
    |some {v:= .d v,A:=A',B:=_}=>some (.d v,.ids A')
    |_=>none
   |_,_=>none
  |_,_=>none
 |op=>(evP r op).map fun v=>(v,.none)
theorem qGl(call:qaz)(p:Id)(L0 i:Nat)(o:VOper)(s:St)(hk:o.op.kind≠.eff):qb2 call p true L0 i o s=(evD call p L0 i o.op s.c s.r s.B s.A).map fun q=>(q.2.on s).put o.dst q.1:=by
 obtain⟨dst,op,gd,af⟩:=o;cases op with
 |storeN sz a x av=>exact absurd rfl hk
 |alloc k z=>
  simp only[qb2,evD];split<;>rfl
 |box k x=>
  simp only[qb2,evD];cases x.get s.r with
  |none=>rfl
  |some v=>simp only[Option.bind_some];split<;>rfl
 |load ag sz x=>
  simp only[qb2,evD];generalize x.get s.r=q;cases q with
  |none=>rfl
  |some v=>
   cases v with
   |ep cs=>cases h:cut ag sz cs<;>simp[h,Eff.on]
   |ptr b off=>
    by_cases hb:L0<=b
    ·simp[hb]
    ·cases h:qaj s.B ag sz b off<;>simp[hb,h,Eff.on]
   |_=>rfl
 |store ini sz x y=>
  cases ini with
  |false=>simp[VOp.kind]at hk
  |true=>
   simp only[qb2,evD];generalize x.get s.r=q;generalize y.get s.r=q';cases q with
   |none=>rfl
   |some a=>
    cases a with
    |ptr b off=>
     cases q' with
     |none=>rfl
     |some v=>
      simp only[qbP,Bool.true_and,if_true,decide_eq_true_eq];split
      ·rfl
      ·unfold qd6
       cases qdP s.B b with
       |none=>rfl
       |some cs=>
        simp only[Option.bind_some];split<;>rfl
    |_=>rfl
 |buildSlice sz z n ps=>
  simp only[qb2,evD];split
  ·cases qaR (VX.get s.r) sz (List.replicate n z) ps<;>rfl
  ·rfl
 |makeSlice k sz by' z x=>simp[VOp.kind]at hk
 |append sz by' x y=>
  simp only[qb2,evD];generalize x.get s.r=q;generalize y.get s.r=q';have key:∀(v w:DV),(qes s ((s.c+i)::p) sz by' v w).map (fun x=>x.2.put dst x.1)=(qPG s.A ((s.c+i)::p) sz by' v w).map fun q=>(q.2.on s).put dst q.1:=by
   intro v w;unfold qes qPG;cases v with
   |sl g xs=>
    cases w with
    |sl g' ys=>
     simp only;split
     ·split
      ·rfl
      ·split
       ·cases g with
        |nil=>rfl
        |sub=>rfl
        |own a sz'=>simp only;split<;>first|rfl|(split<;>rfl)
       ·rfl
     ·rfl
    |_=>rfl
   |_=>rfl
  cases q with
  |none=>rfl
  |some a=>
   cases q' with
   |none=>cases a<;>rfl
   |some b=>
    cases a with
    |d v=>
     cases b with
     |d w=>exact key v w
     |_=>rfl
    |_=>rfl
 |call iso f args=>
  cases iso with
  |false=>simp[VOp.kind]at hk
  |true=>
   simp only[qb2,evD,if_true];generalize f.get s.r=q;generalize qip s.r args=q';cases q with
   |none=>rfl
   |some a=>
    cases a with
    |fn k caps=>
     cases q' with
     |none=>rfl
     |some vs=>
      simp only;generalize qaF vs=d;cases d with
      |none=>rfl
      |some ds=>
       cases caps with
       |cons _ _=>rfl
       |nil=>
        simp only;generalize call ((s.c+i)::p) k vs [] Ids.none=rr;cases rr with
        |none=>rfl
        |some res=>
         obtain⟨v,A,B⟩:=res;cases v<;>rfl
    |_=>rfl
 |_=>
  simp only[qb2,evD];generalize evP s.r _=q;cases q<;>rfl
def agree(r r':List (Nat×AV))(l:List Nat):Prop:=∀t,t∈l->lk r t=lk r' t
theorem qat{r r':List (Nat×AV)}{x:VX}(h:agree r r' x.tmps):x.get r=x.get r':=by
 cases x with
 |t n=>exact h n (by simp[VX.tmps])
 |c v=>rfl
theorem qaI{r r':List (Nat×AV)}{l l':List Nat}(h:agree r r' (l++l')):agree r r' l:=fun t ht=>h t (List.mem_append_left _ ht)
theorem qaE{r r':List (Nat×AV)}{l l':List Nat}(h:agree r r' (l++l')):agree r r' l':=fun t ht=>h t (List.mem_append_right _ ht)
theorem qgW{r r':List (Nat×AV)}:∀{xs:List VX},agree r r' (xs.flatMap VX.tmps)->qip r xs=qip r' xs
 | [],_=>rfl
 |x::xs,h=>by
  simp only[List.flatMap_cons]at h;simp only[qip,qat (qaI h),qgW (qaE h)]
theorem qf9{r r':List (Nat×AV)}:∀{ps:List (Nat×Nat×VX)} {cs:List DV},agree r r' (ps.flatMap fun q=>q.2.2.tmps)->qaG (VX.get r) cs ps=qaG (VX.get r') cs ps
 | [],_,_=>rfl
 |(off,sz,x)::ps,cs,h=>by
  simp only[List.flatMap_cons]at h;simp only[qaG,qat (qaI h)];split
  ·split
   ·exact qf9 (qaE h)
   ·rfl
  ·rfl
theorem qhb{r r':List (Nat×AV)}{sz:Nat}:∀{ps:List (Nat×VX)} {cs:List DV},agree r r' (ps.flatMap fun q=>q.2.tmps)->qaR (VX.get r) sz cs ps=qaR (VX.get r') sz cs ps
 | [],_,_=>rfl
 |(i,x)::ps,cs,h=>by
  simp only[List.flatMap_cons]at h;simp only[qaR,qat (qaI h)];split
  ·split
   ·exact qhb (qaE h)
   ·rfl
  ·rfl
theorem qoL{r r':List (Nat×AV)}{x:Option VX}(h:agree r r' (x.toList.flatMap VX.tmps)):qh1 r x=qh1 r' x:=by
 cases x with
 |none=>rfl
 |some x=>simp only[Option.toList_some,List.flatMap_cons,List.flatMap_nil,List.append_nil]at h;simp only[qh1,qat h]
theorem qCR{r r':List (Nat×AV)}{op:VOp}(h:agree r r' op.tmps):evP r op=evP r' op:=by
 cases op with
 |move x=>simp only[VOp.tmps]at h;simp only[evP,qat h]
 |pick c a b=>simp only[VOp.tmps]at h;simp only[evP,qat (qaI (qaI h)),qat (qaE (qaI h)),qat (qaE h)]
 |build z ps=>simp only[VOp.tmps]at h;simp only[evP,qf9 h]
 |nilCheck x=>simp only[VOp.tmps]at h;simp only[evP,qat h]
 |bin b x y=>simp only[VOp.tmps]at h;simp only[evP,qat (qaI h),qat (qaE h)]
 |eqAgg n k x y=>simp only[VOp.tmps]at h;simp only[evP,qat (qaI h),qat (qaE h)]
 |eqB n x y=>simp only[VOp.tmps]at h;simp only[evP,qat (qaI h),qat (qaE h)]
 |not x=>simp only[VOp.tmps]at h;simp only[evP,qat h]
 |conv c x=>simp only[VOp.tmps]at h;cases c<;>simp only[evP,qat h]
 |index x y=>simp only[VOp.tmps]at h;simp only[evP,qat (qaI h),qat (qaE h)]
 |indexAddr sz arr x y=>simp only[VOp.tmps]at h;cases arr<;>simp only[evP,qat (qaI h),qat (qaE h)]
 |fieldAddr o x=>simp only[VOp.tmps]at h;simp only[evP,qat h]
 |slice s sz x lo hi=>
  simp only[VOp.tmps,List.flatMap_append]at h;cases s<;>simp only[evP,qat (qaI h),qoL (qaI (qaE h)),qoL (qaE (qaE h))]
 |makeFunc f cs=>simp only[VOp.tmps]at h;simp only[evP,qgW h]
 |extract x i=>simp only[VOp.tmps]at h;simp only[evP,qat h]
 |len s x=>simp only[VOp.tmps]at h;cases s<;>simp only[evP,qat h]
 |_=>simp only[evP]
theorem qmj{call:qaz}{p:Id}{L0 i c:Nat}{r r':List (Nat×AV)}{op:VOp}{B:qao}{A:Ids}(h:agree r r' op.tmps):evD call p L0 i op c r B A=evD call p L0 i op c r' B A:=by
 cases op with
 |alloc k z=>rfl
 |box k x=>simp only[VOp.tmps]at h;simp only[evD,qat h]
 |load ag sz x=>simp only[VOp.tmps]at h;simp only[evD,qat h]
 |store ini sz x y=>
  simp only[VOp.tmps]at h;cases ini
  ·simp only[evD,evP]
  ·simp only[evD,qat (qaI h),qat (qaE h)]
 |buildSlice sz z n ps=>simp only[VOp.tmps]at h;simp only[evD,qhb h]
 |makeSlice k sz by' z x=>simp only[evD,evP]
 |append sz by' x y=>simp only[VOp.tmps]at h;simp only[evD,qat (qaI h),qat (qaE h)]
 |call iso f args=>
  simp only[VOp.tmps]at h;cases iso
  ·simp only[evD,evP]
  ·simp only[evD,qat (qaI h),qgW (qaE h)]
 |_=>simp only[evD,qCR h]
def Eff.B(e:Eff)(B:qao):qao:=
 match e with
 | .box b x=>B.set b x
 |_=>B
def Eff.A(e:Eff)(A:Ids):Ids:=
 match e with
 | .ids X=>Ids.or X A
 | .app new a=>Ids.add new (Ids.del a A)
 |_=>A
theorem Eff.qR9(e:Eff)(s:St):e.on s={s with B:=e.B s.B,A:=e.A s.A}:=by cases e<;>rfl
def evE(call:qaz)(p:Id)(L0 i:Nat)(op:VOp)(c:Nat)(r:List (Nat×AV))(B:qao)(A:Ids):Option (AV×qao×Ids):=
 match op with
 | .store false sz a x=>
  match a.get r,x.get r with
  |some (.ptr b off),some v=>
   if L0<=b then none
   else(qdP B b).bind fun cs=>if v.cells.length=sz/\off+sz<=cs.length/\v.cells.all AV.isCell/\v.safe b then some (.und,B.set b (some (splice cs off v.cells)),A)else none
  |_,_=>none
 | .storeN sz a x av=>
  match a.get r,x.get r with
  |some (.ptr b off),some v=>
   if L0<=b\/qdC r b av=false then none
   else(qdP B b).bind fun cs=>if v.cells.length=sz/\off+sz<=cs.length/\v.cells.all AV.isCell/\v.safe b then some (.und,B.set b (some (splice cs off v.cells)),A)else none
  |_,_=>none
 | .call false f args=>
  match f.get r,qip r args with
  |some (.fn k caps),some vs=>
   match call ((c+i)::p) k (vs++caps) B A with
   |some {v,A:=A',B:=B'}=>some (v,B',A')
   |none=>none
  |_,_=>none
 | .makeSlice _ _ _ _ _=>none
 |op=>(evD call p L0 i op c r B A).map fun q=>(q.1,q.2.B B,q.2.A A)
theorem qp9(call:qaz)(p:Id)(L0 i:Nat)(o:VOper)(s:St):
 qb2 call p true L0 i o s=(evE call p L0 i o.op s.c s.r s.B s.A).map fun q=>St.put ⟨s.r,q.2.1,q.2.2,s.c⟩ o.dst q.1:=by
 have main:o.op.kind≠.eff->(∀sz a x,o.op≠.store false sz a x)->(∀f as,o.op≠.call false f as)->(∀k sz b z x,o.op≠.makeSlice k sz b z x)->
  qb2 call p true L0 i o s=(evE call p L0 i o.op s.c s.r s.B s.A).map fun q=>St.put ⟨s.r,q.2.1,q.2.2,s.c⟩ o.dst q.1:=by
  intro h1 h2 h3 h4;rw[qGl call p L0 i o s h1];have:evE call p L0 i o.op s.c s.r s.B s.A=(evD call p L0 i o.op s.c s.r s.B s.A).map fun q=>(q.1,q.2.B s.B,q.2.A s.A):=by
   unfold evE;split<;>first
    |rfl
    |(rename_i h;first|exact absurd h (h2 _ _ _)|exact absurd h (h3 _ _)|exact absurd h (h4 _ _ _ _ _)|(rw[h]at h1;exact absurd rfl h1))
  rw[this];cases evD call p L0 i o.op s.c s.r s.B s.A with
  |none=>rfl
  |some q=>simp[Eff.qR9]
 obtain⟨dst,op,gd,af⟩:=o;cases op with
 |storeN sz x y av=>
  simp only[qb2,evE];generalize x.get s.r=q;generalize y.get s.r=q';cases q with
  |none=>rfl
  |some a=>
   cases a with
   |ptr b off=>
    cases q' with
    |none=>rfl
    |some v=>
     by_cases hc:L0<=b\/qdC s.r b av=false
     ·have hc2:(qbP true false L0 b|| !qdC s.r b av)=true:=by
       simp only[qbP,Bool.true_and,Bool.false_eq_true,if_false,Bool.or_eq_true,decide_eq_true_eq,Bool.not_eq_true'];exact hc
      simp only;rw[if_pos hc,if_pos hc2];rfl
     ·have hc2:¬(qbP true false L0 b|| !qdC s.r b av)=true:=by
       simp only[qbP,Bool.true_and,Bool.false_eq_true,if_false,Bool.or_eq_true,decide_eq_true_eq,Bool.not_eq_true'];exact hc
      simp only;rw[if_neg hc,if_neg hc2];unfold qd6;cases qdP s.B b with
      |none=>rfl
      |some cs=>
       simp only[Option.bind_some];split<;>rfl
   |_=>rfl
 |store ini sz x y=>
  cases ini with
  |true=>exact main (by simp[VOp.kind]) (by simp) (by simp) (by simp)
  |false=>
   simp only[qb2,evE];generalize x.get s.r=q;generalize y.get s.r=q';cases q with
   |none=>rfl
   |some a=>
    cases a with
    |ptr b off=>
     cases q' with
     |none=>rfl
     |some v=>
      simp only[qbP,Bool.true_and,Bool.false_eq_true,if_false,decide_eq_true_eq];split
      ·rfl
      ·unfold qd6
       cases qdP s.B b with
       |none=>rfl
       |some cs=>
        simp only[Option.bind_some];split<;>rfl
    |_=>rfl
 |call iso f args=>
  cases iso with
  |true=>exact main (by simp[VOp.kind]) (by simp) (by simp) (by simp)
  |false=>
   simp only[qb2,evE,Bool.false_eq_true,if_false];generalize f.get s.r=q;generalize qip s.r args=q';cases q with
   |none=>rfl
   |some a=>
    cases a with
    |fn k caps=>
     cases q' with
     |none=>rfl
     |some vs=>
      simp only;generalize call ((s.c+i)::p) k (vs++caps) s.B s.A=rr;cases rr<;>rfl
    |_=>rfl
 |makeSlice k sz b z x=>
  simp only[qb2,evE];generalize x.get s.r=q;cases q with
  |none=>rfl
  |some a=>
   cases a with
   |d v=>cases v<;>simp
   |_=>rfl
 |_=>exact main (by simp[VOp.kind]) (by simp) (by simp) (by simp)
theorem qgJ{call:qaz}{p:Id}{L0 i c:Nat}{r r':List (Nat×AV)}{op:VOp}{B:qao}{A:Ids}(h:agree r r' op.tmps):evE call p L0 i op c r B A=evE call p L0 i op c r' B A:=by
 cases op with
 |store ini sz x y=>
  cases ini
  ·simp only[VOp.tmps]at h;simp only[evE,qat (qaI h),qat (qaE h)]
  ·simp only[evE,qmj h]
 |call iso f args=>
  cases iso
  ·simp only[VOp.tmps]at h;simp only[evE,qat (qaI h),qgW (qaE h)]
  ·simp only[evE,qmj h]
 |storeN sz x y av=>
  simp only[VOp.tmps]at h;have h1:=qaI (qaI h);have h2:=qaE (qaI h);have h3:∀b,qdC r b av=qdC r' b av:=fun b=>by
   unfold qdC;rw[Bool.eq_iff_iff,List.all_eq_true,List.all_eq_true];exact forall_congr' fun t=>forall_congr' fun ht=>by rw[qaE h t ht]
  simp only[evE,qat h1,qat h2,h3]
 |makeSlice k sz b z x=>rfl
 |_=>simp only[evE,qmj h]
theorem qvQ{call:qaz}{p:Id}{L0 i c:Nat}{op:VOp}(hk:op.kind= .pure)(r:List (Nat×AV))(B:qao)(A:Ids):evE call p L0 i op c r B A=(evP r op).map fun v=>(v,B,A):=by
 cases op with
 |store ini sz x y=>cases ini<;>simp[VOp.kind]at hk
 |call iso f args=>cases iso<;>simp[VOp.kind]at hk
 |load ag sz x=>simp[VOp.kind]at hk
 |alloc k z=>simp[VOp.kind]at hk
 |box k x=>simp[VOp.kind]at hk
 |buildSlice sz z n ps=>simp[VOp.kind]at hk
 |append sz b x y=>simp[VOp.kind]at hk
 |makeSlice k sz b z x=>simp[VOp.kind]at hk
 |storeN sz a x av=>simp[VOp.kind]at hk
 |_=>
  simp only[evE,evD];generalize evP r _=q;cases q<;>rfl
theorem qpO{call:qaz}{p:Id}{L0 i c:Nat}{op:VOp}(hk:op.kind≠.eff)(r:List (Nat×AV))(B:qao)(A:Ids):
 evE call p L0 i op c r B A=(evD call p L0 i op c r B A).map fun q=>(q.1,q.2.B B,q.2.A A):=by
 cases op with
 |store ini sz x y=>cases ini;simp[VOp.kind]at hk;rfl
 |call iso f args=>cases iso;simp[VOp.kind]at hk;rfl
 |makeSlice k sz b z x=>simp[VOp.kind]at hk
 |storeN sz a x av=>simp[VOp.kind]at hk
 |_=>rfl
theorem qe9{call:qaz}{p:Id}{L0 i c:Nat}{op:VOp}(hk:op.kind= .row\/op.kind= .iso)(r:List (Nat×AV))(B B':qao)(A A':Ids):
 evD call p L0 i op c r B A=evD call p L0 i op c r B' A'/\∀v e,evD call p L0 i op c r B A=some (v,e)->∃X,e= .ids X:=by
 cases op with
 |buildSlice sz z n ps=>
  refine⟨rfl,fun v e h=> ?_⟩;simp only[evD]at h;split at h
  ·obtain⟨xs,_,h⟩:=ya_.1 h
   simp at h;exact⟨_,h.2.symm⟩
  ·simp at h
 |call iso f args=>
  cases iso with
  |false=>simp[VOp.kind]at hk
  |true=>
   refine⟨rfl,fun v e h=> ?_⟩;simp only[evD]at h;split at h
   ·split at h
    ·split at h
     ·simp at h;exact⟨_,h.2.symm⟩
     ·simp at h
    ·simp at h
   ·simp at h
 |store ini sz x y=>cases ini<;>simp[VOp.kind]at hk
 |_=>simp[VOp.kind]at hk
theorem qPs{call:qaz}{p:Id}{L0 i c:Nat}{op:VOp}(hk:op.kind= .app)(r:List (Nat×AV))(B B':qao)(A:Ids):
 evD call p L0 i op c r B A=evD call p L0 i op c r B' A/\∀v e,evD call p L0 i op c r B A=some (v,e)->∀B,e.B B=B:=by
 cases op with
 |append sz by' x y=>
  refine⟨rfl,fun v e h=> ?_⟩;simp only[evD]at h;split at h
  ·unfold qPG at h
   split at h
   ·split at h
    ·split at h
     ·simp at h;rw[<-h.2];intro B;rfl
     ·split at h
      ·split at h
       ·simp at h;rw[<-h.2];intro B;rfl
       ·split at h
        ·simp at h;rw[<-h.2];intro B;rfl
        ·split at h
         ·simp at h;rw[<-h.2];intro B;rfl
         ·simp at h
       ·simp at h
      ·simp at h
    ·simp at h
   ·simp at h
  ·simp at h
 |store ini sz x y=>cases ini<;>simp[VOp.kind]at hk
 |call iso f args=>cases iso<;>simp[VOp.kind]at hk
 |_=>simp[VOp.kind]at hk
theorem qhM{call:qaz}{p:Id}{L0 i c:Nat}{op:VOp}(hk:op.kind= .read)(r:List (Nat×AV))(B B':qao)(A A':Ids)(hB:∀b,b<L0->qdP B b=qdP B' b):
 evD call p L0 i op c r B A=evD call p L0 i op c r B' A'/\∀v e,evD call p L0 i op c r B A=some (v,e)->e= .none:=by
 cases op with
 |load ag sz x=>
  constructor
  ·simp only[evD]
   split
   ·rfl
   ·split
    ·rfl
    ·rename_i hb
     unfold qaj;rw[hB _ (by omega)]
   ·rfl
  ·intro v e h
   simp only[evD]at h;split at h
   ·obtain⟨xs,_,h⟩:=ya_.1 h
    simp at h;exact h.2.symm
   ·split at h
    ·simp at h
    ·obtain⟨xs,_,h⟩:=ya_.1 h
     simp at h;exact h.2.symm
   ·simp at h
 |store ini sz x y=>cases ini<;>simp[VOp.kind]at hk
 |call iso f args=>cases iso<;>simp[VOp.kind]at hk
 |_=>simp[VOp.kind]at hk
theorem qu7{call:qaz}{p:Id}{L0 i c:Nat}{op:VOp}(hk:op.kind= .room)(r:List (Nat×AV))(B:qao)(A:Ids){v:AV}{e:Eff}(h:evD call p L0 i op c r B A=some (v,e)):
 ∃b x,L0<=b/\e= .box b (some x)/\qdv B b=true/\∀B' A',qdv B' b=true->evD call p L0 i op c r B' A'=some (v,e):=by
 cases op with
 |alloc k z=>
  simp only[evD]at h;split at h
  ·rename_i hc
   simp at h;obtain⟨rfl,rfl⟩:=h;refine⟨_,_,Nat.le_add_right _ _,rfl,hc.1,fun B' A' hf=> ?_⟩;simp only[evD];rw[if_pos ⟨hf,hc.2⟩]
  ·simp at h
 |box k x=>
  simp only[evD]at h;obtain⟨v',hx,h⟩:=yb_.1 h;split at h
  ·rename_i hc
   simp at h;obtain⟨rfl,rfl⟩:=h;refine⟨_,_,Nat.le_add_right _ _,rfl,hc.1,fun B' A' hf=> ?_⟩;simp only[evD,hx,Option.bind_some];rw[if_pos ⟨hf,hc.2⟩]
  ·simp at h
 |store ini sz x y=>cases ini<;>simp[VOp.kind]at hk
 |call iso f args=>cases iso<;>simp[VOp.kind]at hk
 |_=>simp[VOp.kind]at hk
theorem qCt{call:qaz}{p:Id}{L0 i c:Nat}{op:VOp}(hk:op.kind= .init)(r:List (Nat×AV))(B:qao)(A:Ids){v:AV}{e:Eff}(h:evD call p L0 i op c r B A=some (v,e)):
 ∃b x,L0<=b/\e= .box b (some x)/\∀B' A',qdP B' b=qdP B b->evD call p L0 i op c r B' A'=some (v,e):=by
 cases op with
 |store ini sz x y=>
  cases ini with
  |false=>simp[VOp.kind]at hk
  |true=>
   simp only[evD]at h;split at h
   ·rename_i b off v' h1 h2
    split at h
    ·simp at h
    ·rename_i hb
     obtain⟨cs,hcs,h⟩:=yb_.1 h;split at h
     ·rename_i hc
      simp at h;obtain⟨rfl,rfl⟩:=h;refine⟨_,_,by omega,rfl,fun B' A' hf=> ?_⟩;simp only[evD,h1,h2];rw[if_neg hb,hf,hcs];simp only[Option.bind_some];rw[if_pos hc]
     ·simp at h
   ·simp at h
 |call iso f args=>cases iso<;>simp[VOp.kind]at hk
 |_=>simp[VOp.kind]at hk
theorem qd2{B:qao}{b b':Nat}{x:Option (List AV)}(h:b≠b'):qdP (B.set b x) b'=qdP B b':=by
 simp only[qdP,List.getElem?_set_ne h]
theorem qj6{B:qao}{b b':Nat}{x:Option (List AV)}(h:b≠b'):qdv (B.set b x) b'=qdv B b':=by
 simp only[qdv,List.getElem?_set_ne h]
theorem qsy{B:qao}{b:Nat}{x:List AV}:qdv (B.set b (some x)) b=false:=by
 unfold qdv
 by_cases h:b<B.length
 ·simp[h]
 ·rw[List.set_eq_of_length_le (by omega),List.getElem?_eq_none (by omega)]
theorem qOr{call:qaz}{p:Id}{L0 i j c:Nat}{oi oj:VOp}(hm:oj.kind.meet oi.kind=true)(r:List (Nat×AV))(B:qao)(A:Ids){vj vi:AV}{Bj Bij:qao}{Aj Aij:Ids}
 (h1:evE call p L0 j oj c r B A=some (vj,Bj,Aj)) (h2:evE call p L0 i oi c r Bj Aj=some (vi,Bij,Aij)):
 ∃Bi Ai,evE call p L0 i oi c r B A=some (vi,Bi,Ai)/\evE call p L0 j oj c r Bi Ai=some (vj,Bij,Aij):=by
 by_cases hpj:oj.kind= .pure
 ·rw[qvQ hpj]at h1
  obtain⟨v,hv,h1⟩:=ya_.1 h1;simp at h1;obtain⟨rfl,rfl,rfl⟩:=h1;exact⟨Bij,Aij,h2,by rw[qvQ hpj,hv];rfl⟩
 by_cases hpi:oi.kind= .pure
 ·rw[qvQ hpi]at h2
  obtain⟨v,hv,h2⟩:=ya_.1 h2;simp at h2;obtain⟨rfl,rfl,rfl⟩:=h2;exact⟨B,A,by rw[qvQ hpi,hv];rfl,h1⟩
 have hej:oj.kind≠.eff:=by
  intro h;rw[h]at hm
  revert hm hpi;cases oi.kind<;>simp[Kind.meet]
 have hei:oi.kind≠.eff:=by
  intro h;rw[h]at hm
  revert hm hpj;cases oj.kind<;>simp[Kind.meet]
 rw[qpO hej]at h1;rw[qpO hei]at h2;obtain⟨⟨vj',ej⟩,d1,h1⟩:=ya_.1 h1;obtain⟨⟨vi',ei⟩,d2,h2⟩:=ya_.1 h2;simp at h1 h2;obtain⟨rfl,rfl,rfl⟩:=h1;obtain⟨rfl,rfl,rfl⟩:=h2;have fin:evD call p L0 i oi c r B A=some (vi',ei)->evD call p L0 j oj c r (ei.B B) (ei.A A)=some (vj',ej)->ei.B (ej.B B)=ej.B (ei.B B)->ei.A (ej.A A)=ej.A (ei.A A)->
  ∃Bi Ai,evE call p L0 i oi c r B A=some (vi',Bi,Ai)/\evE call p L0 j oj c r Bi Ai=some (vj',ei.B (ej.B B),ei.A (ej.A A)):=by
  intro e1 e2 e3 e4;refine⟨ei.B B,ei.A A,?_,?_⟩
  ·rw[qpO hei,e1];rfl
  ·rw[qpO hej,e2,e3,e4];rfl
 have nobox:∀{k:Nat} {op:VOp} (B:qao) (A:Ids) {v e},(op.kind= .row\/op.kind= .iso\/op.kind= .app)->evD call p L0 k op c r B A=some (v,e)->(∀B',evD call p L0 k op c r B' A=some (v,e))/\∀B',e.B B'=B':=by
  intro k op B A v e hk hd;rcases hk with hk|hk|hk
  ·obtain⟨_,h⟩:=qe9 (call:=call) (p:=p) (L0:=L0) (i:=k) (c:=c) (.inl hk) r B B A A
   obtain⟨X,rfl⟩:=h v e hd;exact⟨fun B'=>by rw[<-hd];exact(qe9 (.inl hk) r B' B A A).1,fun _=>rfl⟩
  ·obtain⟨_,h⟩:=qe9 (call:=call) (p:=p) (L0:=L0) (i:=k) (c:=c) (.inr hk) r B B A A
   obtain⟨X,rfl⟩:=h v e hd;exact⟨fun B'=>by rw[<-hd];exact(qe9 (.inr hk) r B' B A A).1,fun _=>rfl⟩
  ·exact⟨fun B'=>by rw[<-hd];exact(qPs hk r B' B A).1,(qPs hk r B B A).2 v e hd⟩
 have noids:∀{k:Nat} {op:VOp} (B:qao) (A:Ids) {v e},(op.kind= .read\/op.kind= .room\/op.kind= .init)->evD call p L0 k op c r B A=some (v,e)->(∀A',evD call p L0 k op c r B A'=some (v,e))/\∀A',e.A A'=A':=by
  intro k op B A v e hk hd;rcases hk with hk|hk|hk
  ·have h:=(qhM (call:=call) (p:=p) (L0:=L0) (i:=k) (c:=c) hk r B B A A (fun _ _=>rfl)).2 v e hd
   subst h;exact⟨fun A'=>by rw[<-hd];exact(qhM hk r B B A' A (fun _ _=>rfl)).1,fun _=>rfl⟩
  ·obtain⟨b,x,_,rfl,hf,h⟩:=qu7 hk r B A hd
   exact⟨fun A'=>h B A' hf,fun _=>rfl⟩
  ·obtain⟨b,x,_,rfl,h⟩:=qCt hk r B A hd
   exact⟨fun A'=>h B A' rfl,fun _=>rfl⟩
 have split3:∀k:Kind,k≠.pure->k≠.eff->(k= .row\/k= .iso\/k= .app)\/(k= .read\/k= .room\/k= .init):=by
  intro k h1 h2;cases k<;>simp_all
 rcases split3 oj.kind hpj hej with kj|kj<;>rcases split3 oi.kind hpi hei with ki|ki
 ·
  obtain⟨a1,a2⟩:=nobox B A kj d1;obtain⟨b1,b2⟩:=nobox (ej.B B) (ej.A A) ki d2;have ri:oi.kind= .row\/oi.kind= .iso:=by
   rcases kj with h|h|h<;>rcases ki with h'|h'|h'<;>rw[h,h']at hm<;>simp_all[Kind.meet]
  have rj:oj.kind= .row\/oj.kind= .iso:=by
   rcases kj with h|h|h<;>rcases ki with h'|h'|h'<;>rw[h,h']at hm<;>simp_all[Kind.meet]
  obtain⟨X,rfl⟩:=(qe9 (call:=call) (p:=p) (L0:=L0) (i:=j) (c:=c) rj r B B A A).2 _ _ d1;obtain⟨Y,rfl⟩:=(qe9 (call:=call) (p:=p) (L0:=L0) (i:=i) (c:=c) ri r _ B _ A).2 _ _ d2;refine fin (by rw[<-d2];exact(qe9 ri r _ _ _ _).1) (by rw[<-d1];exact(qe9 rj r _ _ _ _).1) rfl ?_
  funext x
  simp only[Eff.A,Ids.or];cases Y x<;>cases X x<;>simp
 ·
  obtain⟨a1,a2⟩:=nobox B A kj d1;obtain⟨b1,b2⟩:=noids (ej.B B) (ej.A A) ki d2;rw[a2]at b1;refine fin (b1 A) (by rw[b2];exact a1 _) (by rw[a2,a2]) (by rw[b2,b2])
 ·
  obtain⟨a1,a2⟩:=noids B A kj d1;obtain⟨b1,b2⟩:=nobox (ej.B B) (ej.A A) ki d2;rw[a2]at b1;refine fin (b1 B) (by rw[b2];exact a1 _) (by rw[b2,b2]) (by rw[a2,a2])
 ·
  obtain⟨a1,a2⟩:=noids B A kj d1;obtain⟨b1,b2⟩:=noids (ej.B B) (ej.A A) ki d2;have hA:ei.A (ej.A A)=ej.A (ei.A A):=by rw[a2,b2,a2]
  have d2':=b1 A;rcases kj with kj|kj|kj
  ·
   have hn:=(qhM (call:=call) (p:=p) (L0:=L0) (i:=j) (c:=c) kj r B B A A (fun _ _=>rfl)).2 _ _ d1;subst hn;have d2'':evD call p L0 i oi c r B A=some (vi',ei):=d2';refine fin d2'' ?_ rfl hA;rw[<-d1];refine(qhM kj r _ _ _ _ (fun b hb=> ?_)).1;rcases ki with ki|ki|ki
   ·have hn:=(qhM (call:=call) (p:=p) (L0:=L0) (i:=i) (c:=c) ki r B B A A (fun _ _=>rfl)).2 _ _ d2''
    subst hn;rfl
   ·obtain⟨b',x,hb',rfl,_⟩:=qu7 ki r B A d2''
    exact qd2 (by omega)
   ·obtain⟨b',x,hb',rfl,_⟩:=qCt ki r B A d2''
    exact qd2 (by omega)
  ·obtain⟨bj,xj,hbj,rfl,hfj,hallj⟩:=qu7 kj r B A d1
   rcases ki with ki|ki|ki
   ·have d2'':evD call p L0 i oi c r B A=some (vi',ei):=by
     rw[<-d2'];exact(qhM ki r _ _ _ _ (fun b hb=>(qd2 (by omega)).symm)).1
    have hn:=(qhM (call:=call) (p:=p) (L0:=L0) (i:=i) (c:=c) ki r B B A A (fun _ _=>rfl)).2 _ _ d2'';subst hn;exact fin d2'' (a1 _) rfl hA
   ·obtain⟨bi,xi,hbi,rfl,hfi,halli⟩:=qu7 ki r _ A d2'
    have hne:bj≠bi:=by
     intro h;subst h;simp only[Eff.B]at hfi;rw[qsy]at hfi;simp at hfi
    simp only[Eff.B]at hfi;rw[qj6 hne]at hfi;refine fin (halli B A hfi) (hallj _ _ ?_) (List.set_comm _ _ hne) hA;simp only[Eff.B];rw[qj6 (Ne.symm hne)];exact hfj
   ·rw[kj,ki]at hm;simp[Kind.meet]at hm
  ·obtain⟨bj,xj,hbj,rfl,hallj⟩:=qCt kj r B A d1
   rcases ki with ki|ki|ki
   ·have d2'':evD call p L0 i oi c r B A=some (vi',ei):=by
     rw[<-d2'];exact(qhM ki r _ _ _ _ (fun b hb=>(qd2 (by omega)).symm)).1
    have hn:=(qhM (call:=call) (p:=p) (L0:=L0) (i:=i) (c:=c) ki r B B A A (fun _ _=>rfl)).2 _ _ d2'';subst hn;exact fin d2'' (a1 _) rfl hA
   ·rw[kj,ki]at hm;simp[Kind.meet]at hm
   ·rw[kj,ki]at hm;simp[Kind.meet]at hm
theorem qRQ{call:qaz}{p:Id}{L0 i j c:Nat}{oi oj:VOp}(hm:qGh oj oi=true)(r:List (Nat×AV))(B:qao)(A:Ids){vj vi:AV}{Bj Bij:qao}{Aj Aij:Ids}
 (h1:evE call p L0 j oj c r B A=some (vj,Bj,Aj)) (h2:evE call p L0 i oi c r Bj Aj=some (vi,Bij,Aij)):
 ∃Bi Ai,evE call p L0 i oi c r B A=some (vi,Bi,Ai)/\evE call p L0 j oj c r Bi Ai=some (vj,Bij,Aij):=by
 have ld:∀(k ag sz x:_) (B B':qao) (A A':Ids) v Bn An,evE call p L0 k (.load ag sz (.t x)) c r B A=some (v,Bn,An)->Bn=B/\An=A/\∀B' A',(∀b off,lk r x=some (.ptr b off)->qdP B' b=qdP B b)->evE call p L0 k (.load ag sz (.t x)) c r B' A'=some (v,B',A'):=by
  intro k ag sz x B B' A A' v Bn An h;simp only[evE,evD]at h;obtain⟨q,hq,he⟩:=ya_.1 h;simp only[VX.get]at hq;split at hq
  ·rename_i cs hx
   obtain⟨u,hu,rfl⟩:=ya_.1 hq;simp only[Eff.B,Eff.A,Prod.mk.injEq]at he;obtain⟨rfl,rfl,rfl⟩:=he;refine⟨rfl,rfl,fun B' A' _=> ?_⟩;simp only[evE,evD,VX.get,hx,hu,Option.map_some,Eff.B,Eff.A]
  ·rename_i b off hx
   split at hq
   ·simp at hq
   ·rename_i hL
    obtain⟨u,hu,rfl⟩:=ya_.1 hq;simp only[Eff.B,Eff.A,Prod.mk.injEq]at he;obtain⟨rfl,rfl,rfl⟩:=he;refine⟨rfl,rfl,fun B' A' hb=> ?_⟩;have:qaj B' ag sz b off=qaj B ag sz b off:=by unfold qaj;rw[hb b off hx]
    simp only[evE,evD,VX.get,hx,if_neg hL,this,hu,Option.map_some,Eff.B,Eff.A]
  ·simp at hq
 have st:∀(k sz a x av:_) (B:qao) (A:Ids) v Bn An,evE call p L0 k (.storeN sz a x av) c r B A=some (v,Bn,An)->An=A/\∃b cs,qdP B b=some cs/\(∀t,av.contains t=true->∀b' off,lk r t=some (.ptr b' off)->b'≠b)/\(∃cs2,Bn=B.set b (some cs2))/\∀A',evE call p L0 k (.storeN sz a x av) c r B A'=some (v,Bn,A'):=by
  intro k sz a x av B A v Bn An h;simp only[evE]at h;split at h
  ·rename_i b off w ha hx
   split at h
   ·simp at h
   ·rename_i hc
    obtain⟨cs,hb,h⟩:=yb_.1 h;split at h
    ·rename_i hc2
     simp only[Option.some.injEq,Prod.mk.injEq]at h;obtain⟨rfl,rfl,rfl⟩:=h;refine⟨rfl,b,cs,hb,fun t ht b' off' hl he=> ?_,⟨_,rfl⟩,fun A'=> ?_⟩
     ·have hf:qdC r b av=true:=by
       have:=not_or.1 hc;simpa using this.2
      unfold qdC at hf;have:=List.all_eq_true.1 hf t (by simpa using ht);rw[hl]at this;simp[he]at this
     ·simp only[evE,ha,hx,if_neg hc,hb,Option.bind_some,if_pos hc2]
    ·simp at h
  ·simp at h
 unfold qGh at hm;split at hm
 ·rename_i ag sz x sz' a y av
  obtain⟨rfl,rfl,l1⟩:=ld _ _ _ _ _ B A A _ _ _ h1;obtain⟨rfl,b,cs,hb,hav,⟨cs2,rfl⟩,_⟩:=st _ _ _ _ _ _ _ _ _ _ h2;exact⟨_,_,h2,l1 _ _ fun b' off hl=>qd2 (Ne.symm (hav x hm b' off hl))⟩
 ·rename_i sz' a y av ag sz x
  obtain⟨rfl,b,cs,hb,hav,⟨cs2,rfl⟩,_⟩:=st _ _ _ _ _ _ _ _ _ _ h1;obtain⟨rfl,rfl,l1⟩:=ld _ _ _ _ _ B Aj Aj _ _ _ h2;exact⟨B,Aij,l1 _ _ fun b' off hl=>(qd2 (Ne.symm (hav x hm b' off hl))).symm,h1⟩
 ·simp at hm
def qer(call:qaz)(p:Id)(draw:Bool)(L0 i:Nat)(o:VOper)(s:St):Option St:=
 match qdt s.r o.guard with
 |some true=>qb2 call p draw L0 i o s
 |some false=>some (s.put o.dst .und)
 |none=>none
theorem qmi(call:qaz)(p:Id)(draw:Bool)(L0 i:Nat)(o:VOper)(os:List VOper)(s:St):
 qdl call p draw L0 i (o::os) s=(qer call p draw L0 i o s).bind (qdl call p draw L0 (i+1) os):=by
 simp only[qdl,qer];generalize qdt s.r o.guard=q;cases q with
 |none=>rfl
 |some b=>cases b<;>rfl
def St.eqv(s s':St):Prop:=(∀t,lk s.r t=lk s'.r t)/\s.B=s'.B/\s.A=s'.A/\s.c=s'.c
theorem St.eqv.refl(s:St):s.eqv s:=⟨fun _=>rfl,rfl,rfl,rfl⟩
theorem St.eqv.trans{s s' s'':St}(h:s.eqv s')(h':s'.eqv s''):s.eqv s'':=⟨fun t=>(h.1 t).trans (h'.1 t),h.2.1.trans h'.2.1,h.2.2.1.trans h'.2.2.1,h.2.2.2.trans h'.2.2.2⟩
theorem qbX{r r':List (Nat×AV)}{gd:Option (Nat×Bool)}(h:agree r r' (match gd with|some (t,_)=>[t]|none=>[])):qdt r gd=qdt r' gd:=by
 cases gd with
 |none=>rfl
 |some q=>
  obtain⟨t,w⟩:=q;simp only[qdt,h t (by simp)]
theorem qe0(s:St)(dst:Option Nat)(v:AV)(t:Nat):lk (s.put dst v).r t=if dst=some t then some v else lk s.r t:=by
 cases dst with
 |none=>simp[St.put]
 |some d=>
  simp only[St.put,lk,Option.some.injEq]
  by_cases h:t=d
  ·simp[h]
  ·simp[h,Ne.symm h]
theorem qiN{s s':St}(h:s.eqv s')(dst:Option Nat)(v:AV):(s.put dst v).eqv (s'.put dst v):=by
 refine⟨fun t=> ?_,?_,?_,?_⟩
 ·rw[qe0,qe0,h.1 t]
 ·cases dst<;>exact h.2.1
 ·cases dst<;>exact h.2.2.1
 ·cases dst<;>exact h.2.2.2
theorem qJt{call:qaz}{p:Id}{L0 i:Nat}{o:VOper}{s s' t:St}(h:s.eqv s')(h1:qer call p true L0 i o s=some t):∃t',qer call p true L0 i o s'=some t'/\t.eqv t':=by
 have ha:∀l,agree s.r s'.r l:=fun l t _=>h.1 t
 unfold qer at h1⊢
 rw[<-qbX (ha _)];split at h1
 ·rw[qp9]at h1⊢
  obtain⟨q,h2,h3⟩:=ya_.1 h1;rw[qgJ (ha _),h.2.1,h.2.2.1,h.2.2.2]at h2;rw[h2];subst h3;exact⟨_,rfl,qiN (s:=⟨s.r,q.2.1,q.2.2,s.c⟩) (s':=⟨s'.r,q.2.1,q.2.2,s'.c⟩) ⟨h.1,rfl,rfl,h.2.2.2⟩ _ _⟩
 ·simp at h1;subst h1
  exact⟨_,rfl,qiN h _ _⟩
 ·simp at h1
def qDl(a b:VOper):Prop:=(a.op.kind.meet b.op.kind=true\/qGh a.op b.op=true)/\qfu a b=true/\qfu b a=true
theorem apart_spec{a b:VOper}(h:qfu a b=true):∀d,a.dst=some d->d∉b.looks/\b.dst≠some d:=by
 intro d hd;unfold qfu at h;rw[hd]at h;simp at h;exact h
theorem qej{s:St}{dst:Option Nat}{v:AV}{l:List Nat}(h:∀d,dst=some d->d∉l):agree s.r (s.put dst v).r l:=by
 intro t ht;rw[qe0,if_neg (fun hd=>h t hd ht)]
theorem put_comm(s:St){d d':Option Nat}(v v':AV)(h:∀t,d=some t->d'≠some t):((s.put d v).put d' v').eqv ((s.put d' v').put d v):=by
 refine⟨fun t=> ?_,?_,?_,?_⟩
 ·rw[qe0,qe0,qe0,qe0]
  by_cases h1:d=some t
  ·rw[if_neg (h t h1),if_pos h1,if_pos h1]
  ·rw[if_neg h1,if_neg h1]
 ·cases d<;>cases d'<;>rfl
 ·cases d<;>cases d'<;>rfl
 ·cases d<;>cases d'<;>rfl
theorem qkp{o:VOper}{r r':List (Nat×AV)}(h:agree r r' o.looks):agree r r' o.op.tmps:=fun t ht=>h t (by unfold VOper.looks;exact List.mem_append_left _ ht)
theorem qch{o:VOper}{r r':List (Nat×AV)}(h:agree r r' o.looks):agree r r' (match o.guard with|some (t,_)=>[t]|none=>[]):=fun t ht=>h t (by unfold VOper.looks;exact List.mem_append_right _ ht)
theorem qHH(s:St)(dst:Option Nat)(v:AV):(s.put dst v).B=s.B:=by cases dst<;>rfl
theorem qHI(s:St)(dst:Option Nat)(v:AV):(s.put dst v).A=s.A:=by cases dst<;>rfl
theorem qHC(s:St)(dst:Option Nat)(v:AV):(s.put dst v).c=s.c:=by cases dst<;>rfl
theorem qFM{call:qaz}{p:Id}{L0 i j:Nat}{oi oj:VOper}(hc:qDl oj oi){s s1 s2:St}(h1:qer call p true L0 j oj s=some s1)(h2:qer call p true L0 i oi s1=some s2):
 ∃s1' s2',qer call p true L0 i oi s=some s1'/\qer call p true L0 j oj s1'=some s2'/\s2.eqv s2':=by
 obtain⟨hm,ha,hb⟩:=hc;have A1:=apart_spec ha;have A2:=apart_spec hb;have form:∀{k:Nat} {o:VOper} {s t:St},qer call p true L0 k o s=some t->
  (qdt s.r o.guard=some true/\∃v B A,evE call p L0 k o.op s.c s.r s.B s.A=some (v,B,A)/\t=St.put ⟨s.r,B,A,s.c⟩ o.dst v)\/(qdt s.r o.guard=some false/\t=s.put o.dst .und):=by
  intro k o s t h;unfold qer at h;split at h
  ·rename_i hw
   rw[qp9]at h;obtain⟨⟨v,B,A⟩,h3,h4⟩:=ya_.1 h;exact .inl ⟨hw,v,B,A,h3,h4.symm⟩
  ·rename_i hw
   simp at h;exact .inr ⟨hw,h.symm⟩
  ·simp at h
 have back1:∀{k:Nat} {o:VOper} {s:St} {v B A},qdt s.r o.guard=some true->evE call p L0 k o.op s.c s.r s.B s.A=some (v,B,A)->qer call p true L0 k o s=some (St.put ⟨s.r,B,A,s.c⟩ o.dst v):=by
  intro k o s v B A hw h;unfold qer;rw[hw];simp only;rw[qp9,h];rfl
 have back2:∀{k:Nat} {o:VOper} {s:St},qdt s.r o.guard=some false->qer call p true L0 k o s=some (s.put o.dst .und):=by
  intro k o s hw;unfold qer;rw[hw]
 have dd:∀t,oj.dst=some t->oi.dst≠some t:=fun t h=>(A1 t h).2
 rcases form h1 with⟨wj,vj,Bj,Aj,ej,rfl⟩|⟨wj,rfl⟩
 ·have gi:∀v,agree s.r (St.put ⟨s.r,Bj,Aj,s.c⟩ oj.dst v).r oi.looks:=fun v=>qej (s:=⟨s.r,Bj,Aj,s.c⟩) (fun d hd=>(A1 d hd).1)
  rcases form h2 with⟨wi,vi,Bi,Ai,ei,rfl⟩|⟨wi,rfl⟩
  ·have wi':qdt s.r oi.guard=some true:=by rw[<-wi];exact qbX (qch (gi vj))
   have ei':evE call p L0 i oi.op s.c s.r Bj Aj=some (vi,Bi,Ai):=by
    have e:=ei;rw[<-qgJ (qkp (gi vj))]at e;have hB:(St.put ⟨s.r,Bj,Aj,s.c⟩ oj.dst vj).B=Bj:=by cases oj.dst<;>rfl
    have hA:(St.put ⟨s.r,Bj,Aj,s.c⟩ oj.dst vj).A=Aj:=by cases oj.dst<;>rfl
    have hC:(St.put ⟨s.r,Bj,Aj,s.c⟩ oj.dst vj).c=s.c:=by cases oj.dst<;>rfl
    rw[hB,hA,hC]at e;exact e
   obtain⟨B',A',e1,e2⟩:∃Bi Ai,evE call p L0 i oi.op s.c s.r s.B s.A=some (vi,Bi,Ai)/\evE call p L0 j oj.op s.c s.r Bi Ai=some (vj,_,_):=by
    rcases hm with hm|hm
    ·exact qOr hm s.r s.B s.A ej ei'
    ·exact qRQ hm s.r s.B s.A ej ei'
   refine⟨_,_,back1 wi' e1,back1 (v:=vj) (B:=Bi) (A:=Ai) ?_ ?_,?_⟩
   ·rw[<-wj]
    exact(qbX (qch (qej (s:=⟨s.r,B',A',s.c⟩) (fun d hd=>(A2 d hd).1)))).symm
   ·have hB:(St.put ⟨s.r,B',A',s.c⟩ oi.dst vi).B=B':=by cases oi.dst<;>rfl
    have hA:(St.put ⟨s.r,B',A',s.c⟩ oi.dst vi).A=A':=by cases oi.dst<;>rfl
    have hC:(St.put ⟨s.r,B',A',s.c⟩ oi.dst vi).c=s.c:=by cases oi.dst<;>rfl
    rw[hB,hA,hC,<-qgJ (qkp (qej (s:=⟨s.r,B',A',s.c⟩) (v:=vi) (fun d hd=>(A2 d hd).1)))];exact e2
   ·have:=put_comm ⟨s.r,Bi,Ai,s.c⟩ vj vi dd
    refine St.eqv.trans ?_ (St.eqv.trans this ?_)
    ·refine qiN (s:=⟨(St.put ⟨s.r,Bj,Aj,s.c⟩ oj.dst vj).r,Bi,Ai,_⟩) (s':=St.put ⟨s.r,Bi,Ai,s.c⟩ oj.dst vj) ⟨fun t=>by rw[qe0,qe0],by cases oj.dst<;>rfl,by cases oj.dst<;>rfl,by cases oj.dst<;>rfl⟩ oi.dst vi
    ·refine qiN (s:=St.put ⟨s.r,Bi,Ai,s.c⟩ oi.dst vi) (s':=⟨(St.put ⟨s.r,B',A',s.c⟩ oi.dst vi).r,Bi,Ai,_⟩) ⟨fun t=>by rw[qe0,qe0],by cases oi.dst<;>rfl,by cases oi.dst<;>rfl,by cases oi.dst<;>rfl⟩ oj.dst vj
  ·have wi':qdt s.r oi.guard=some false:=by rw[<-wi];exact qbX (qch (gi vj))
   refine⟨_,_,back2 wi',back1 (v:=vj) (B:=Bj) (A:=Aj) ?_ ?_,?_⟩
   ·rw[<-wj]
    exact(qbX (qch (qej (fun d hd=>(A2 d hd).1)))).symm
   ·rw[qHH,qHI,qHC,<-qgJ (qkp (qej (s:=s) (v:= .und) (fun d hd=>(A2 d hd).1)))]
    exact ej
   ·have:=put_comm ⟨s.r,Bj,Aj,s.c⟩ vj .und dd
    refine St.eqv.trans this ?_;refine qiN (s:=St.put ⟨s.r,Bj,Aj,s.c⟩ oi.dst .und) (s':=⟨(s.put oi.dst .und).r,Bj,Aj,_⟩) ⟨fun t=>by rw[qe0,qe0],by cases oi.dst<;>rfl,by cases oi.dst<;>rfl,by cases oi.dst<;>rfl⟩ oj.dst vj
 ·have gi:agree s.r (s.put oj.dst .und).r oi.looks:=qej (fun d hd=>(A1 d hd).1)
  rcases form h2 with⟨wi,vi,Bi,Ai,ei,rfl⟩|⟨wi,rfl⟩
  ·have wi':qdt s.r oi.guard=some true:=by rw[<-wi];exact qbX (qch gi)
   rw[qHH,qHI,qHC,<-qgJ (qkp gi)]at ei;refine⟨_,_,back1 wi' ei,back2 ?_,?_⟩
   ·rw[<-wj]
    exact(qbX (qch (qej (s:=⟨s.r,Bi,Ai,s.c⟩) (fun d hd=>(A2 d hd).1)))).symm
   ·have:=put_comm ⟨s.r,Bi,Ai,s.c⟩ .und vi dd
    refine St.eqv.trans ?_ this;refine qiN (s:=⟨(s.put oj.dst .und).r,Bi,Ai,_⟩) (s':=St.put ⟨s.r,Bi,Ai,s.c⟩ oj.dst .und) ⟨fun t=>by rw[qe0,qe0],by cases oj.dst<;>rfl,by cases oj.dst<;>rfl,by cases oj.dst<;>rfl⟩ oi.dst vi
  ·have wi':qdt s.r oi.guard=some false:=by rw[<-wi];exact qbX (qch gi)
   refine⟨_,_,back2 wi',back2 ?_,put_comm s .und .und dd⟩;rw[<-wj];exact(qbX (qch (qej (fun d hd=>(A2 d hd).1)))).symm
def qh9(call:qaz)(p:Id)(L0:Nat):List (Nat×VOper)->St->Option St
 | [],s=>some s
 |(i,o)::r,s=>(qer call p true L0 i o s).bind (qh9 call p L0 r)
theorem qAu{call:qaz}{p:Id}{L0:Nat}:∀{l:List (Nat×VOper)} {s s' t:St},s.eqv s'->qh9 call p L0 l s=some t->∃t',qh9 call p L0 l s'=some t'/\t.eqv t'
 | [],s,s',t,h,h1=>by simp[qh9]at h1;subst h1;exact⟨s',rfl,h⟩
 |(i,o)::l,s,s',t,h,h1=>by
  simp only[qh9]at h1⊢
  obtain⟨s1,h2,h3⟩:=yb_.1 h1;obtain⟨s1',h4,h5⟩:=qJt h h2;obtain⟨t',h6,h7⟩:=qAu h5 h3;exact⟨t',by rw[h4];exact h6,h7⟩
theorem qqZ{call:qaz}{p:Id}{L0 i:Nat}{oi:VOper}{post:List (Nat×VOper)}:∀{pre:List (Nat×VOper)} {s t:St},(∀q,q∈pre->qDl q.2 oi)->
 qh9 call p L0 (pre++(i,oi)::post) s=some t->∃s1 t',qer call p true L0 i oi s=some s1/\qh9 call p L0 (pre++post) s1=some t'/\t.eqv t'
 | [],s,t,_,h=>by
  simp only[List.nil_append,qh9]at h;obtain⟨s1,h2,h3⟩:=yb_.1 h;exact⟨s1,t,h2,h3,.refl t⟩
 |(j,oj)::pre,s,t,hc,h=>by
  simp only[List.cons_append,qh9]at h;obtain⟨sj,h2,h3⟩:=yb_.1 h;obtain⟨s1,t',h4,h5,h6⟩:=qqZ (fun q hq=>hc q (by simp[hq])) h3;obtain⟨s1',s2',h7,h8,h9⟩:=qFM (hc (j,oj) (by simp)) h2 h4;obtain⟨t'',h10,h11⟩:=qAu h9 h5;refine⟨s1',t'',h7,?_,h6.trans h11⟩;simp only[List.cons_append,qh9,h8,Option.bind_some];exact h10
theorem qsl{call:qaz}{p:Id}{L0:Nat}:∀{os:List VOper} {i:Nat} {s:St},qdl call p true L0 i os s=qh9 call p L0 ((List.range' i os.length).zip os) s
 | [],_,_=>rfl
 |o::os,i,s=>by
  rw[qmi];simp only[List.length_cons,List.range'_succ,List.zip_cons_cons,qh9]
  congr 1
  funext s1
  exact qsl
end Go.Proofs.YtbcbkiaineacpaaGreat.VS
namespace Go.Proofs.YtbcbkiaineacpaaGreat.VS
variable {P:Program} {fid:Nat->FuncId} {g:Gh} {w:World}
theorem quY{ops:Array Oper}{a:Act}{r:List (Nat×AV)}(hr:qfh fid g w r a.tmps){o:Oper}{gd:Option (Nat×Bool)}(hok:qpS ops o.guard gd=true){b:Bool}(h:qdt r gd=some b):
 Region.wanted o (yielded ops a.tmps)=b:=by
 unfold qpS at hok;unfold Region.wanted;split at hok
 ·rename_i e1
  rw[e1];simp[qdt]at h;simp[h]
 ·rename_i j wn t wn' e1
  simp at hok;obtain⟨rfl,hdst⟩:=hok;rw[e1];simp only[qdt]at h;have hy:yielded ops a.tmps j=match a.tmps[t]? with|some (.bool b)=>some b|_=>none:=by
   unfold yielded;rw[hdst];rfl
  split at h
  ·rename_i bb hl
   simp at h;subst h
   have hv:=qd9 (hr t _ hl);rw[yf_]at hv;cases hq:a.tmps[t]? with
   |none=>rw[hq]at hv;simp[undef]at hv
   |some x=>
    rw[hq]at hv;simp at hv;subst hv;show(yielded ops a.tmps j==some wn)=(bb==wn);rw[hy,hq];cases bb<;>cases wn<;>rfl
  ·rename_i hl
   simp at h;subst h
   have hv:=hr t _ hl;rw[yf_]at hv;cases hq:a.tmps[t]? with
   |none=>simp[hy,hq]
   |some x=>
    rw[hq]at hv;simp at hv;cases hv;simp[hy,hq,undef]
  ·simp at h
 ·simp at hok
theorem qO1{call:qaz}{p:Id}{draw:Bool}{L0 i:Nat}{o:VOper}{s s':St}(h:qb2 call p draw L0 i o s=some s'):s'.c=s.c:=by
 obtain⟨dst,op,gd,af⟩:=o;cases op with
 |load ag sz x=>
  simp only[qb2]at h;split at h
  ·obtain⟨v,_,rfl⟩:=ya_.1 h;exact qhR _ _ _
  ·split at h
   ·simp at h
   ·obtain⟨v,_,rfl⟩:=ya_.1 h;exact qhR _ _ _
  ·simp at h
 |store ini sz x y=>
  simp only[qb2]at h;split at h
  ·split at h
   ·simp at h
   ·obtain⟨v,h1,rfl⟩:=ya_.1 h
    unfold qd6 at h1;obtain⟨cs,_,h1⟩:=yb_.1 h1;split at h1
    ·simp at h1;subst h1;rw[qhR]
    ·simp at h1
  ·simp at h
 |storeN sz x y av=>
  simp only[qb2]at h;split at h
  ·split at h
   ·simp at h
   ·obtain⟨v,h1,rfl⟩:=ya_.1 h
    unfold qd6 at h1;obtain⟨cs,_,h1⟩:=yb_.1 h1;split at h1
    ·simp at h1;subst h1;rw[qhR]
    ·simp at h1
  ·simp at h
 |alloc k z=>
  simp only[qb2]at h;split at h
  ·simp at h;subst h;rw[qhR]
  ·simp at h
 |box k x=>
  simp only[qb2]at h;obtain⟨v,_,h⟩:=yb_.1 h;split at h
  ·simp at h;subst h;rw[qhR]
  ·simp at h
 |buildSlice sz z n ps=>
  simp only[qb2]at h;split at h
  ·obtain⟨v,_,rfl⟩:=ya_.1 h;rw[qhR]
  ·simp at h
 |makeSlice k sz by' z x=>
  simp only[qb2]at h;split at h
  ·split at h
   ·simp at h;subst h;rw[qhR]
   ·simp at h
  ·simp at h
 |append sz by' x y=>
  simp only[qb2]at h;split at h
  ·obtain⟨⟨v,s1⟩,h1,rfl⟩:=ya_.1 h
   rw[qhR];unfold qes at h1;split at h1
   ·split at h1
    ·split at h1
     ·simp at h1;rw[h1.2]
     ·split at h1
      ·split at h1
       ·simp at h1;rw[<-h1.2]
       ·split at h1
        ·simp at h1;rw[<-h1.2]
        ·split at h1
         ·simp at h1;rw[<-h1.2]
         ·simp at h1
       ·simp at h1
      ·simp at h1
    ·simp at h1
   ·simp at h1
  ·simp at h
 |call iso f args=>
  simp only[qb2]at h;split at h
  ·split at h
   ·split at h
    ·split at h
     ·simp at h;subst h;rw[qhR]
     ·simp at h
    ·simp at h
   ·split at h
    ·simp at h;subst h;rw[qhR]
    ·simp at h
  ·simp at h
 |_=>
  simp only[qb2]at h;obtain⟨v,_,rfl⟩:=ya_.1 h;exact qhR _ _ _
theorem quv{call:qaz}{p:Id}{draw:Bool}{L0 i:Nat}{o:VOper}{s s':St}(h:qer call p draw L0 i o s=some s'):s'.c=s.c:=by
 unfold qer at h;split at h
 ·exact qO1 h
 ·simp at h;subst h;exact qhR _ _ _
 ·simp at h
theorem qCS{call:qaz}{p:Id}{draw:Bool}{L0:Nat}:∀{os:List VOper} {i:Nat} {s s':St},qdl call p draw L0 i os s=some s'->s'.c=s.c
 | [],_,_,_,h=>by simp[qdl]at h;rw[h]
 |o::os,i,s,s',h=>by
  rw[qmi]at h;obtain⟨s1,h1,h2⟩:=yb_.1 h;rw[qCS h2,quv h1]
theorem qB3{call:qaz}(hcall:qgO P fid call){p:Id}{draw:Bool}{L0 i N:Nat}{a:Act}{ops:Array Oper}{o:Oper}{vo:VOper}{s s':St}(hcore:Core fid g w s.B s.A)(hr:qfh fid g w s.r a.tmps)(hN:a.tmps.size=N)
 (hfr:∀q,g.row (q++(s.c+i)::p)=none) (hok:qgB P fid N ops o vo=true) (hv:qer call p draw L0 i vo s=some s')
 (K:Act->World->Prop) (Q:Exit->Act->World->Prop)
 (hK:∀g' w' u,Core fid g' w' s'.B s'.A->Boxes g w g'->Step (under (s.c+i) p) g w s.A g' w' s'.A->qfh fid g' w' s'.r (a.put o.dst u).tmps->K (a.put o.dst u) w'):
 if Region.wanted o (yielded ops a.tmps)then o.wp P a w K Q else K (a.put o.dst undef) w:=by
 simp only[qgB,Bool.and_eq_true,beq_iff_eq]at hok;obtain⟨⟨⟨h1,h2⟩,h3⟩,h4⟩:=hok;have hd:∀d,o.dst=some d->d<a.tmps.size:=by
  intro d hd;rw[hN];simpa[hd]using h2
 unfold qer at hv;split at hv
 ·rename_i hw
  rw[quY hr h4 hw,if_pos rfl];exact qQF hcall hcore hr hfr h1 hd h3 hv K Q hK
 ·rename_i hw
  rw[quY hr h4 hw];simp at hv;subst hv
  simp only[Bool.false_eq_true,if_false];refine hK g w undef (by rw[qlQ,qe5];exact hcore) (.refl g w) (by rw[qe5];exact .refl _ g w s.A) ?_;rw[<-h1];exact qcp hr .und hd
 ·simp at hv
theorem qfR(a:Act)(d:Option Nat)(u:Value):(a.put d u).tmps.size=a.tmps.size:=by cases d<;>simp[Act.put]
theorem put_defers(a:Act)(d:Option Nat)(u:Value):(a.put d u).defers=a.defers:=by cases d<;>rfl
theorem qEY{k k':Nat}{p:Id}{q:Id}(h:k≠k'):¬under k p (q++k'::p):=by
 rintro⟨q',h'⟩
 have:=List.append_inj' h' (by simp);simp at this;exact h this.2.symm
theorem qsc{p:Id}{k:Nat}{g':Gh}{w':World}{A A':Ids}(hs:Step (under k p) g w A g' w' A'){k':Nat}(hne:k≠k')(h:∀q,g.row (q++k'::p)=none):∀q,g'.row (q++k'::p)=none:=by
 intro q
 by_cases he:g'.row (q++k'::p)=g.row (q++k'::p)
 ·rw[he];exact h q
 ·exact absurd (hs.new _ he) (qEY hne)
theorem qHK{call:qaz}(hcall:qgO P fid call){p:Id}{L0 N:Nat}{ops:Array Oper}:∀(os:List Oper) (vs:List VOper) (i:Nat) (g:Gh) (w:World) (a:Act) (s s':St),
 qbR P fid N ops false os vs=true->Core fid g w s.B s.A->qfh fid g w s.r a.tmps->a.tmps.size=N->(∀q j,s.c+i<=j->g.row (q++j::p)=none)->qdl call p false L0 i vs s=some s'->
 ∀(Q:Exit->Act->World->Prop),(∀g' a' w',Core fid g' w' s'.B s'.A->Boxes g w g'->Step (fun x=>∃q j,s.c+i<=j/\j<s.c+i+vs.length/\x=q++j::p) g w s.A g' w' s'.A->qfh fid g' w' s'.r a'.tmps->a'.tmps.size=N->a'.defers=a.defers->Q .normal a' w')->
  wpList P ops Q os a w
 | [],[],i,g,w,a,s,s',_,hcore,hr,hN,hfr,hv,Q,hQ=>by
  simp[qdl]at hv;subst hv
  exact hQ g a w hcore (.refl g w) (.refl _ g w s.A) hr hN rfl
 |o::os,v::vs,i,g,w,a,s,s',hok,hcore,hr,hN,hfr,hv,Q,hQ=>by
  simp only[qbR,Bool.and_eq_true]at hok;obtain⟨⟨⟨h1,_⟩,_⟩,h2⟩:=hok;rw[qmi]at hv;obtain⟨s1,hv1,hv2⟩:=yb_.1 hv;have hc1:=quv hv1;unfold wpList;have key:=qB3 (g:=g) (w:=w) hcall hcore hr hN (fun q=>hfr q _ (Nat.le_refl _)) h1 hv1 (wpList P ops Q os) Q (fun g1 w1 u c1 b1 st1 r1=>by
   refine qHK hcall os vs (i+1) g1 w1 (a.put o.dst u) s1 s' h2 c1 r1 (by rw[qfR];exact hN) (fun q j hj=> ?_) hv2 Q (fun g2 a2 w2 c2 b2 st2 r2 n2 d2=> ?_)
   ·exact qsc st1 (by omega) (fun q=>hfr q j (by omega)) q
   ·refine hQ g2 a2 w2 c2 (b1.trans st1.size b2) ((st1.weaken (fun x ⟨q,hx⟩=>⟨q,s.c+i,Nat.le_refl _,by simp,hx⟩)).trans b1 (st2.weaken (fun x ⟨q,j,h3,h4,hx⟩=>⟨q,j,by omega,by simp only[List.length_cons];omega,hx⟩))) r2 n2 (by rw[d2,put_defers]))
  split
  ·rename_i hw
   rw[if_pos hw]at key;exact .inl key
  ·rename_i hw
   rw[if_neg hw]at key;exact key
 | [],_::_,_,_,_,_,_,_,h,_,_,_,_,_,_,_=>by simp[qbR]at h
 |_::_,[],_,_,_,_,_,_,h,_,_,_,_,_,_,_=>by simp[qbR]at h
end Go.Proofs.YtbcbkiaineacpaaGreat.VS
