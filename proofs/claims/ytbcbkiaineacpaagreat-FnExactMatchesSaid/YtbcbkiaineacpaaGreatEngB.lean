/- The engine, part 2: a call of the program answers what an evaluator of values without memory answers, for the functions whose code is the one that the evaluator is given. -/
import Derived.Test.YtbcbkiaineacpaaGreatEngA
import Derived.Laws.Append
import Derived.Laws.AppendOwn
import Derived.LoopN
import Derived.Tactics
set_option linter.unusedSimpArgs false
set_option linter.unusedVariables false
namespace Go.Proofs.YtbcbkiaineacpaaGreat.VS
variable {P:Program} {fid:Nat->FuncId} {g:Gh} {w:World}
def under(k:Nat)(p:Id)(a:Id):Prop:=∃q,a=q++k::p
structure Does(P:Program)(fid:Nat->FuncId)(N:Id->Prop)(g:Gh)(w:World)(a:Act)(o:Oper)(s s':St) where
 n:Next
 u:Value
 w':World
 g':Gh
 run:(execOp a.eval o).run P w= .ok n w'
 res:n= .value u\/(n= .skip/\u=undef)
 core:Core fid g' w' s'.B s'.A
 boxes:Boxes g w g'
 step:Step N g w s.A g' w' s'.A
 regs:qef fid g' w' s'.r (a.put o.dst u).tmps
theorem qgo(a:Act)(dst:Option Nat)(u:Value)(t:Nat):
 (a.put dst u).tmps.getD t undef=if dst=some t/\t<a.tmps.size then u else a.tmps.getD t undef:=by
 cases dst with
 |none=>simp[Act.put]
 |some d=>
  simp only[Act.put,Option.some.injEq]
  by_cases h:d=t
  ·subst h
   by_cases hl:d<a.tmps.size
   ·simp[hl,yf_]
   ·simp[hl,yf_]
  ·simp[h,yf_,Array.getElem?_setIfInBounds_ne h]
theorem qbX{a:Act}{dst:Option Nat}{u:Value}{v:AV}{s:St}(hr:qef fid g w s.r a.tmps)(hv:AVR fid g w v u)(hd:∀d,dst=some d->d<a.tmps.size):
 qef fid g w (s.put dst v).r (a.put dst u).tmps:=by
 intro t x hx;rw[qgo];cases dst with
 |none=>simp[St.put]at hx;simpa using hr t x hx
 |some d=>
  simp only[St.put,lk]at hx;split at hx
  ·rename_i h
   subst h;simp at hx;subst hx
   simp[hd t rfl,hv]
  ·rename_i h
   rw[if_neg (by simp;intro h';exact absurd h'.symm h)];exact hr t x hx
theorem qiB(s:St)(dst:Option Nat)(v:AV):(s.put dst v).B=s.B:=by cases dst<;>rfl
theorem qdr(s:St)(dst:Option Nat)(v:AV):(s.put dst v).A=s.A:=by cases dst<;>rfl
theorem qf2(s:St)(dst:Option Nat)(v:AV):(s.put dst v).c=s.c:=by cases dst<;>rfl
def Does.still{N:Id->Prop}{a:Act}{o:Oper}{s:St}{v:AV}(u:Value)(hcore:Core fid g w s.B s.A)(hr:qef fid g w s.r a.tmps)(hd:∀d,o.dst=some d->d<a.tmps.size)
 (h1:(execOp a.eval o).run P w= .ok (.value u) w) (h2:AVR fid g w v u):Does P fid N g w a o s (s.put o.dst v):=
 ⟨.value u,u,w,g,h1,.inl rfl,by rw[qiB,qdr];exact hcore,.refl g w,by rw[qdr];exact .refl N g w s.A,qbX hr h2 hd⟩
theorem qbz:∀{cs:List AV} {ds:List DV},qaG cs=some ds->cs=ds.map .d
 | [],ds,h=>by simp[qaG]at h;subst h;rfl
 | .d v::r,ds,h=>by
  simp only[qaG]at h;obtain⟨ds',h1,rfl⟩:=ya_.1 h;rw[qbz h1];rfl
 | .ptr _ _::_,_,h=>by simp[qaG]at h
 | .ep _::_,_,h=>by simp[qaG]at h
 | .nilp::_,_,h=>by simp[qaG]at h
 | .fn _ _::_,_,h=>by simp[qaG]at h
 | .bsl _ _ _ _ _::_,_,h=>by simp[qaG]at h
 | .tsl _ _ _ _::_,_,h=>by simp[qaG]at h
 | .ag _ _::_,_,h=>by simp[qaG]at h
 | .und::_,_,h=>by simp[qaG]at h
theorem qib{B:qal}{i:Nat}{cs:List AV}:qcu B i=some cs↔B[i]?=some (some cs):=by
 unfold qcu;split
 ·rename_i h;rw[h];simp
 ·rename_i h
  constructor
  ·intro h';simp at h'
  ·intro h';exact absurd h' (by intro h'';exact h _ h'')
theorem qm9{B:qal}{A:Ids}(hc:Core fid g w B A){agg:Bool}{sz i off b:Nat}{v:AV}(hb:g.bx i=some b)(h:qak B agg sz i off=some v):
 ∃u,AVR fid g w v u/\(agg=true->∃f:Nat->Value,u= .agg ((List.range sz).map f).toArray/\∀j,j<sz->w.cell? ((⟨b,off,none⟩:Addr).add j)=some (f j))/\(agg=false->w.cell? ⟨b,off,none⟩=some u):=by
 obtain⟨cs,arr,e,h1,h2,h3,h4,h5,h6⟩:=hc.box i b hb;have hcell:∀j,w.cell? ((⟨b,off,none⟩:Addr).add j)=arr[off+j]?:=by
  intro j;have:(⟨b,off,none⟩:Addr).add j=⟨b,off+j,none⟩:=by unfold Addr.add;split<;>simp_all
  rw[this];simp[World.cell?,h2]
 unfold qak at h;rw[qib.2 h1]at h;simp only[Option.bind_some]at h;cases agg with
 |true=>
  simp only[if_true]at h;split at h
  case isFalse=>simp at h
  rename_i hlen;cases hds:qaG ((cs.drop off).take sz)with
  |none=>
   rw[hds]at h;simp only[qiP]at h;split at h
   ·simp only[Option.some.injEq]at h
    subst h;refine⟨.agg ((List.range sz).map fun j=>arr.getD (off+j) undef).toArray,.ag _ _ (by simp;omega) (fun j v u hj hu=> ?_),fun _=>⟨_,rfl,fun j hj=> ?_⟩,by simp⟩
    ·have hlt:j<sz:=by have:=(List.getElem?_eq_some_iff.1 hj).1;simp at this;omega
     rw[List.getElem?_take,if_pos hlt,List.getElem?_drop]at hj;simp[hlt]at hu;have hl:off+j<arr.size:=by omega
     rw[<-hu];simp only[Array.getElem?_eq_getElem hl,Option.getD_some];exact h4 _ _ (arr[off+j]) hj (by simp[hl])
    ·rw[hcell]
     have hl:off+j<arr.size:=by omega
     simp[hl,yf_]
   ·simp at h
  |some ds=>
  rw[hds]at h;simp only[qiP,Option.some.injEq]at h;subst h;have hd:=qbz hds;have hget:∀j,j<sz->∃x,ds[j]?=some x/\cs[off+j]?=some (.d x):=by
   intro j hj;have:(cs.drop off).take sz=ds.map .d:=hd;have h7:=congrArg (·[j]?) this;simp[List.getElem?_drop,hj]at h7;have hl:off+j<cs.length:=by omega
   rw[List.getElem?_eq_getElem hl]at h7;cases hx:ds[j]? with
   |none=>rw[hx]at h7;simp at h7
   |some x=>rw[hx]at h7;simp at h7;exact⟨x,rfl,by rw[List.getElem?_eq_getElem hl,h7]⟩
  have hlds:ds.length=sz:=by
   have:=congrArg List.length hd;simp at this;omega
  refine⟨.agg ((List.range sz).map fun j=>arr.getD (off+j) undef).toArray,.d _ _ (.agg _ _ (by simp[hlds]) (fun v hv=> ?_) fun j v u hj hu=> ?_),fun _=>⟨_,rfl,fun j hj=> ?_⟩,by simp⟩
  ·obtain⟨j,hj⟩:=List.mem_iff_getElem?.1 hv
   have hlt:j<sz:=by have:=(List.getElem?_eq_some_iff.1 hj).1;omega
   obtain⟨x,hx,hx'⟩:=hget j hlt;rw[hj]at hx;simp at hx;subst hx
   exact(h5 _ (List.mem_of_getElem? hx')).1
  ·have hlt:j<sz:=by have:=(List.getElem?_eq_some_iff.1 hj).1;omega
   obtain⟨x,hx,hx'⟩:=hget j hlt;rw[hj]at hx;simp at hx;subst hx
   simp[hlt]at hu;have hl:off+j<arr.size:=by omega
   have:=h4 _ _ (arr[off+j]) hx' (by simp[hl]);rw[<-hu];simp[hl];exact qee this
  ·rw[hcell]
   have hl:off+j<arr.size:=by omega
   simp[hl,yf_]
 |false=>
  simp at h;have hl:off<arr.size:=by have:=(List.getElem?_eq_some_iff.1 h).1;omega
  refine⟨arr[off],h4 _ _ _ h (by simp[hl]),by simp,fun _=> ?_⟩;have:=hcell 0;simpa[Addr.add,hl]using this
section
variable {p:Id} {call:qaz} {draw:Bool} {L0 i:Nat} {a:Act} {o:Oper} {s s':St}
theorem qoJ{t:TypeId}{ad:Addr}{agg:Bool}{sz:Nat}{u:Value}(h1:qqQ P t=some agg)(h2:qe1 P t=some sz)
 (ha:agg=true->∃f:Nat->Value,u= .agg ((List.range sz).map f).toArray/\∀j,j<sz->w.cell? (ad.add j)=some (f j)) (hb:agg=false->w.cell? ad=some u):
 (loadVar t ad).run P w= .ok u w:=by
 unfold loadVar;simp only[Sem.run_bind,qS8 h1,Result.andThen_ok];cases agg with
 |true=>
  obtain⟨f,rfl,hf⟩:=ha rfl;simp only[if_true,Sem.run_bind,qnY h2,Result.andThen_ok];rw[run_loadCells w ad sz f hf];simp
 |false=>simp[hb rfl]
theorem qPb(hcore:Core fid g w s.B s.A)(hr:qef fid g w s.r a.tmps)(hd:∀d,o.dst=some d->d<a.tmps.size){agg:Bool}{sz:Nat}{x:VX}(h:qa4 P fid o.op (.load agg sz x)=true)
 {gd:Option (Nat×Bool)} {af:List Nat} (hv:qbv call p draw L0 i ⟨o.dst,.load agg sz x,gd,af⟩ s=some s') (N:Id->Prop):Nonempty (Does P fid N g w a o s s'):=by
 obtain⟨dst,op,ty,pos,after,guard⟩:=o;cases op with
 |load t y=>
  simp only[qa4,Bool.and_eq_true,decide_eq_true_eq]at h;obtain⟨⟨h1,h2⟩,h3⟩:=h;simp only[qbv]at hv;split at hv
  ·rename_i cs hx
   obtain⟨v,hcut,rfl⟩:=ya_.1 hv;have hrel:=qas (w:=w) hr h3 hx;generalize hq:a.eval y=q at hrel;cases hrel with
   |ep _ ad U hs hK hcc=>
    obtain⟨u,hu,ha,hb⟩:=qU8 (g:=g) (w:=w) hcut ad U hcc;refine⟨Does.still u hcore hr hd ?_ (.d _ _ hu)⟩;have:=qoJ (P:=P) (w:=w) (ad:=ad) (u:=u) h1 h2 (fun e=>⟨U,(ha e).1,(ha e).2⟩) (fun e=>by have:=hb e;rw[this.1];simpa[Addr.add]using this.2);simp[execOp,Instr.loadAt,hq,Instr.sureAddr,this]
  ·rename_i b off hx
   split at hv
   ·simp at hv
   ·obtain⟨v,hl,rfl⟩:=ya_.1 hv
    obtain⟨blk,hb,he⟩:=qeu (qas (w:=w) hr h3 hx);obtain⟨u,hu,ha,hb'⟩:=qm9 hcore hb hl;refine⟨Does.still u hcore hr hd ?_ hu⟩;have:=qoJ (P:=P) (w:=w) (ad:=⟨blk,off,none⟩) (u:=u) h1 h2 ha hb';simp[execOp,Instr.loadAt,he,Instr.sureAddr,this]
  ·simp at hv
 |_=>simp[qa4]at h
end
end Go.Proofs.YtbcbkiaineacpaaGreat.VS
namespace Go.Proofs.YtbcbkiaineacpaaGreat.VS
variable {P:Program} {fid:Nat->FuncId} {g:Gh} {w:World}
theorem qpN{m:Nat}:∀{l:List AV},AV.safe.safes m l=true->∀v:AV,v∈l->v.safe m=true
 | [],_,v,h=>by simp at h
 |a::r,hs,v,h=>by
  unfold AV.safe.safes at hs;simp only[Bool.and_eq_true]at hs;rcases List.mem_cons.1 h with rfl|h
  ·exact hs.1
  ·exact qpN hs.2 v h
theorem qmA{m:Nat}{t:Bool}{cs:List AV}(h:(AV.ag t cs).safe m=true):∀v:AV,v∈(AV.ag t cs).cells->v.safe m=true:=by
 intro v hv;cases t with
 |false=>unfold AV.safe at h;exact qpN h v hv
 |true=>simp[AV.cells]at hv;subst hv;exact h
theorem qPG{v:AV}{u:Value}(h:AVR fid g w v u)(hc:v.isCell=true):u.oneCell'=true:=by
 cases h with
 |d v u hv=>cases hv<;>first|rfl|simp[AV.isCell,DV.isCell]at hc
 |ag cs us hs h=>simp[AV.isCell]at hc
 |tp cs us hs h=>simp[AV.isCell]at hc
 |und=>simp[AV.isCell]at hc
 |_=>rfl
theorem qrT{v:AV}{u:Value}(h:AVR fid g w v u)(hc:v.cells.all AV.isCell=true):
 u.cells.size=v.cells.length/\(∀(j:Nat) (c:AV) (x:Value),v.cells[j]?=some c->u.cells[j]?=some x->AVR fid g w c x)/\(∀x,x∈u.cells.toList->x.oneCell'=true):=by
 have one:∀(v:AV) (u:Value),v.cells=[v]->u.cells= #[u]->u.oneCell'=true->AVR fid g w v u->
  u.cells.size=v.cells.length/\(∀(j:Nat) (c:AV) (x:Value),v.cells[j]?=some c->u.cells[j]?=some x->AVR fid g w c x)/\(∀x,x∈u.cells.toList->x.oneCell'=true):=by
  intro v u h1 h2 h3 h4;rw[h1,h2];refine⟨rfl,fun j c x h5 h6=> ?_,fun x hx=>by simp at hx;subst hx;exact h3⟩;cases j<;>simp at h5 h6
  subst h5;subst h6;exact h4
 cases h with
 |d v u hv=>
  cases v with
  |agg cs=>
   have hcc:∀c,c∈(DV.agg cs).cells->c.isCell=true:=by
    intro c hm;have:=List.all_eq_true.1 hc (.d c) (by simp[AV.cells];exact hm);exact this
   obtain⟨h1,h2,h3⟩:=qnP hv hcc;refine⟨by simpa[AV.cells,DV.cells]using h1,fun j c x h4 h5=> ?_,h3⟩;simp only[AV.cells,List.getElem?_map]at h4;obtain⟨c',h6,rfl⟩:=ya_.1 h4;exact .d _ _ (h2 j c' x h6 h5)
  |tup cs=>simp[AV.cells,AV.isCell,DV.isCell]at hc
  |int k n=>exact one _ _ rfl (by cases hv;rfl) (by cases hv;rfl) (.d _ _ hv)
  |bool b=>exact one _ _ rfl (by cases hv;rfl) (by cases hv;rfl) (.d _ _ hv)
  |str b=>exact one _ _ rfl (by cases hv;rfl) (by cases hv;rfl) (.d _ _ hv)
  |sl t xs=>exact one _ _ rfl (by cases hv<;>rfl) (by cases hv<;>rfl) (.d _ _ hv)
 |ptr i off b h=>exact one _ _ rfl rfl rfl (.ptr i off b h)
 |ep cs ad U hs hK h=>exact one _ _ rfl rfl rfl (.ep cs ad U hs hK h)
 |nilp=>exact one _ _ rfl rfl rfl .nilp
 |fn f cap us hs h=>exact one _ _ rfl rfl rfl (.fn f cap us hs h)
 |bsl id ag i sz n b h=>exact one _ _ rfl rfl rfl (.bsl id ag i sz n b h)
 |tsl ag i sz n c b h h1 h2=>exact one _ _ rfl rfl rfl (.tsl ag i sz n c b h h1 h2)
 |ag cs us hs h=>
  refine⟨hs,h,fun x hx=> ?_⟩;obtain⟨j,hj⟩:=List.mem_iff_getElem?.1 hx;have hj':us[j]?=some x:=by simpa[Value.cells]using hj
  have hlt:j<cs.length:=by have:=(Array.getElem?_eq_some_iff.1 hj').1;omega
  exact qPG (h j cs[j] x (by simp[hlt]) hj') (List.all_eq_true.1 hc _ (by simp[AV.cells]))
 |tp cs us hs h=>simp[AV.cells,AV.isCell]at hc
 |und=>simp[AV.cells,AV.isCell]at hc
theorem qnk{b:Nat}{arr arr':Array Value}{e:TypeId}(hb:w.heap[b]?=some (.cells arr e (0,0)))(hK:g.K b=0):Ext g w g (w.setRow b arr'):=by
 refine⟨⟨fun _=>Nat.le_refl _,fun ad had=> ?_,fun _ _ h=>h⟩,fun _ _ h=>h⟩;have hne:ad.block≠b:=fun h=>by rw[h,hK]at had;omega
 simp only[World.cell?];rw[setRow_other w b ad.block arr' hne]
section
variable {p:Id} {call:qaz} {draw:Bool} {L0 i:Nat} {a:Act} {o:Oper} {s s':St}
theorem qxl(hcore:Core fid g w s.B s.A)(hr:qef fid g w s.r a.tmps)(hd:∀d,o.dst=some d->d<a.tmps.size){ini:Bool}{sz:Nat}{x y:VX}(h:qa4 P fid o.op (.store ini sz x y)=true)
 {gd:Option (Nat×Bool)} {af:List Nat} (hv:qbv call p draw L0 i ⟨o.dst,.store ini sz x y,gd,af⟩ s=some s') (N:Id->Prop):Nonempty (Does P fid N g w a o s s'):=by
 obtain⟨dst,op,ty,pos,after,guard⟩:=o;cases op with
 |store t x' y'=>
  simp only[qa4,Bool.and_eq_true,decide_eq_true_eq]at h;obtain⟨⟨h1,h2⟩,h3⟩:=h;simp only[qbv]at hv;split at hv
  ·rename_i b off v hx hy
   split at hv
   ·simp at hv
   ·obtain⟨s1,hs1,rfl⟩:=ya_.1 hv
    unfold qdi at hs1;obtain⟨cs,hcs,hs1⟩:=yb_.1 hs1;split at hs1
    ·rename_i hcond
     obtain⟨hsz,hlen,hall,hsafe⟩:=hcond;simp at hs1;subst hs1
     obtain⟨blk,hb,he⟩:=qeu (qas (w:=w) hr h2 hx);have hy':=qas (w:=w) hr h3 hy;generalize hq:a.eval y'=q at hy';obtain⟨c1,c2,c3⟩:=qrT hy' hall;obtain⟨cs',arr,e,b1,b2,b3,b4,b5,b6⟩:=hcore.box b blk hb;have:cs'=cs:=by have:=qib.1 hcs;rw[b1]at this;simpa using this
     subst this;have hst:=run_storeCells_at (P:=P) blk off e q.cells.toList 0 arr w b2 (by simp;omega) c3;have hrun:(execOp a.eval ⟨dst,.store t x' y',ty,pos,after,guard⟩).run P w= .ok .skip (w.setRow blk (arr.toList.take (off+0)++q.cells.toList++arr.toList.drop (off+0+q.cells.toList.length)).toArray):=by
      simp only[execOp,Instr.storeAt,he,Instr.sureAddr,hq,Sem.run_bind,Sem.run_pure,Result.andThen_ok,storeVar,qnY h1];rw[if_neg (by simp;omega),hst];simp
     have hnew:(arr.toList.take (off+0)++q.cells.toList++arr.toList.drop (off+0+q.cells.toList.length))=splice arr.toList off q.cells.toList:=by simp[splice]
     rw[hnew]at hrun;have hext:=qnk (g:=g) (arr':=(splice arr.toList off q.cells.toList).toArray) b2 b6;have hheap:=setRow_heap w blk arr (splice arr.toList off q.cells.toList).toArray e (0,0) b2;have hoth:∀b',b'≠blk->(w.setRow blk (splice arr.toList off q.cells.toList).toArray).heap[b']?=w.heap[b']?:=fun b' hb'=>setRow_other w blk b' _ hb'
     have hlt:b<s.B.length:=(List.getElem?_eq_some_iff.1 b1).1;refine⟨⟨.skip,undef,_,g,hrun,.inr ⟨rfl,rfl⟩,?_,.refl g w,?_,?_⟩⟩
     ·rw[qiB,qdr]
      refine⟨fun i b' hb'=> ?_,hcore.inj,fun id hid=> ?_,hcore.apart,fun b' hb'=>hcore.K0 b' (by simpa[World.setRow]using hb')⟩
      ·by_cases hi:i=b
       ·subst hi
        rw[hb]at hb';simp at hb';subst hb'
        refine⟨splice cs' off v.cells,_,e,by simp[hlt],hheap,?_,fun j v' u' hj hu=> ?_,fun v' hm=> ?_,b6⟩
        ·simp only[List.size_toArray]
         rw[qcj cs' _ _ (by omega),qcj arr.toList _ _ (by simp;omega)];simpa using b3
        ·rw[qcE _ _ _ (by omega)]at hj
         simp only[List.getElem?_toArray]at hu;rw[qcE _ _ _ (by simp;omega)]at hu
         by_cases hc:off<=j/\j<off+v.cells.length
         ·rw[if_pos hc]at hj
          rw[if_pos (by simp;omega)]at hu;exact(c2 _ _ _ hj (by simpa using hu)).mono fid hext
         ·rw[if_neg hc]at hj
          rw[if_neg (by simp;omega)]at hu;exact(b4 _ _ _ hj (by simpa using hu)).mono fid hext
        ·obtain⟨j,hj⟩:=List.mem_iff_getElem?.1 hm
         rw[qcE _ _ _ (by omega)]at hj;split at hj
         ·have hmem:=List.mem_of_getElem? hj
          refine⟨List.all_eq_true.1 hall _ hmem,?_⟩;cases v with
          |d dv=>
           have:∃d',v'= .d d':=by
            cases dv<;>simp[AV.cells]at hmem<;>first|exact⟨_,hmem⟩|(obtain⟨d',_,rfl⟩:=hmem;exact⟨d',rfl⟩)
           obtain⟨d',rfl⟩:=this;unfold AV.safe;rfl
          |ag tp cs=>exact qmA hsafe _ hmem
          |_=>simp[AV.cells]at hmem;subst hmem;exact hsafe
         ·exact b5 _ (List.mem_of_getElem? hj)
       ·obtain⟨cs2,arr2,e2,d1,d2,d3,d4,d5,d6⟩:=hcore.box i b' hb'
        have hne:b'≠blk:=fun h=>hi (hcore.inj i b b' hb' (by rw[h];exact hb))
        refine⟨cs2,arr2,e2,by rw[List.getElem?_set_ne (by omega)];exact d1,by rw[hoth _ hne];exact d2,d3,fun j v' u' hj hu=>(d4 j v' u' hj hu).mono fid hext,d5,d6⟩
      ·obtain⟨bb,n,c,sz',arr2,e2,o1,o2,o3,o4,o5,o6⟩:=hcore.opn id hid
       exact⟨bb,n,c,sz',arr2,e2,o1,by rw[hoth _ (fun h=>o6 b (by rw[h];exact hb))];exact o2,o3,o4,o5,o6⟩
     ·rw[qdr]
      refine⟨rfl,rfl,rfl,by simp[World.setRow],hext.toExtV,fun b' hlt' hbx _=>⟨hoth b' (fun h=>hbx b (by rw[h];exact hb)),rfl⟩,fun _ h=>absurd rfl h,fun id b' hid hb'=> .inr ⟨id,hid,hb'⟩,fun b' c' e' z' h'=>by
       by_cases he:b'=blk
       ·subst he
        rw[b2]at h';simp only[Option.some.injEq,Obj.cells.injEq]at h';obtain⟨rfl,rfl,rfl⟩:=h';exact⟨_,hheap,by rw[List.size_toArray,qcj _ _ _ (by simp;omega)];simp⟩
       ·exact⟨c',by rw[hoth b' he];exact h',rfl⟩⟩
     ·exact qbX (s:={s with B:=_}) (hr.mono fid hext) .und hd
    ·simp at hs1
  ·simp at hv
 |_=>simp[qa4]at h
end
end Go.Proofs.YtbcbkiaineacpaaGreat.VS
namespace Go.Proofs.YtbcbkiaineacpaaGreat.VS
variable {P:Program} {fid:Nat->FuncId} {g:Gh} {w:World}
theorem qhz(w:World)(o:Obj){b:Nat}(h:b<w.heap.size):({w with heap:=w.heap.push o}:World).heap[b]?=w.heap[b]?:=by
 simp[Array.getElem?_push,Nat.ne_of_lt h]
theorem qIn(w:World)(o:Obj):({w with heap:=w.heap.push o}:World).heap[w.heap.size]?=some o:=by simp
theorem qI1{K0:∀b,w.heap.size<=b->g.K b=0}(o:Obj):ExtV g w g {w with heap:=w.heap.push o}:=by
 refine⟨fun _=>Nat.le_refl _,fun ad had=> ?_,fun _ _ h=>h⟩;have hlt:ad.block<w.heap.size:=by
  rcases Nat.lt_or_ge ad.block w.heap.size with h|h
  ·exact h
  ·rw[K0 _ h]at had;omega
 simp only[World.cell?];rw[qhz w o hlt]
theorem qrA{B:qal}{i:Nat}:qcB B i=true↔B[i]?=some none:=by
 unfold qcB;split
 ·rename_i h;rw[h];simp
 ·rename_i h
  constructor
  ·intro h';simp at h'
  ·intro h';exact absurd h' h
theorem Core.lt{B:qal}{A:Ids}(hc:Core fid g w B A){i b:Nat}(h:g.bx i=some b):b<w.heap.size:=by
 obtain⟨cs,arr,e,_,h2,_⟩:=hc.box i b h;exact(Array.getElem?_eq_some_iff.1 h2).1
theorem qIo{B:qal}{A:Ids}(hc:Core fid g w B A){i0:Nat}(hf:qcB B i0=true)(cs:List AV)(arr:Array Value)(e:TypeId)(hsz:arr.size=cs.length)
 (hv:∀(j:Nat) (v:AV) (u:Value),cs[j]?=some v->arr[j]?=some u->AVR fid g w v u) (hcell:∀v,v∈cs->v.isCell=true/\v.safe i0=true) (N:Id->Prop):
 ∃g1,Core fid g1 {w with heap:=w.heap.push (.cells arr e)} (B.set i0 (some cs)) A/\Boxes g w g1/\Step N g w A g1 {w with heap:=w.heap.push (.cells arr e)} A/\
  Ext g w g1 {w with heap:=w.heap.push (.cells arr e)}/\g1.bx i0=some w.heap.size:=by
 have hB:=qrA.1 hf;have hlt:i0<B.length:=(List.getElem?_eq_some_iff.1 hB).1;have hnone:g.bx i0=none:=by
  cases h:g.bx i0 with
  |none=>rfl
  |some b=>
   obtain⟨cs',arr',e',h1,_⟩:=hc.box i0 b h;rw[hB]at h1;simp at h1
 have hE:ExtV g w g {w with heap:=w.heap.push (.cells arr e)}:=qI1 (K0:=hc.K0) _;have hext:Ext g w {g with bx:=fun j=>if j=i0 then some w.heap.size else g.bx j} {w with heap:=w.heap.push (.cells arr e)}:=by
  refine⟨⟨hE.K,hE.cell,hE.row⟩,fun i b h=> ?_⟩;simp only;rw[if_neg (fun he=>by rw[he,hnone]at h;simp at h)];exact h
 refine⟨{g with bx:=fun j=>if j=i0 then some w.heap.size else g.bx j},⟨fun i b h=> ?_,fun i j b h1 h2=> ?_,fun a ha=> ?_,hc.apart,fun b hb=>hc.K0 b (by simp at hb;omega)⟩,⟨hext.bx,fun i b h=> ?_⟩,?_,hext,by simp⟩
 ·simp only at h
  by_cases hi:i=i0
  ·subst hi
   simp at h;subst h
   exact⟨cs,arr,e,by simp[hlt],qIn w _,Nat.le_of_eq hsz.symm,fun j v u h1 h2=>(hv j v u h1 h2).mono fid hext,hcell,hc.K0 _ (Nat.le_refl _)⟩
  ·rw[if_neg hi]at h
   obtain⟨cs',arr',e',h1,h2,h3,h4,h5,h6⟩:=hc.box i b h;exact⟨cs',arr',e',by rw[List.getElem?_set_ne (Ne.symm hi)];exact h1,by rw[qhz w _ (hc.lt h)];exact h2,h3,fun j v u h7 h8=>(h4 j v u h7 h8).mono fid hext,h5,h6⟩
 ·simp only at h1 h2
  by_cases hi:i=i0<;>by_cases hj:j=i0
  ·rw[hi,hj]
  ·rw[if_pos hi]at h1;rw[if_neg hj]at h2
   simp at h1;subst h1
   have:=hc.lt h2;omega
  ·rw[if_neg hi]at h1;rw[if_pos hj]at h2
   simp at h2;subst h2
   have:=hc.lt h1;omega
  ·rw[if_neg hi]at h1;rw[if_neg hj]at h2
   exact hc.inj i j b h1 h2
 ·obtain⟨b,n,c,sz,arr2,e2,o1,o2,o3,o4,o5,o6⟩:=hc.opn a ha
  have hbl:b<w.heap.size:=(Array.getElem?_eq_some_iff.1 o2).1;refine⟨b,n,c,sz,arr2,e2,o1,by rw[qhz w _ hbl];exact o2,o3,o4,o5,fun i h=> ?_⟩;simp only at h;split at h
  ·simp at h;omega
  ·exact o6 i h
 ·simp only at h
  split at h
  ·simp at h;subst h;exact .inr (Nat.le_refl _)
  ·exact .inl h
 ·refine⟨rfl,rfl,rfl,by simp,⟨hE.K,hE.cell,hE.row⟩,fun b hb _ _=>⟨qhz w _ hb,rfl⟩,fun _ h=>absurd rfl h,fun id b hid hb=> .inr ⟨id,hid,hb⟩,fun b c e z h=>⟨c,by rw[qhz w _ (Array.getElem?_eq_some_iff.1 h).1];exact h,rfl⟩⟩
section
variable {p:Id} {call:qaz} {draw:Bool} {L0 i:Nat} {a:Act} {o:Oper} {s s':St}
theorem qo2(hcore:Core fid g w s.B s.A)(hr:qef fid g w s.r a.tmps)(hd:∀d,o.dst=some d->d<a.tmps.size){i0:Nat}(hf:qcB s.B i0=true){cs:List AV}{arr:Array Value}{e:TypeId}(hsz:arr.size=cs.length)
 (hv:∀(j:Nat) (v:AV) (u:Value),cs[j]?=some v->arr[j]?=some u->AVR fid g w v u) (hcell:∀v,v∈cs->v.isCell=true/\v.safe i0=true) (N:Id->Prop) {u:Value} {v:AV}
 (hrun:(execOp a.eval o).run P w= .ok (.value u) {w with heap:=w.heap.push (.cells arr e)})
 (hu:∀(g1:Gh) (w1:World),g1.bx i0=some w.heap.size->AVR fid g1 w1 v u):
 Nonempty (Does P fid N g w a o s ({s with B:=s.B.set i0 (some cs)}.put o.dst v)):=by
 obtain⟨g1,c1,b1,s1,e1,x1⟩:=qIo hcore hf cs arr e hsz hv hcell N;refine⟨⟨_,u,_,g1,hrun,.inl rfl,by rw[qiB,qdr];exact c1,b1,by rw[qdr];exact s1,qbX (s:={s with B:=_}) (hr.mono fid e1) (hu g1 _ x1) hd⟩⟩
theorem qxm(hcore:Core fid g w s.B s.A)(hr:qef fid g w s.r a.tmps)(hd:∀d,o.dst=some d->d<a.tmps.size){k:Nat}{zero:List DV}(h:qa4 P fid o.op (.alloc k zero)=true)
 {gd:Option (Nat×Bool)} {af:List Nat} (hv:qbv call p draw L0 i ⟨o.dst,.alloc k zero,gd,af⟩ s=some s') (N:Id->Prop):Nonempty (Does P fid N g w a o s s'):=by
 obtain⟨dst,op,ty,pos,after,guard⟩:=o;cases op with
 |alloc t=>
  simp only[qa4]at h;unfold qz0 at h;split at h
  ·rename_i z hz
   obtain⟨it,hit,hzero⟩:=yb_.1 hz;simp only[qbv]at hv;split at hv
   ·rename_i hc
    simp at hv;subst hv
    have hcv:=qm6 (g:=g) (w:=w) h;refine qo2 (arr:=z.cells) (e:=t) (u:= .pointer (some ⟨w.heap.size,0,none⟩)) hcore hr hd hc.1 (by simpa using hcv.1) (fun j v u h1 h2=> ?_) (fun v hm=> ?_) N ?_ (fun g1 w1 hb=> .ptr _ _ _ hb)
    ·simp only[List.getElem?_map]at h1
     obtain⟨d,h3,rfl⟩:=ya_.1 h1;exact .d _ _ (hcv.2.2 j d u h3 h2)
    ·simp at hm
     obtain⟨d,h3,rfl⟩:=hm;exact⟨hcv.2.1 d h3,by unfold AV.safe;rfl⟩
    ·simp[execOp,Instr.alloc,zeroValue,typeInfo,hit,hzero,newVar,newRow]
   ·simp at hv
  ·simp at h
 |_=>simp[qa4]at h
theorem qFa(hcore:Core fid g w s.B s.A)(hr:qef fid g w s.r a.tmps)(hd:∀d,o.dst=some d->d<a.tmps.size){zero:List DV}(h:qa4 P fid o.op (.allocE zero)=true)
 {gd:Option (Nat×Bool)} {af:List Nat} (hv:qbv call p draw L0 i ⟨o.dst,.allocE zero,gd,af⟩ s=some s') (N:Id->Prop):Nonempty (Does P fid N g w a o s s'):=by
 have hcore':Core fid g w (s.B++[none]) s.A:=⟨fun i b h=>by
  obtain⟨cs,arr,e,h1,h2⟩:=hcore.box i b h;exact⟨cs,arr,e,by rw[ye_ (List.getElem?_eq_some_iff.1 h1).1];exact h1,h2⟩,hcore.inj,hcore.opn,hcore.apart,hcore.K0⟩
 have hok':qa4 P fid o.op (.alloc 0 zero)=true:=by
  cases hop:o.op with
  |alloc t=>rw[hop]at h;simpa only[qa4]using h
  |_=>rw[hop]at h;simp[qa4]at h
 simp only[qbv]at hv;split at hv
 ·rename_i hc
  simp only[Option.some.injEq]at hv;have hfree:qcB (s.B++[none]) s.B.length=true:=by rw[qrA];simp
  have hset:(s.B++[none]).set s.B.length (some (zero.map AV.d))=s.B++[some (zero.map AV.d)]:=by rw[List.set_append_right _ _ (Nat.le_refl _)];simp
  have h0:=qxm (s:={s with B:=s.B++[none]}) (s':={s with B:=s.B++[some (zero.map AV.d)]}.put o.dst (.ptr s.B.length 0)) (k:=0) (L0:=s.B.length) (call:=call) (p:=p) (draw:=draw) (i:=i) (gd:=gd) (af:=af) hcore' hr hd (zero:=zero) hok' (by
   simp only[qbv,Nat.add_zero];rw[if_pos ⟨hfree,hc.2⟩,hset]) N
  subst hv;obtain⟨n,u,w',g',run,res,core,boxes,step,regs⟩:=h0;exact⟨⟨n,u,w',g',run,res,core,boxes,step,regs⟩⟩
 ·simp at hv
theorem qUV(hcore:Core fid g w s.B s.A)(hr:qef fid g w s.r a.tmps)(hd:∀d,o.dst=some d->d<a.tmps.size){k:Nat}{x:VX}(h:qa4 P fid o.op (.box k x)=true)
 {gd:Option (Nat×Bool)} {af:List Nat} (hv:qbv call p draw L0 i ⟨o.dst,.box k x,gd,af⟩ s=some s') (N:Id->Prop):Nonempty (Does P fid N g w a o s s'):=by
 obtain⟨dst,op,ty,pos,after,guard⟩:=o;cases op with
 |box t y=>
  simp only[qa4]at h;simp only[qbv]at hv;obtain⟨v,hx,hv⟩:=yb_.1 hv;split at hv
  ·rename_i hc
   obtain⟨hf,hall,hsafe⟩:=hc;simp at hv;subst hv
   have hy:=qas (w:=w) hr h hx;generalize hq:a.eval y=q at hy;obtain⟨c1,c2,c3⟩:=qrT hy hall;refine qo2 (arr:=q.cells) (e:=t) (u:= .pointer (some ⟨w.heap.size,0,none⟩)) hcore hr hd hf c1 c2 (fun v' hm=> ?_) N ?_ (fun g1 w1 hb=> .ptr _ _ _ hb)
   ·refine⟨List.all_eq_true.1 hall _ hm,?_⟩
    cases v with
    |d dv=>
     have:∃d',v'= .d d':=by
      cases dv<;>simp[AV.cells]at hm<;>first|exact⟨_,hm⟩|(obtain⟨d',_,rfl⟩:=hm;exact⟨d',rfl⟩)
     obtain⟨d',rfl⟩:=this;unfold AV.safe;rfl
    |ag tp cs=>exact qmA hsafe _ hm
    |_=>simp[AV.cells]at hm;subst hm;exact hsafe
   ·simp[execOp,Instr.box,hq,newVar,newRow]
  ·simp at hv
 |_=>simp[qa4]at h
end
end Go.Proofs.YtbcbkiaineacpaaGreat.VS
namespace Go.Proofs.YtbcbkiaineacpaaGreat.VS
variable {P:Program} {fid:Nat->FuncId} {g:Gh} {w:World}
theorem wrap_i64{n:Int}(h: -9223372036854775808<=n)(h':n<9223372036854775808):IntKind.i64.wrap n=n:=by
 show(if(true&&decide (n%18446744073709551616>=9223372036854775808))=true then n%18446744073709551616-18446744073709551616 else n%18446744073709551616)=n;simp only[Bool.true_and,decide_eq_true_eq];split<;>omega
def flat(xs:List DV):List DV:=xs.flatMap DV.cells
theorem qck{s:Nat}:∀{xs:List DV},(∀x:DV,x∈xs->x.cells.length=s)->(flat xs).length=xs.length*s
 | [],_=>by simp[flat]
 |x::xs,h=>by
  have h1:=h x (by simp);have h2:=qck (xs:=xs) (fun y hy=>h y (by simp[hy]));simp only[flat,List.flatMap_cons,yg_,List.length_cons,Nat.add_mul]at h2⊢
  omega
theorem flat_get{s:Nat}:∀{xs:List DV},(∀x:DV,x∈xs->x.cells.length=s)->∀(i j:Nat) (x:DV),xs[i]?=some x->j<s->(flat xs)[i*s+j]?=x.cells[j]?
 | [],_,i,j,x,h,_=>by simp at h
 |y::ys,hs,i,j,x,h,hj=>by
  have h1:=hs y (by simp);have hc:flat (y::ys)=y.cells++flat ys:=by simp[flat]
  cases i with
  |zero=>
   simp at h;subst h
   rw[hc,ye_ (by omega)];simp
  |succ i=>
   simp at h;have ih:=flat_get (xs:=ys) (fun z hz=>hs z (by simp[hz])) i j x h hj;rw[hc,yd_ (by rw[Nat.add_mul];omega),<-ih]
   congr 1
   rw[Nat.add_mul];omega
theorem qoX{s:Nat}:∀{xs:List DV} (i:Nat) (v:DV),(∀x:DV,x∈xs->x.cells.length=s)->v.cells.length=s->i<xs.length->flat (xs.set i v)=splice (flat xs) (i*s) v.cells
 | [],i,v,_,_,h=>by simp at h
 |y::ys,i,v,hs,hv,h=>by
  have h1:=hs y (by simp);have hc:∀z zs,flat (z::zs)=z.cells++flat zs:=fun z zs=>by simp[flat]
  cases i with
  |zero=>
   simp only[List.set_cons_zero,hc,splice,Nat.zero_mul,List.take_zero,List.nil_append,Nat.zero_add];rw[hv,<-h1,List.drop_left]
  |succ i=>
   simp only[List.set_cons_succ,hc];rw[qoX i v (fun z hz=>hs z (by simp[hz])) hv (by simpa using h)];simp only[splice];have e1:(i+1)*s=y.cells.length+i*s:=by rw[Nat.add_mul];omega
   rw[e1,List.take_append,List.take_of_length_le (l:=y.cells) (by omega),show y.cells.length+i*s-y.cells.length=i*s by omega];rw[List.drop_append,List.drop_eq_nil_of_le (as:=y.cells) (by omega),show y.cells.length+i*s+v.cells.length-y.cells.length=i*s+v.cells.length by omega];simp[yh_]
theorem qjN{B:qal}{A:Ids}(hc:Core fid g w B A){id:Id}(hfresh:g.row id=none)(xs:List DV)(sz c:Nat)(arr:Array Value)(e:TypeId)(w1:World)
 (h1:w1.heap=w.heap.push (.cells arr e)) (ho:w1.os=w.os) (ht:w1.tape=w.tape) (hout:w1.output=w.output)
 (hlen:xs.length<=c) (hem:xs=[]->c=0) (hm:c<=maxLen) (harr:arr.size=c*sz) (hel:∀x:DV,x∈xs->x.cells.length=sz/\∀v:DV,v∈x.cells->v.isCell=true)
 (hv:∀(k:Nat) (v:DV),(flat xs)[k]?=some v->∃u,arr[k]?=some u/\VR g w v u) (N:Id->Prop) (hN:N id):
 ∃g1,Core fid g1 w1 B (Ids.add id A)/\Boxes g w g1/\Step N g w A g1 w1 (Ids.add id A)/\Ext g w g1 w1/\VR g1 w1 (.sl (.own id sz) xs) (.slice (some ⟨w.heap.size,0,none⟩) xs.length c):=by
 have hold:∀b,b<w.heap.size->w1.heap[b]?=w.heap[b]?:=fun b hb=>by rw[h1];simp[Array.getElem?_push,Nat.ne_of_lt hb]
 have hnew:w1.heap[w.heap.size]?=some (.cells arr e):=by rw[h1];simp
 have hfl:=qck (xs:=xs) (fun x hx=>(hel x hx).1);have hext:Ext g w {K:=fun b=>if b=w.heap.size then xs.length*sz else g.K b,row:=fun a=>if a=id then some (w.heap.size,xs.length,c,sz)else g.row a,bx:=g.bx} w1:=by
  refine⟨⟨fun b=> ?_,fun ad had=> ?_,fun a x h=> ?_⟩,fun _ _ h=>h⟩
  ·simp only
   split
   ·rename_i hb;subst hb;rw[hc.K0 _ (Nat.le_refl _)];exact Nat.zero_le _
   ·exact Nat.le_refl _
  ·have hlt:ad.block<w.heap.size:=by
    rcases Nat.lt_or_ge ad.block w.heap.size with h|h
    ·exact h
    ·rw[hc.K0 _ h]at had;omega
   simp only[World.cell?];rw[hold _ hlt]
  ·simp only
   rw[if_neg (fun he=>by rw[he,hfresh]at h;simp at h)];exact h
 have hbig:∀a b x,A a=true->g.row a=some (b,x)->b<w.heap.size:=by
  intro a b x ha hb;obtain⟨b',n,c',sz',arr2,e2,o1,o2,_⟩:=hc.opn a ha;rw[hb]at o1;simp at o1
  rw[o1.1];exact(Array.getElem?_eq_some_iff.1 o2).1
 have hnid:∀a,A a=true->a≠id:=by
  intro a ha he;obtain⟨b',n,c',sz',arr2,e2,o1,_⟩:=hc.opn a ha;rw[he,hfresh]at o1;simp at o1
 refine⟨{K:=fun b=>if b=w.heap.size then xs.length*sz else g.K b,row:=fun a=>if a=id then some (w.heap.size,xs.length,c,sz)else g.row a,bx:=g.bx},⟨fun i b h=> ?_,hc.inj,fun a ha=> ?_,fun a a' b x x' ha ha' hb hb'=> ?_,fun b hb=> ?_⟩,⟨hext.bx,fun i b h=> .inl h⟩,⟨ho,ht,hout,by rw[h1];simp,hext.toExtV,fun b hb _ _=>⟨hold b hb,?_⟩,fun a ha=> ?_,fun a b ha hb=> ?_,fun b c e z h=>⟨c,by rw[hold b (Array.getElem?_eq_some_iff.1 h).1];exact h,rfl⟩⟩,hext,?_⟩
 ·obtain⟨cs',arr',e',b1,b2,b3,b4,b5,b6⟩:=hc.box i b h
  have hlt:=hc.lt h;refine⟨cs',arr',e',b1,by rw[hold _ hlt];exact b2,b3,fun j v u h7 h8=>(b4 j v u h7 h8).mono fid hext,b5,?_⟩;simp only;rw[if_neg (by omega)];exact b6
 ·simp only[Ids.add,Bool.or_eq_true,decide_eq_true_eq]at ha
  rcases ha with rfl|ha
  ·exact⟨w.heap.size,xs.length,c,sz,arr,e,by simp,hnew,Nat.le_of_eq harr.symm,by simp,hlen,fun i h=>by have:=hc.lt h;omega⟩
  ·obtain⟨b,n,c',sz',arr2,e2,o1,o2,o3,o4,o5,o6⟩:=hc.opn a ha
   have hlt:b<w.heap.size:=(Array.getElem?_eq_some_iff.1 o2).1;refine⟨b,n,c',sz',arr2,e2,by simp only;rw[if_neg (hnid a ha)];exact o1,by rw[hold _ hlt];exact o2,o3,?_,o5,o6⟩;simp only;rw[if_neg (by omega)];exact o4
 ·simp only[Ids.add,Bool.or_eq_true,decide_eq_true_eq]at ha ha'
  simp only at hb hb';rcases ha with rfl|ha<;>rcases ha' with rfl|ha'
  ·rfl
  ·rw[if_neg (hnid a' ha')]at hb'
   simp at hb;have:=hbig a' b x' ha' hb';omega
  ·rw[if_neg (hnid a ha)]at hb
   simp at hb';have:=hbig a b x ha hb;omega
  ·rw[if_neg (hnid a ha)]at hb
   rw[if_neg (hnid a' ha')]at hb';exact hc.apart a a' b x x' ha ha' hb hb'
 ·rw[h1]at hb
  simp at hb;simp only;rw[if_neg (by omega)];exact hc.K0 b (by omega)
 ·simp only
  rw[if_neg (by omega)]
 ·simp only at ha
  split at ha
  ·rename_i he;subst he;exact hN
  ·exact absurd rfl ha
 ·simp only[Ids.add,Bool.or_eq_true,decide_eq_true_eq]at ha
  simp only[Gh.blk]at hb;rcases ha with rfl|ha
  ·simp at hb;left;omega
  ·rw[if_neg (hnid a ha)]at hb
   exact .inr ⟨a,ha,hb⟩
 ·refine .row _ xs ⟨w.heap.size,0,none⟩ c sz (fun k=>arr.getD k undef) (by simp) hlen hm (fun k hk=> ?_) (.inr (by simp)) (fun i x hi=>hel x (List.mem_of_getElem? hi)) (fun i x j v hi hj=> ?_) (fun a sz' h=> ?_)
  ·have:(⟨w.heap.size,0,none⟩:Addr).add k=⟨w.heap.size,k,none⟩:=by unfold Addr.add;split<;>simp_all
   rw[this];have hk':k<arr.size:=by rw[harr];exact Nat.lt_of_lt_of_le hk (Nat.mul_le_mul_right _ hlen)
   simp[World.cell?,hnew,hk',yf_]
  ·have hx:=hel x (List.mem_of_getElem? hi)
   have hjs:j<sz:=by have:=(List.getElem?_eq_some_iff.1 hj).1;omega
   have hfg:=flat_get (xs:=xs) (fun x hx=>(hel x hx).1) i j x hi hjs;rw[hj]at hfg;obtain⟨u,hu,hvr⟩:=hv _ _ hfg;rw[yf_,hu];exact hvr.mono hext.toExtV
  ·simp at h
   obtain⟨rfl,rfl⟩:=h;exact⟨rfl,rfl,rfl,by simp,hem⟩
section
variable {p:Id} {call:qaz} {draw:Bool} {L0 i:Nat} {a:Act} {o:Oper} {s s':St}
theorem qh9{r:List (Nat×AV)}{sz:Nat}:∀(ps:List (Nat×Operand)) (ps':List (Nat×VX)) (xs xs':List DV),qyJ fid ps ps'=true->qaX (VX.get r) sz xs ps'=some xs'->
 (∀x:DV,x∈xs->x.cells.length=sz/\∀v:DV,v∈x.cells->v.isCell=true)->
 ∃ps2,qf5 fid (fun i=>some (i*sz,sz)) ps ps2=true/\qaI (VX.get r) (flat xs) ps2=some (flat xs')/\xs'.length=xs.length/\
  (∀x:DV,x∈xs'->x.cells.length=sz/\∀v:DV,v∈x.cells->v.isCell=true)
 | [],[],xs,xs',_,h,hx=>by simp[qaX]at h;subst h;exact⟨[],rfl,rfl,rfl,hx⟩
 |(i,o)::ps,(i',x)::ps',xs,xs',hok,h,hx=>by
  simp only[qyJ,Bool.and_eq_true,beq_iff_eq]at hok;obtain⟨⟨rfl,h1⟩,h2⟩:=hok;simp only[qaX]at h;split at h
  ·rename_i v hv
   split at h
   ·rename_i hc
    obtain⟨hl,hi,hall⟩:=hc;have hall':∀c:DV,c∈v.cells->c.isCell=true:=fun c hm=>List.all_eq_true.1 hall c hm
    have hx2:∀x:DV,x∈xs.set i v->x.cells.length=sz/\∀v:DV,v∈x.cells->v.isCell=true:=by
     intro y hy;rcases List.mem_or_eq_of_mem_set hy with h3|h3
     ·exact hx y h3
     ·subst h3;exact⟨hl,hall'⟩
    obtain⟨ps2,h3,h4,h5,h6⟩:=qh9 ps ps' _ xs' h2 h hx2;refine⟨(i*sz,sz,x)::ps2,by simp[qf5,h1,h3],?_,by simpa using h5,h6⟩;have hfl:=qck (xs:=xs) (fun x hx'=>(hx x hx').1);have hle:i*sz+sz<=(flat xs).length:=by
     rw[hfl];have:=Nat.mul_le_mul_right sz (show i+1<=xs.length by omega);rw[Nat.add_mul]at this;omega
    simp only[qaI,hv];rw[if_pos ⟨hl,by omega,hall⟩,<-qoX i v (fun x hx'=>(hx x hx').1) hl hi];exact h4
   ·simp at h
  ·simp at h
 | [],_::_,_,_,h,_,_=>by simp[qyJ]at h
 |_::_,[],_,_,h,_,_=>by simp[qyJ]at h
theorem qmo{t:TypeId}{v:DV}{it:TypeInfo}{z:Value}(hit:P.info? t=some it)(hz:it.zero=some z)(h:zeroV P t v=true)(hc:v.cells.all DV.isCell=true):qeb g w v.cells z.cells:=by
 unfold zeroV at h;simp[hit,hz]at h;have hvr:=qqF (g:=g) (w:=w) h;obtain⟨h1,h2,h3⟩:=qnP hvr (fun c hm=>List.all_eq_true.1 hc c hm);exact⟨h1,fun c hm=>List.all_eq_true.1 hc c hm,h2⟩
theorem qux{z:DV}{zs:Array Value}{sz:Nat}(hz:qeb g w z.cells zs)(hl:z.cells.length=sz)(n:Nat):
 qeb g w (flat (List.replicate n z)) ((Array.range (n*sz)).map fun j=>zs[j%zs.size]!):=by
 have hs:zs.size=sz:=by rw[hz.1,hl]
 have hfl:(flat (List.replicate n z)).length=n*sz:=by
  rw[qck (s:=sz) (fun x hx=>by rw[List.eq_of_mem_replicate hx];exact hl)];simp
 refine⟨by simp[hfl],fun v hv=> ?_,fun j v u hj hu=> ?_⟩
 ·simp only[flat,List.mem_flatMap]at hv
  obtain⟨x,hx,hv⟩:=hv;rw[List.eq_of_mem_replicate hx]at hv;exact hz.2.1 v hv
 ·have hlt:j<n*sz:=by have:=(List.getElem?_eq_some_iff.1 hj).1;omega
  have hsz:0<sz:=by
   rcases Nat.eq_zero_or_pos sz with h|h
   ·rw[h]at hlt;simp at hlt
   ·exact h
  have hq:j/sz<n:=Nat.div_lt_of_lt_mul (by rw[Nat.mul_comm];exact hlt);have hr:=Nat.mod_lt j hsz;have hfg:=flat_get (xs:=List.replicate n z) (s:=sz) (fun x hx=>by rw[List.eq_of_mem_replicate hx];exact hl) (j/sz) (j%sz) z (by simp[hq]) hr;rw[show j/sz*sz+j%sz=j by rw[Nat.mul_comm];exact Nat.div_add_mod j sz,hj]at hfg;simp[hlt]at hu;have hr':j%sz<zs.size:=by omega
  rw[hs]at hu;simp[hr']at hu;exact hz.2.2 _ _ _ hfg.symm (by rw[<-hu];simp[hr'])
theorem qo3(hcore:Core fid g w s.B s.A)(hr:qef fid g w s.r a.tmps)(hd:∀d,o.dst=some d->d<a.tmps.size){sz n:Nat}{z:DV}{ps':List (Nat×VX)}(h:qa4 P fid o.op (.buildSlice sz z n ps')=true)
 {gd:Option (Nat×Bool)} {af:List Nat} (hv:qbv call p draw L0 i ⟨o.dst,.buildSlice sz z n ps',gd,af⟩ s=some s') (hfr:g.row ((s.c+i)::p)=none):Nonempty (Does P fid (under (s.c+i) p) g w a o s s'):=by
 obtain⟨dst,op,ty,pos,after,guard⟩:=o;cases op with
 |buildSlice t n' ps=>
  simp only[qa4,Bool.and_eq_true,decide_eq_true_eq]at h;obtain⟨rfl,h⟩:=h;split at h
  ·rename_i e he
   simp only[Bool.and_eq_true,decide_eq_true_eq]at h;obtain⟨⟨h1,h2⟩,h3⟩:=h;have hu:=qoz he;obtain⟨it,hit,hsz⟩:=qoy h1;simp only[qbv]at hv;split at hv
   ·rename_i hc
    obtain⟨hzl,hzc,hbig,hbig2⟩:=hc;obtain⟨xs,hxs,rfl⟩:=ya_.1 hv;obtain⟨zv,hzv⟩:∃zv,it.zero=some zv:=by
     unfold zeroV at h2;simp[hit]at h2;cases hq:it.zero with
     |none=>simp[hq]at h2
     |some z=>exact⟨z,rfl⟩
    have hz:=qmo (g:=g) (w:=w) hit hzv h2 hzc;have hzz:=qux hz hzl n';obtain⟨ps2,q1,q2,q3,q4⟩:=qh9 ps.toList ps' _ xs h3 hxs (fun x hx=>by rw[List.eq_of_mem_replicate hx];exact⟨hzl,fun v hv=>List.all_eq_true.1 hzc v hv⟩);obtain⟨arr,f1,f2⟩:=qtY hr _ ps.toList ps2 _ _ _ q1 q2 hzz;have hlen:xs.length=n':=by simpa using q3
    have hfl:=qck (xs:=xs) (fun x hx=>(q4 x hx).1);obtain⟨g1,c1,b1,s1,e1,v1⟩:=qjN hcore hfr xs sz n' arr e {w with heap:=w.heap.push (.cells arr e)} rfl rfl rfl rfl (by omega) (fun h=>by rw[h]at hlen;simpa using hlen.symm)
     (by simp only[maxLen];omega)
     (by rw[f2.1,hfl,hlen]) q4 (fun k v hk=>by
      have hlt:k<arr.size:=by have:=(List.getElem?_eq_some_iff.1 hk).1;rw[f2.1];exact this
      exact⟨arr[k],by simp[hlt],f2.2.2 k v _ hk (by simp[hlt])⟩) (under (s.c+i) p) ⟨[],rfl⟩
    refine⟨⟨_,.slice (some ⟨w.heap.size,0,none⟩) n' n',_,g1,?_,.inl rfl,by rw[qiB,qdr];exact c1,b1,by rw[qdr];exact s1,qbX (s:={s with A:=_}) (hr.mono fid e1) (.d _ _ (by rw[hlen]at v1;exact v1)) hd⟩⟩;have hnb:¬(2^24<n'*sz):=by omega
    have hfill:Instr.fill (fun i=>some (i*sz,sz)) ((Array.range (n'*sz)).map fun j=>zv.cells[j%zv.cells.size]!) (ps.map fun(i,x)=>(i,a.eval x)).toList=some arr:=by
     have e:(ps.map fun(i,x)=>(i,a.eval x)).toList=ps.toList.map fun q=>(q.1,a.eval q.2):=by simp
     rw[e];exact f1
    simp only[execOp,Instr.buildSlice,Sem.run_bind,qkf hu,Result.andThen_ok,qnY h1]
    by_cases h0:n'*sz=0
    ·simp only[h0]at hfill⊢
     simp at hfill;have hr0:∀f:Nat->Value,Array.map f (Array.range 0)= #[]:=fun f=>by simp[Array.range]
     rw[hr0]at hfill;simp[hr0,hfill,newRow]
    ·simp[hnb,h0,zeroValue,typeInfo,hit,hzv]
     simp at hfill;simp[hfill,newRow]
   ·simp at hv
  ·simp at h
 |_=>simp[qa4]at h
theorem qrl(hcore:Core fid g w s.B s.A)(hr:qef fid g w s.r a.tmps)(hd:∀d,o.dst=some d->d<a.tmps.size){k sz bytes:Nat}{z:DV}{x:VX}(h:qa4 P fid o.op (.makeSlice k sz bytes z x)=true)
 {gd:Option (Nat×Bool)} {af:List Nat} (hv:qbv call p draw L0 i ⟨o.dst,.makeSlice k sz bytes z x,gd,af⟩ s=some s') (N:Id->Prop):Nonempty (Does P fid N g w a o s s'):=by
 obtain⟨dst,op,ty,pos,after,guard⟩:=o;cases op with
 |makeSlice t l c=>
  simp only[qa4,Bool.and_eq_true]at h;obtain⟨⟨h1,h2⟩,h⟩:=h;split at h
  ·rename_i e he
   simp only[Bool.and_eq_true,decide_eq_true_eq]at h;obtain⟨⟨h3,h4⟩,h5⟩:=h;have hu:=qoz he;obtain⟨it,hit,hsz⟩:=qoy h3;have hby:it.bytes=bytes:=by
    unfold qxs at h4;simp[hit]at h4;exact h4
   simp only[qbv]at hv;split at hv
   ·rename_i kk n hx
    split at hv
    ·rename_i hc
     obtain⟨hdr,hf,hn0,hnb,hn63,hzl,hzc⟩:=hc;simp at hv;subst hv
     obtain⟨m,rfl⟩:=Int.eq_ofNat_of_zero_le hn0;simp only[Int.toNat_natCast]at hnb⊢
     have e1:=qcC (qas (w:=w) hr h1 hx);have e2:=qcC (qas (w:=w) hr h2 hx);obtain⟨zv,hzv⟩:∃zv,it.zero=some zv:=by
      unfold zeroV at h5;simp[hit]at h5;cases hq:it.zero with
      |none=>simp[hq]at h5
      |some z=>exact⟨z,rfl⟩
     have hz:=qmo (g:=g) (w:=w) hit hzv h5 hzc;have hzz:=qux hz hzl m;refine qo2 (arr:=(Array.range (m*sz)).map fun j=>zv.cells[j%zv.cells.size]!) (e:=e) (u:= .slice (some ⟨w.heap.size,0,none⟩) m m) hcore hr hd hf (by rw[hzz.1];simp[flat]) (fun j v u q1 q2=> ?_) (fun v hm=> ?_) N ?_ (fun g1 w1 hb=> .bsl _ _ _ _ _ _ hb)
     ·simp only[List.getElem?_map]at q1
      obtain⟨d,q3,rfl⟩:=ya_.1 q1;exact .d _ _ (hzz.2.2 j d u q3 q2)
     ·simp only[List.mem_map]at hm
      obtain⟨d,q3,rfl⟩:=hm;exact⟨hzz.2.1 d q3,by unfold AV.safe;rfl⟩
     ·have hwrap:IntKind.i64.wrap (m:Int)=m:=by
       exact wrap_i64 (by omega) hn63
      have hbb:¬((bytes:Int)*(m:Int)>2^48):=by
       have h7:((m*bytes:Nat):Int)<=140737488355328:=Int.ofNat_le.2 hnb;rw[Int.natCast_mul,Int.mul_comm]at h7;omega
      have hc0:¬((m:Int)<0):=by omega
      have hb2:¬(281474976710656<(bytes:Int)*(m:Int)):=by omega
      simp only[execOp,Instr.makeSlice,Sem.run_bind,qkf hu,Result.andThen_ok,e1,e2]
      by_cases h0:m*sz=0
      ·have hr0:∀f:Nat->Value,Array.map f (Array.range 0)= #[]:=fun f=>by simp[Array.range]
       simp[asInt,asIntOf,typeInfo,hit,hby,hwrap,hb2,hc0,sizeOf,hsz,h0,hr0,newRow]
      ·simp[asInt,asIntOf,typeInfo,hit,hby,hwrap,hb2,hc0,sizeOf,hsz,h0,zeroValue,hzv,newRow]
    ·simp at hv
   ·simp at hv
  ·simp at h
 |_=>simp[qa4]at h
end
end Go.Proofs.YtbcbkiaineacpaaGreat.VS
namespace Go.Proofs.YtbcbkiaineacpaaGreat.VS
variable {P:Program} {fid:Nat->FuncId} {g:Gh} {w:World}
theorem Core.sub{B:qal}{A A':Ids}(hc:Core fid g w B A)(h:∀x,A' x=true->A x=true):Core fid g w B A':=
 ⟨hc.box,hc.inj,fun a ha=>hc.opn a (h a ha),fun a a' b x x' ha ha'=>hc.apart a a' b x x' (h a ha) (h a' ha'),hc.K0⟩
theorem Step.sub{N:Id->Prop}{g':Gh}{w':World}{A A' A'':Ids}(hs:Step N g w A g' w' A')(h:∀x,A'' x=true->A' x=true):Step N g w A g' w' A'':=
 {hs with org:=fun a b ha hb=>hs.org a b (h a ha) hb}
theorem quO{xs:List DV}{s:Nat}{U:Nat->Value}(hcs:∀(i:Nat) (x:DV),xs[i]?=some x->x.cells.length=s/\∀v:DV,v∈x.cells->v.isCell=true)
 (hvs:∀(i:Nat) (x:DV) (j:Nat) (v:DV),xs[i]?=some x->x.cells[j]?=some v->VR g w v (U (i*s+j))):
 (flat xs).length=xs.length*s/\∀(k:Nat) (v:DV),(flat xs)[k]?=some v->k<xs.length*s/\v.isCell=true/\VR g w v (U k):=by
 have hall:∀x:DV,x∈xs->x.cells.length=s:=fun x hx=>by
  obtain⟨i,hi⟩:=List.mem_iff_getElem?.1 hx;exact(hcs i x hi).1
 have hl:=qck hall;refine⟨hl,fun k v hk=> ?_⟩;have hlt:k<xs.length*s:=by have:=(List.getElem?_eq_some_iff.1 hk).1;omega
 have hs0:0<s:=by
  rcases Nat.eq_zero_or_pos s with h|h
  ·rw[h]at hlt;simp at hlt
  ·exact h
 have hq:k/s<xs.length:=Nat.div_lt_of_lt_mul (by rw[Nat.mul_comm];exact hlt);have hx:xs[k/s]?=some xs[k/s]:=by simp[hq]
 have hfg:=flat_get hall (k/s) (k%s) _ hx (Nat.mod_lt _ hs0);have e:k/s*s+k%s=k:=by rw[Nat.mul_comm];exact Nat.div_add_mod k s
 rw[e,hk]at hfg;have:=hvs _ _ _ _ hx hfg.symm;rw[e]at this;exact⟨hlt,(hcs _ _ hx).2 v (List.mem_of_getElem? hfg.symm),this⟩
theorem qlA(xs ys:List DV):flat (xs++ys)=flat xs++flat ys:=by simp[flat]
theorem qur(w:World)(t ty e e':TypeId)(i:TypeInfo)(ht:P.underlying t=some (.slice e))(hi:P.info? e=some i)
 (gb sLen sCap:Nat) (cur:Array Value) (hg:w.heap[gb]?=some (.cells cur e' (0,0)))
 (a:Addr) (m c:Nat) (news:List Value) (hl:news.length=m*i.size) (hnews:∀j u,news[j]?=some u->w.cell? (a.add j)=some u) (h1:∀u∈news,u.oneCell'=true)
 (hroom:sLen+m<=sCap) (hfit:sLen*i.size+news.length<=cur.size):
 (Builtin.append_ #[t,t] ty #[.slice (some ⟨gb,0,none⟩) sLen sCap,.slice (some a) m c]).run P w=
  .ok (.slice (some ⟨gb,0,none⟩) (sLen+m) sCap) (w.setRow gb (cur.toList.take (sLen*i.size)++news++cur.toList.drop (sLen*i.size+news.length)).toArray):=by
 have hf:=run_firstCells_some (P:=P) w i.size m a m c news hl hnews;have hst:=run_storeCells_at P gb (sLen*i.size) e' news 0 cur w hg (by simpa using hfit) h1;simp only[Nat.add_zero]at hst;simp[Builtin.append_,run_underlying ht,sizeOf,typeInfo,hi,Builtin.lenOf,hroom,hf,Addr.add_lit,hst]
theorem qus(w:World)(t ty e:TypeId)(i:TypeInfo)(ht:P.underlying t=some (.slice e))(hi:P.info? e=some i)(b:Option Addr)(n c:Nat)(hn:n<=c)(b':Option Addr)(c':Nat):
 (Builtin.append_ #[t,t] ty #[.slice b n c,.slice b' 0 c']).run P w= .ok (.slice b n c) w:=by
 cases b<;>cases b'<;>simp[Builtin.append_,run_underlying ht,sizeOf,typeInfo,hi,Builtin.lenOf,Builtin.firstCells,loadCells,loadCellsFrom,hn,storeCells]
theorem qIM{B:qal}{A:Ids}(hc:Core fid g w B A){a0 id:Id}(hfresh:g.row id=none)(ha:A a0=true){b n c sz m:Nat}{arr:Array Value}{e:TypeId}
 (hrow:g.row a0=some (b,n,c,sz)) (hheap:w.heap[b]?=some (.cells arr e (0,0))) (harr:c*sz<=arr.size) (hK:g.K b=n*sz) (hbx:∀i,g.bx i≠some b)
 (news:List Value) (hnl:news.length=m*sz) (hroom:n+m<=c) (hcm:c<=maxLen) (xs:List DV) (hxl:xs.length=n+m) (hxn:xs≠[])
 (hel:∀x:DV,x∈xs->x.cells.length=sz/\∀v:DV,v∈x.cells->v.isCell=true)
 (hv:∀(k:Nat) (v:DV),(flat xs)[k]?=some v->∃u,(splice arr.toList (n*sz) news)[k]?=some u/\VR g w v u) (N:Id->Prop) (hN:N id):
 ∃g1,Core fid g1 (w.setRow b (splice arr.toList (n*sz) news).toArray) B (Ids.add id (Ids.del a0 A))/\Boxes g w g1/\
  Step N g w A g1 (w.setRow b (splice arr.toList (n*sz) news).toArray) (Ids.add id (Ids.del a0 A))/\Ext g w g1 (w.setRow b (splice arr.toList (n*sz) news).toArray)/\
  VR g1 (w.setRow b (splice arr.toList (n*sz) news).toArray) (.sl (.own id sz) xs) (.slice (some ⟨b,0,none⟩) xs.length c):=by
 have hfit:n*sz+news.length<=arr.toList.length:=by
  rw[hnl];simp only[Array.length_toList,<-Nat.add_mul];exact Nat.le_trans (Nat.mul_le_mul_right _ hroom) harr
 have hb:b<w.heap.size:=(Array.getElem?_eq_some_iff.1 hheap).1;have hnew:=setRow_heap w b arr (splice arr.toList (n*sz) news).toArray e (0,0) hheap;have hoth:∀b',b'≠b->(w.setRow b (splice arr.toList (n*sz) news).toArray).heap[b']?=w.heap[b']?:=fun b' h=>setRow_other w b b' _ h
 have hsize:(w.setRow b (splice arr.toList (n*sz) news).toArray).heap.size=w.heap.size:=by simp[World.setRow]
 have hnid:∀a,A a=true->a≠id:=by
  intro a ha he;obtain⟨b',n',c',sz',arr2,e2,o1,_⟩:=hc.opn a ha;rw[he,hfresh]at o1;simp at o1
 have hblk:∀a b' x,A a=true->a≠a0->g.row a=some (b',x)->b'≠b:=by
  intro a b' x h1 h2 h3 h4;subst h4;exact h2 (hc.apart a a0 b' x (n,c,sz) h1 ha h3 hrow)
 have hext:Ext g w {K:=fun k=>if k=b then(n+m)*sz else g.K k,row:=fun a=>if a=id then some (b,n+m,c,sz)else g.row a,bx:=g.bx} (w.setRow b (splice arr.toList (n*sz) news).toArray):=by
  refine⟨⟨fun k=> ?_,fun ad had=> ?_,fun a x h=> ?_⟩,fun _ _ h=>h⟩
  ·simp only
   split
   ·rename_i h;subst h;rw[hK];exact Nat.mul_le_mul_right _ (Nat.le_add_right _ _)
   ·exact Nat.le_refl _
  ·by_cases hbk:ad.block=b
   ·rw[hbk,hK]at had
    simp only[World.cell?,hbk,hnew,hheap];split
    ·rfl
    ·rw[List.getElem?_toArray,qcE _ _ _ hfit,if_neg (by omega)]
     simp
   ·simp only[World.cell?]
    rw[hoth _ hbk]
  ·simp only
   rw[if_neg (fun he=>by rw[he,hfresh]at h;simp at h)];exact h
 have hA1:∀a,Ids.add id (Ids.del a0 A) a=true->a=id\/(a≠a0/\A a=true):=by
  intro a h;simpa[Ids.add,Ids.del]using h
 refine⟨{K:=fun k=>if k=b then(n+m)*sz else g.K k,row:=fun a=>if a=id then some (b,n+m,c,sz)else g.row a,bx:=g.bx},⟨fun i b' h=> ?_,hc.inj,fun a h=> ?_,fun a a' b' x x' h1 h2 h3 h4=> ?_,fun b' h=> ?_⟩,⟨hext.bx,fun i b h=> .inl h⟩,⟨rfl,rfl,rfl,by rw[hsize];exact Nat.le_refl _,hext.toExtV,fun b' hb' _ h=> ?_,fun a h=> ?_,fun a b' h1 h2=> ?_,fun b' c' e' z' h=>by
  by_cases he:b'=b
  ·subst he
   rw[hheap]at h;simp only[Option.some.injEq,Obj.cells.injEq]at h;obtain⟨rfl,rfl,rfl⟩:=h;exact⟨_,hnew,by rw[List.size_toArray,qcj _ _ _ hfit];simp⟩
  ·exact⟨c',by rw[hoth b' he];exact h,rfl⟩⟩,hext,?_⟩
 ·obtain⟨cs',arr',e',b1,b2,b3,b4,b5,b6⟩:=hc.box i b' h
  have hne:b'≠b:=fun he=>hbx i (by rw[<-he];exact h)
  refine⟨cs',arr',e',b1,by rw[hoth _ hne];exact b2,b3,fun j v u h7 h8=>(b4 j v u h7 h8).mono fid hext,b5,?_⟩;simp only;rw[if_neg hne];exact b6
 ·rcases hA1 a h with rfl|⟨h1,h2⟩
  ·refine⟨b,n+m,c,sz,_,e,by simp,hnew,?_,by simp,hroom,hbx⟩
   rw[List.size_toArray,qcj _ _ _ hfit];simpa using harr
  ·obtain⟨b',n',c',sz',arr2,e2,o1,o2,o3,o4,o5,o6⟩:=hc.opn a h2
   have hne:=hblk a b' _ h2 h1 o1;refine⟨b',n',c',sz',arr2,e2,by simp only;rw[if_neg (hnid a h2)];exact o1,by rw[hoth _ hne];exact o2,o3,?_,o5,o6⟩;simp only;rw[if_neg hne];exact o4
 ·simp only at h3 h4
  rcases hA1 a h1 with rfl|⟨h5,h6⟩<;>rcases hA1 a' h2 with rfl|⟨h7,h8⟩
  ·rfl
  ·rw[if_neg (hnid a' h8)]at h4
   simp at h3;exact absurd h3.1.symm (hblk a' b' _ h8 h7 h4)
  ·rw[if_neg (hnid a h6)]at h3
   simp at h4;exact absurd h4.1.symm (hblk a b' _ h6 h5 h3)
  ·rw[if_neg (hnid a h6)]at h3
   rw[if_neg (hnid a' h8)]at h4;exact hc.apart a a' b' x x' h6 h8 h3 h4
 ·rw[hsize]at h
  simp only;rw[if_neg (by omega)];exact hc.K0 b' h
 ·have hne:b'≠b:=fun he=>h a0 ha (by simp[Gh.blk,hrow,he])
  refine⟨hoth _ hne,?_⟩;simp only;rw[if_neg hne]
 ·simp only at h
  split at h
  ·rename_i he;subst he;exact hN
  ·exact absurd rfl h
 ·simp only[Gh.blk]at h2
  rcases hA1 a h1 with rfl|⟨h5,h6⟩
  ·simp at h2
   exact .inr ⟨a0,ha,by simp[Gh.blk,hrow,h2]⟩
  ·rw[if_neg (hnid a h6)]at h2
   exact .inr ⟨a,h6,h2⟩
 ·refine .row _ xs ⟨b,0,none⟩ c sz (fun k=>(splice arr.toList (n*sz) news).getD k undef) (by simp) (by omega) hcm (fun k hk=> ?_) (.inr (by simp[hxl])) (fun i x hi=>hel x (List.mem_of_getElem? hi)) (fun i x j v hi hj=> ?_) (fun a sz' h=> ?_)
  ·have hadd:(⟨b,0,none⟩:Addr).add k=⟨b,k,none⟩:=by unfold Addr.add;split<;>simp_all
   rw[hadd];have hk':k<(splice arr.toList (n*sz) news).length:=by
    rw[qcj _ _ _ hfit];simp only[Array.length_toList];rw[hxl]at hk;exact Nat.lt_of_lt_of_le hk (Nat.le_trans (Nat.mul_le_mul_right _ hroom) harr)
   simp[World.cell?,hnew,hk',List.getD]
  ·have hx:=hel x (List.mem_of_getElem? hi)
   have hjs:j<sz:=by have:=(List.getElem?_eq_some_iff.1 hj).1;omega
   have hfg:=flat_get (xs:=xs) (fun x hx=>(hel x hx).1) i j x hi hjs;rw[hj]at hfg;obtain⟨u,hu,hvr⟩:=hv _ _ hfg;rw[List.getD,hu];exact hvr.mono hext.toExtV
  ·simp at h
   obtain⟨rfl,rfl⟩:=h;exact⟨rfl,rfl,rfl,by simp[hxl],fun h=>absurd h hxn⟩
end Go.Proofs.YtbcbkiaineacpaaGreat.VS
namespace Go.Proofs.YtbcbkiaineacpaaGreat.VS
variable {P:Program} {fid:Nat->FuncId} {g:Gh} {w:World}
theorem qfA(b k:Nat):(⟨b,0,none⟩:Addr).add k=⟨b,k,none⟩:=by unfold Addr.add;split<;>simp_all
theorem source{ys:List DV}{t:Tag}{q:Value}{sz:Nat}(h:VR g w (.sl t ys) q)(hne:ys≠[])(hall:∀y:DV,y∈ys->y.cells.length=sz):
 ∃(ad:Addr) (c:Nat) (news:List Value),q= .slice (some ad) ys.length c/\news.length=ys.length*sz/\(∀(j:Nat) (u:Value),news[j]?=some u->w.cell? (ad.add j)=some u)/\(∀u:Value,u∈news->u.oneCell'=true)/\
  ∀(k:Nat) (v:DV),(flat ys)[k]?=some v->∃u,news[k]?=some u/\VR g w v u:=by
 cases h with
 |nil=>exact absurd rfl hne
 |row _ _ ad c s U ht hl hm hcell hK hcs hvs hown=>
  obtain⟨y,hy⟩:=List.exists_mem_of_ne_nil ys hne;obtain⟨i,hi⟩:=List.mem_iff_getElem?.1 hy;have hs:s=sz:=by rw[<-(hcs i y hi).1];exact hall y hy
  subst hs;obtain⟨hfl,hfv⟩:=quO hcs hvs;refine⟨ad,c,(List.range (ys.length*s)).map U,rfl,by simp,fun j u hj=> ?_,fun u hu=> ?_,fun k v hk=> ?_⟩
  ·simp only[List.getElem?_map]at hj
   obtain⟨j',h1,rfl⟩:=ya_.1 hj;have h2:=List.getElem?_eq_some_iff.1 h1;obtain⟨h3,h4⟩:=h2;simp at h3 h4;subst h4;exact hcell _ h3
  ·simp only[List.mem_map,List.mem_range]at hu
   obtain⟨k,hk,rfl⟩:=hu;have hk':k<(flat ys).length:=by omega
   obtain⟨_,h2,h3⟩:=hfv k (flat ys)[k] (by simp);exact(qeY h3 h2).1
  ·obtain⟨h1,h2,h3⟩:=hfv k v hk
   exact⟨U k,by simp[h1],h3⟩
section
variable {p:Id} {call:qaz} {draw:Bool} {L0 i:Nat} {a:Act} {o:Oper} {s s':St}
theorem qE9(hcore:Core fid g w s.B s.A)(hr:qef fid g w s.r a.tmps)(hd:∀d,o.dst=some d->d<a.tmps.size){sz bytes:Nat}{x y:VX}(h:qa4 P fid o.op (.append sz bytes x y)=true)
 {gd:Option (Nat×Bool)} {af:List Nat} (hv:qbv call p draw L0 i ⟨o.dst,.append sz bytes x y,gd,af⟩ s=some s') (hfr:g.row ((s.c+i)::p)=none):Nonempty (Does P fid (under (s.c+i) p) g w a o s s'):=by
 obtain⟨dst,op,ty,pos,after,guard⟩:=o;cases op with
 |call cc=>
  obtain⟨callee,args,argTypes⟩:=cc;cases callee with
  |builtin b=>
   cases b with
   |append=>
    simp only[qa4]at h;split at h
    ·rename_i px py t t' ha ht
     simp only[Bool.and_eq_true,decide_eq_true_eq]at h;obtain⟨⟨⟨h1,h2⟩,rfl⟩,h3⟩:=h;have hargs:args= #[px,py]:=by cases args;simp_all
     have htys:argTypes= #[t,t]:=by cases argTypes;simp_all
     subst hargs;subst htys
     split at h3
     ·rename_i e he
      simp only[Bool.and_eq_true,decide_eq_true_eq]at h3;obtain⟨⟨⟨⟨h4,h5⟩,h6⟩,h7⟩,h8⟩:=h3;have hu:=qoz he;obtain⟨it,hit,hsz⟩:=qoy h4;have hby:it.bytes=bytes:=by
       unfold qxs at h5;simp[hit]at h5;exact h5
      obtain⟨z,hz,hzc⟩:∃z,it.zero=some z/\z.cells.size=sz:=by
       simp only[hit,Option.bind_some]at h8;cases hq:it.zero with
       |none=>rw[hq]at h8;simp at h8
       |some z=>rw[hq]at h8;simp at h8;exact⟨z,rfl,h8⟩
      have hexec:∀(v:Value) (w':World),(Builtin.append_ #[t,t] ty #[a.eval px,a.eval py]).run P w= .ok v w'->
       (execOp a.eval ⟨dst,.call ⟨.builtin .append,#[px,py],#[t,t]⟩,ty,pos,after,guard⟩).run P w= .ok (.value v) w':=by
       intro v w' hr';simp[execOp,resolve,invoke,builtin,hr']
      simp only[qbv]at hv;split at hv
      ·rename_i dx dy hx hy
       obtain⟨⟨rv,s1⟩,hap,rfl⟩:=ya_.1 hv;have rx:=qee (qas (w:=w) hr h1 hx);have ry:=qee (qas (w:=w) hr h2 hy);generalize a.eval px=qx at rx hexec;generalize a.eval py=qy at ry hexec;unfold qdV at hap;split at hap
       ·rename_i gx xs gy ys
        split at hap
        ·rename_i hall0
         have hall:∀y:DV,y∈ys->y.cells.length=sz/\∀v:DV,v∈y.cells->v.isCell=true:=by
          intro y hy;have:=List.all_eq_true.1 hall0 y hy;simp at this;exact this
         split at hap
         ·
          rename_i hemp;simp at hemp;subst hemp
          simp at hap;obtain⟨rfl,rfl⟩:=hap;obtain⟨by',cy,hqy⟩:∃by' cy,qy= .slice by' 0 cy:=by cases ry<;>exact⟨_,_,rfl⟩
          obtain⟨bx',cx,hqx,hlc⟩:∃bx' cx,qx= .slice bx' xs.length cx/\xs.length<=cx:=by
           cases rx with
           |nil=>exact⟨_,_,rfl,Nat.le_refl _⟩
           |row _ _ ad c s U ht' hl=>exact⟨_,_,rfl,hl⟩
          have hrun:=hexec _ _ (by rw[hqx,hqy];exact qus w t ty e it hu hit bx' xs.length cx hlc by' cy);rw[<-hqx]at hrun;exact⟨Does.still qx hcore hr hd hrun (.d _ _ rx)⟩
         ·rename_i hne0
          have hne:ys≠[]:=by simpa using hne0
          have hypos:0<ys.length:=List.length_pos_iff.2 hne;split at hap
          ·rename_i hbytes
           obtain⟨ad,cy,news,rfl,hnl,hncell,hn1,hnv⟩:=source ry hne (fun y hy=>(hall y hy).1);have hfly:=qck (xs:=ys) (fun y hy=>(hall y hy).1);have hlim:xs.length+ys.length<=140737488355328:=Nat.le_trans (Nat.le_mul_of_pos_right _ h7) hbytes;have hylim:ys.length<=140737488355328:=by omega
           split at hap
           ·
            simp at hap;obtain⟨rfl,rfl⟩:=hap;cases rx with
            |row _ _ _ _ _ _ ht'=>exact absurd rfl ht'
            |nil=>
             have hbytes':ys.length*it.bytes<=140737488355328:=by simpa[hby]using hbytes
             have hrun:=hexec _ _ (run_append_nil (P:=P) w t ty e it z hu hit hz ad ys.length cy news (by rw[hsz];exact hnl) hncell hypos (by omega) (by omega));have hge:=grownCap_ge w ys.length 0 e;have hle:=grownCap_le_maxLen w ys.length 0 e (by simp only[maxLen];omega);obtain⟨g1,c1,b1,s1,e1,v1⟩:=qjN hcore hfr ys sz (grownCap w ys.length 0 e) (news.toArray++Builtin.zeroCells z.cells (grownCap w ys.length 0 e-ys.length)) e
              (w.drew.alloc (.cells (news.toArray++Builtin.zeroCells z.cells (grownCap w ys.length 0 e-ys.length)) e)) rfl rfl rfl rfl hge (fun h=>absurd h hne) hle
              (by simp only[Array.size_append,List.size_toArray,size_zeroCells,hzc,hnl,<-Nat.add_mul];congr 1;omega) hall
              (fun k v hk=>by
               obtain⟨u,h9,h10⟩:=hnv k v hk;have hlt:k<news.length:=(List.getElem?_eq_some_iff.1 h9).1;exact⟨u,by rw[Array.getElem?_append_left (by simpa using hlt)];simpa using h9,h10⟩) (under (s.c+i) p) ⟨[],rfl⟩
             refine⟨⟨_,.slice (some ⟨w.heap.size,0,none⟩) ys.length (grownCap w ys.length 0 e),_,g1,hrun,.inl rfl,by rw[qiB,qdr];exact c1,b1,by rw[qdr];exact s1,qbX (s:={s with A:=_}) (hr.mono fid e1) (.d _ _ v1) hd⟩⟩
           ·
            rename_i a0 sz';split at hap
            ·
             rename_i hxe;have hxe':xs=[]:=by simpa using hxe
             subst hxe';simp at hap;obtain⟨rfl,rfl⟩:=hap;cases rx with
             |row _ _ adx c sx U ht' hl hm hcell hK hcs hvs hown=>
              obtain⟨o1,o2,rfl,o4,o5⟩:=hown a0 _ rfl;have hc0:c=0:=o5 rfl;subst hc0;have hbytes':(([]:List DV).length+ys.length)*it.bytes<=140737488355328:=by rw[hby];exact hbytes
              have hrun:=hexec _ _ (run_append_grow (P:=P) w t ty e it z hu hit hz adx ([]:List DV).length 0 [] (by simp) (by simp) ad ys.length cy news (by rw[hsz];exact hnl) hncell (by omega) (by simp;omega) (growslice_fits (by simp;omega) hbytes'));have hge:=grownCap_ge w (([]:List DV).length+ys.length) 0 e;have hle:=grownCap_le_maxLen w (([]:List DV).length+ys.length) 0 e (by simp only[maxLen,List.length_nil];omega);simp only[List.length_nil,Nat.zero_add]at hrun hge hle;obtain⟨g1,c1,b1,s1,e1,v1⟩:=qjN hcore hfr ys sz (grownCap w ys.length 0 e)
               (([]:List Value).toArray++news.toArray++Builtin.zeroCells z.cells (grownCap w ys.length 0 e-ys.length)) e
               (w.drew.alloc (.cells (([]:List Value).toArray++news.toArray++Builtin.zeroCells z.cells (grownCap w ys.length 0 e-ys.length)) e)) rfl rfl rfl rfl hge (fun h=>absurd h hne) hle
               (by simp only[Array.size_append,List.size_toArray,size_zeroCells,hzc,hnl,List.length_nil,Nat.zero_add,<-Nat.add_mul];congr 1;omega) hall
               (fun k v hk=>by
                obtain⟨u,h9,h10⟩:=hnv k v hk;have hlt:k<news.length:=(List.getElem?_eq_some_iff.1 h9).1;exact⟨u,by rw[show([]:List Value).toArray= #[]from rfl,Array.empty_append,Array.getElem?_append_left (by simpa using hlt)];simpa using h9,h10⟩) (under (s.c+i) p) ⟨[],rfl⟩
              refine⟨⟨_,.slice (some ⟨w.heap.size,0,none⟩) ys.length (grownCap w ys.length 0 e),_,g1,hrun,.inl rfl,by rw[qiB,qdr];exact c1,b1,by rw[qdr];exact s1,qbX (s:={s with A:=_}) (hr.mono fid e1) (.d _ _ v1) hd⟩⟩
            split at hap
            ·rename_i hown0
             obtain⟨rfl,ha0⟩:=hown0;simp at hap;obtain⟨rfl,rfl⟩:=hap;cases rx with
             |row _ _ adx c sx U ht' hl hm hcell hK hcs hvs hown=>
              obtain⟨o1,o2,rfl,o4,_⟩:=hown a0 _ rfl;obtain⟨bb,n,c',sz2,arr,e',p1,p2,p3,p4,p5,p6⟩:=hcore.opn a0 ha0;rw[o4]at p1;simp at p1;obtain⟨rfl,rfl,rfl,rfl⟩:=p1;obtain⟨hflx,hfvx⟩:=quO hcs hvs;have hadx:adx=⟨adx.block,0,none⟩:=by cases adx;simp_all
              have hcellx:∀k,k<xs.length*sx->arr[k]?=some (U k):=by
               intro k hk;have h9:=hcell k hk;rw[hadx]at h9;have:=qfA adx.block k;rw[this]at h9;simpa[World.cell?,p2]using h9
              have hxl:(xs++ys).length=xs.length+ys.length:=by simp
              have hel:∀x:DV,x∈xs++ys->x.cells.length=sx/\∀v:DV,v∈x.cells->v.isCell=true:=by
               intro x hx;rcases List.mem_append.1 hx with h9|h9
               ·obtain⟨j,hj⟩:=List.mem_iff_getElem?.1 h9
                exact hcs j x hj
               ·exact hall x h9
              by_cases hroom:xs.length+ys.length<=c
              ·have hfit:xs.length*it.size+news.length<=arr.size:=by
                rw[hsz,hnl,<-Nat.add_mul];exact Nat.le_trans (Nat.mul_le_mul_right _ hroom) p3
               have hrun:=hexec _ _ (by rw[hadx];exact qur w t ty e e' it hu hit adx.block xs.length c arr p2 ad ys.length cy news (by rw[hsz];exact hnl) hncell hn1 hroom hfit);have hsp:(arr.toList.take (xs.length*it.size)++news++arr.toList.drop (xs.length*it.size+news.length))=splice arr.toList (xs.length*sx) news:=by rw[hsz];rfl
               rw[hsp]at hrun;obtain⟨g1,c1,b1,s1,e1,v1⟩:=qIM hcore hfr ha0 o4 p2 p3 p4 p6 news hnl hroom hm (xs++ys) hxl (fun h=>absurd (List.append_eq_nil_iff.1 h).2 hne) hel (fun k v hk=>by
                rw[qlA]at hk;have hfit':xs.length*sx+news.length<=arr.toList.length:=by rw[<-hsz];exact hfit
                rw[qcE _ _ _ hfit']
                by_cases hkx:k<xs.length*sx
                ·rw[ye_ (by omega)]at hk
                 rw[if_neg (by omega)];exact⟨U k,by simpa using hcellx k hkx,(hfvx k v hk).2.2⟩
                ·rw[yd_ (by omega),hflx]at hk
                 obtain⟨u,h9,h10⟩:=hnv _ v hk;have hlt:k-xs.length*sx<news.length:=(List.getElem?_eq_some_iff.1 h9).1;rw[if_pos (by omega)];exact⟨u,h9,h10⟩) (under (s.c+i) p) ⟨[],rfl⟩
               rw[hxl]at v1;refine⟨⟨_,.slice (some ⟨adx.block,0,none⟩) (xs.length+ys.length) c,_,g1,hrun,.inl rfl,by rw[qiB,qdr];exact c1,b1,by rw[qdr];exact s1,qbX (s:={s with A:=_}) (hr.mono fid e1) (.d _ _ v1) hd⟩⟩
              ·have holds:∀(j:Nat) (v:Value),((List.range (xs.length*sx)).map U)[j]?=some v->w.cell? (adx.add j)=some v:=by
                intro j v hj;simp only[List.getElem?_map]at hj;obtain⟨j',h1,rfl⟩:=ya_.1 hj;obtain⟨h3,h4⟩:=List.getElem?_eq_some_iff.1 h1;simp at h3 h4;subst h4;exact hcell _ h3
               have hbytes':(xs.length+ys.length)*it.bytes<=140737488355328:=by rw[hby];exact hbytes
               have hrun:=hexec _ _ (run_append_grow (P:=P) w t ty e it z hu hit hz adx xs.length c ((List.range (xs.length*sx)).map U) (by simp[hsz]) holds ad ys.length cy news (by rw[hsz];exact hnl) hncell (by omega) (by omega) (growslice_fits (by omega) hbytes'));have hge:=grownCap_ge w (xs.length+ys.length) c e;have hle:=grownCap_le_maxLen w (xs.length+ys.length) c e (by simp only[maxLen];omega);obtain⟨g1,c1,b1,s1,e1,v1⟩:=qjN hcore hfr (xs++ys) sx (grownCap w (xs.length+ys.length) c e)
                (((List.range (xs.length*sx)).map U).toArray++news.toArray++Builtin.zeroCells z.cells (grownCap w (xs.length+ys.length) c e-(xs.length+ys.length))) e
                (w.drew.alloc (.cells (((List.range (xs.length*sx)).map U).toArray++news.toArray++Builtin.zeroCells z.cells (grownCap w (xs.length+ys.length) c e-(xs.length+ys.length))) e)) rfl rfl rfl rfl (by rw[hxl];exact hge) (fun h=>absurd (List.append_eq_nil_iff.1 h).2 hne) hle
                (by simp only[Array.size_append,List.size_toArray,List.length_map,List.length_range,size_zeroCells,hzc,hnl,<-Nat.add_mul];congr 1;omega) hel
                (fun k v hk=>by
                 rw[qlA]at hk
                 by_cases hkx:k<xs.length*sx
                 ·rw[ye_ (by omega)]at hk
                  refine⟨U k,?_,(hfvx k v hk).2.2⟩;rw[Array.append_assoc,Array.getElem?_append_left (by simp[hkx])];simp[hkx]
                 ·rw[yd_ (by omega),hflx]at hk
                  obtain⟨u,h9,h10⟩:=hnv _ v hk;have hlt:k-xs.length*sx<news.length:=(List.getElem?_eq_some_iff.1 h9).1;refine⟨u,?_,h10⟩;rw[Array.append_assoc,Array.getElem?_append_right (by simp;omega),Array.getElem?_append_left (by simp;omega)];simpa using h9) (under (s.c+i) p) ⟨[],rfl⟩
               rw[hxl]at v1;have hsub:∀x,Ids.add ((s.c+i)::p) (Ids.del a0 s.A) x=true->Ids.add ((s.c+i)::p) s.A x=true:=by
                intro x hx;simp[Ids.add,Ids.del]at hx⊢
                rcases hx with h|h
                ·exact .inl h
                ·exact .inr h.2
               refine⟨⟨_,.slice (some ⟨w.heap.size,0,none⟩) (xs.length+ys.length) (grownCap w (xs.length+ys.length) c e),_,g1,hrun,.inl rfl,by rw[qiB,qdr];exact c1.sub hsub,b1,by rw[qdr];exact s1.sub hsub,qbX (s:={s with A:=_}) (hr.mono fid e1) (.d _ _ v1) hd⟩⟩
            ·simp at hap
           ·simp at hap
          ·simp at hap
        ·simp at hap
       ·simp at hap
      ·simp at hv
     ·simp at h3
    ·simp at h
   |_=>simp[qa4]at h
  |_=>simp[qa4]at h
 |_=>simp[qa4]at h
end
end Go.Proofs.YtbcbkiaineacpaaGreat.VS
namespace Go.Proofs.YtbcbkiaineacpaaGreat.VS
variable {P:Program} {fid:Nat->FuncId} {g:Gh} {w:World}
def from_(p:Id)(k:Nat)(a:Id):Prop:=∃q j,k<=j/\a=q++j::p
def qiX(g:Gh)(p:Id)(k:Nat):Prop:=∀q j,k<=j->g.row (q++j::p)=none
def quv(P:Program)(f:FuncId):Prop:=∃fn,P.funcs[f]?=some fn/\(fn.name== "runtime.NumGoroutine")=false/\fn.body.isNone=false
structure Post(fid:Nat->FuncId)(N:Id->Prop)(g:Gh)(w:World)(A:Ids)(r:Res)(u:Value)(g':Gh)(w':World):Prop where
 val:AVR fid g' w' r.v u
 core:Core fid g' w' r.B r.A
 boxes:Boxes g w g'
 step:Step N g w A g' w' r.A
def qgh(P:Program)(fid:Nat->FuncId)(call:qaz):Prop:=
 ∀p f args B A r,call p f args B A=some r->quv P (fid f)/\∀g w (us:Array Value),us.size=args.length->(∀(j:Nat) (v:AV) (u:Value),args[j]?=some v->us[j]?=some u->AVR fid g w v u)->
  Core fid g w B A->qiX g p 0->Calls P (fid f) us w fun e w'=>∃u g',e= .returned u/\Post fid (from_ p 0) g w A r u g' w'
def Gh.cutB(m:Nat)(g:Gh):Gh:={g with bx:=fun i=>if i<m then g.bx i else none}
mutual
theorem qkd{m n:Nat}(h:m<=n):∀(v:AV),v.safe m=true->v.safe n=true
 | .d _,_=>by unfold AV.safe;rfl
 | .ep _,_=>by unfold AV.safe;rfl
 | .nilp,_=>by unfold AV.safe;rfl
 | .und,_=>by unfold AV.safe;rfl
 | .ptr i _,hs=>by unfold AV.safe at hs⊢;simp at hs⊢;omega
 | .bsl _ _ i _ _,hs=>by unfold AV.safe at hs⊢;simp at hs⊢;omega
 | .tsl _ i _ _,hs=>by unfold AV.safe at hs⊢;simp at hs⊢;omega
 | .fn _ cap,hs=>by
  unfold AV.safe at hs⊢
  exact qiy h cap hs
 | .ag _ cap,hs=>by
  unfold AV.safe at hs⊢
  exact qiy h cap hs
theorem qiy{m n:Nat}(h:m<=n):∀(l:List AV),AV.safe.safes m l=true->AV.safe.safes n l=true
 | [],_=>by unfold AV.safe.safes;rfl
 |a::r,hs=>by
  unfold AV.safe.safes at hs⊢
  simp only[Bool.and_eq_true]at hs⊢
  exact⟨qkd h a hs.1,qiy h r hs.2⟩
end
theorem qjL{m:Nat}:∀{l:List AV},AV.safe.safes m l=true->∀v:AV,v∈l->v.safe m=true
 | [],_,v,h=>by simp at h
 |a::r,hs,v,h=>by
  unfold AV.safe.safes at hs;simp only[Bool.and_eq_true]at hs;rcases List.mem_cons.1 h with rfl|h
  ·exact hs.1
  ·exact qjL hs.2 v h
theorem AVR.cutB{m:Nat}{v:AV}{u:Value}(h:AVR fid g w v u)(hs:v.safe m=true):AVR fid (g.cutB m) w v u:=by
 have hE:ExtV g w (g.cutB m) w:=⟨fun _=>Nat.le_refl _,fun _ _=>rfl,fun _ _ h=>h⟩
 induction h with
 |d v u h=>exact .d v u (h.mono hE)
 |ptr i off b h=>unfold AV.safe at hs;simp at hs;exact .ptr i off b (by simp[Gh.cutB,hs,h])
 |ep cs ad U hs' hK h=>exact .ep cs ad U hs' hK fun j v hj=>⟨(h j v hj).1,(h j v hj).2.1,(h j v hj).2.2.mono hE⟩
 |nilp=>exact .nilp
 |fn f cap us hsz _ ih=>
  unfold AV.safe at hs;exact .fn f cap us hsz fun j v u h1 h2=>ih j v u h1 h2 (qjL hs v (List.mem_of_getElem? h1))
 |bsl id ag i sz n b h=>unfold AV.safe at hs;simp at hs;exact .bsl id ag i sz n b (by simp[Gh.cutB,hs,h])
 |tsl ag i sz n c b h h1 h2=>unfold AV.safe at hs;simp at hs;exact .tsl ag i sz n c b (by simp[Gh.cutB,hs,h]) h1 h2
 |ag cap us hsz _ ih=>
  unfold AV.safe at hs;exact .ag cap us hsz fun j v u h1 h2=>ih j v u h1 h2 (qjL hs v (List.mem_of_getElem? h1))
 |tp cap us hsz _ ih=>
  unfold AV.safe at hs;exact .tp cap us hsz fun j v u h1 h2=>ih j v u h1 h2 (qjL hs v (List.mem_of_getElem? h1))
 |und=>exact .und
theorem qct{m i b:Nat}(h:(g.cutB m).bx i=some b):i<m/\g.bx i=some b:=by
 simp only[Gh.cutB]at h;split at h
 ·exact⟨by assumption,h⟩
 ·simp at h
theorem Core.cutB{B:qal}{A:Ids}(hc:Core fid g w B A)(m:Nat):Core fid (g.cutB m) w (B.take m) A:=by
 refine⟨fun i b h=> ?_,fun i j b h1 h2=>hc.inj i j b (qct h1).2 (qct h2).2,fun a ha=> ?_,hc.apart,hc.K0⟩
 ·obtain⟨hi,h⟩:=qct h
  obtain⟨cs,arr,e,h1,h2,h3,h4,h5,h6⟩:=hc.box i b h;exact⟨cs,arr,e,by rw[List.getElem?_take,if_pos hi];exact h1,h2,h3,fun j v u h7 h8=>(h4 j v u h7 h8).cutB (qkd (Nat.le_of_lt hi) v (h5 v (List.mem_of_getElem? h7)).2),h5,h6⟩
 ·obtain⟨b,n,c,sz,arr,e,o1,o2,o3,o4,o5,o6⟩:=hc.opn a ha
  exact⟨b,n,c,sz,arr,e,o1,o2,o3,o4,o5,fun i h=>o6 i (qct h).2⟩
theorem Core.more{B B':qal}{A:Ids}(hc:Core fid g w B A)(h:∀(i:Nat) (cs:List AV),B[i]?=some (some cs)->B'[i]?=some (some cs)):Core fid g w B' A:=
 ⟨fun i b hb=>by
  obtain⟨cs,arr,e,h1,h2⟩:=hc.box i b hb;exact⟨cs,arr,e,h i cs h1,h2⟩,hc.inj,hc.opn,hc.apart,hc.K0⟩
theorem qw8{B:qal}{A:Ids}(hc:Core fid g w B A){N:Id->Prop}{r:Res}{u:Value}{g':Gh}{w':World}{v:DV}(hv:r.v= .d v)
 (hp:Post fid N (g.cutB 0) w Ids.none r u g' w'):
 ∃g2,Core fid g2 w' B (Ids.or r.A A)/\Boxes g w g2/\Step N g w A g2 w' (Ids.or r.A A)/\Ext g w g2 w'/\AVR fid g2 w' (.d v) u:=by
 have hst:=hp.step;have hkeep:∀b,b<w.heap.size->w'.heap[b]?=w.heap[b]?/\g'.K b=g.K b:=fun b hb=>hst.keep b hb (fun i h=>by have:=(qct h).1;omega) (fun a ha=>by simp[Ids.none]at ha)
 have hE:ExtV g w {K:=g'.K,row:=g'.row,bx:=g.bx} w':=⟨hst.ext.K,hst.ext.cell,hst.ext.row⟩;have hext:Ext g w {K:=g'.K,row:=g'.row,bx:=g.bx} w':=⟨hE,fun _ _ h=>h⟩;have hnew:∀a b,r.A a=true->g'.blk a=some b->w.heap.size<=b:=fun a b ha hb=>by
  rcases hst.org a b ha hb with h|⟨a0,h,_⟩
  ·exact h
  ·simp[Ids.none]at h
 have hold:∀a,A a=true->∃b x,g.row a=some (b,x)/\g'.row a=some (b,x)/\b<w.heap.size:=fun a ha=>by
  obtain⟨b,n,c,sz,arr,e,o1,o2,_⟩:=hc.opn a ha;exact⟨b,_,o1,hst.ext.row a _ o1,(Array.getElem?_eq_some_iff.1 o2).1⟩
 refine⟨{K:=g'.K,row:=g'.row,bx:=g.bx},⟨fun i b h=> ?_,hc.inj,fun a ha=> ?_,fun a a' b x x' ha ha' hb hb'=> ?_,hp.core.K0⟩,⟨fun _ _ h=>h,fun _ _ h=> .inl h⟩,⟨hst.os,hst.tape,hst.output,hst.size,hE,fun b hb _ _=>hkeep b hb,hst.new,fun a b ha hb=> ?_,hst.arr⟩,hext,?_⟩
 ·obtain⟨cs,arr,e,h1,h2,h3,h4,h5,h6⟩:=hc.box i b h
  have hk:=hkeep b (hc.lt h);exact⟨cs,arr,e,h1,by rw[hk.1];exact h2,h3,fun j v u h7 h8=>(h4 j v u h7 h8).mono fid hext,h5,by rw[<-h6];exact hk.2⟩
 ·simp only[Ids.or,Bool.or_eq_true]at ha
  rcases ha with ha|ha
  ·obtain⟨b,n,c,sz,arr,e,o1,o2,o3,o4,o5,o6⟩:=hp.core.opn a ha
   refine⟨b,n,c,sz,arr,e,o1,o2,o3,o4,o5,fun i h=> ?_⟩;have:=hc.lt h;have:=hnew a b ha (by simp[Gh.blk,o1]);omega
  ·obtain⟨b,n,c,sz,arr,e,o1,o2,o3,o4,o5,o6⟩:=hc.opn a ha
   have hk:=hkeep b (Array.getElem?_eq_some_iff.1 o2).1;exact⟨b,n,c,sz,arr,e,hst.ext.row a _ o1,by rw[hk.1];exact o2,o3,by rw[<-o4];exact hk.2,o5,o6⟩
 ·simp only[Ids.or,Bool.or_eq_true]at ha ha'
  simp only at hb hb';rcases ha with ha|ha<;>rcases ha' with ha'|ha'
  ·exact hp.core.apart a a' b x x' ha ha' hb hb'
  ·obtain⟨b2,x2,h1,h2,h3⟩:=hold a' ha'
   rw[hb']at h2;simp at h2;have:=hnew a b ha (by simp[Gh.blk,hb]);omega
  ·obtain⟨b2,x2,h1,h2,h3⟩:=hold a ha
   rw[hb]at h2;simp at h2;have:=hnew a' b ha' (by simp[Gh.blk,hb']);omega
  ·obtain⟨b2,x2,h1,h2,h3⟩:=hold a ha
   obtain⟨b3,x3,h4,h5,h6⟩:=hold a' ha';rw[hb]at h2;rw[hb']at h5
   simp only[Option.some.injEq,Prod.mk.injEq]at h2 h5;refine hc.apart a a' b x2 x3 ha ha' (by rw[h1,h2.1]) (by rw[h4,h5.1])
 ·simp only[Ids.or,Bool.or_eq_true]at ha
  rcases ha with ha|ha
  ·exact .inl (hnew a b ha hb)
  ·obtain⟨b2,x2,h1,h2,h3⟩:=hold a ha
   simp only[Gh.blk,h2]at hb;exact .inr ⟨a,ha,by simpa[Gh.blk,h1]using hb⟩
 ·have:=hp.val
  rw[hv]at this;cases this with
  |d _ _ h=>
   have e:ExtV g' w' {K:=g'.K,row:=g'.row,bx:=g.bx} w':=⟨fun _=>Nat.le_refl _,fun _ _=>rfl,fun _ _ h=>h⟩;exact .d _ _ (h.mono e)
end Go.Proofs.YtbcbkiaineacpaaGreat.VS
namespace Go.Proofs.YtbcbkiaineacpaaGreat.VS
variable {P:Program} {fid:Nat->FuncId}
noncomputable def Gh.lend(g:Gh)(w:World):Gh:=
 {K:=fun b=>open Classical in if∃i,g.bx i=some b then(match w.heap[b]? with|some (.cells arr _ _)=>arr.size|_=>0)else g.K b,row:=g.row,bx:=fun _=>none}
theorem qLQ{g:Gh}{w:World}{B:qal}{A:Ids}(hc:Core fid g w B A)(b:Nat):g.K b<=(g.lend w).K b:=by
 simp only[Gh.lend];split
 ·rename_i h
  obtain⟨i,hi⟩:=h;obtain⟨cs,arr,e,h1,h2,h3,h4,h5,h6⟩:=hc.box i b hi;omega
 ·exact Nat.le_refl _
theorem qIy{g:Gh}{w:World}{i b:Nat}(hi:g.bx i=some b){arr:Array Value}{e:TypeId}{z:Nat×Nat}(hb:w.heap[b]?=some (.cells arr e z)):(g.lend w).K b=arr.size:=by
 simp only[Gh.lend];rw[if_pos ⟨i,hi⟩,hb]
theorem qEg{g:Gh}{w:World}{B:qal}{A:Ids}(hc:Core fid g w B A):Core fid (g.lend w) w [] Ids.none:=by
 refine⟨fun i b h=>by simp[Gh.lend]at h,fun i j b h=>by simp[Gh.lend]at h,fun a h=>by simp[Ids.none]at h,fun a a' b x x' h=>by simp[Ids.none]at h,fun b hb=> ?_⟩;simp only[Gh.lend];rw[if_neg (fun⟨i,hi⟩=>by have:=hc.lt hi;omega)];exact hc.K0 b hb
theorem qjS{f:AV->Option DV}:∀{cs:List AV} {ds:List DV},qiK f cs=some ds->ds.length=cs.length/\∀(j:Nat) (d:DV),ds[j]?=some d->∃v,cs[j]?=some v/\f v=some d
 | [],ds,h=>by simp[qiK]at h;subst h;exact⟨rfl,fun j d h=>by simp at h⟩
 |v::r,ds,h=>by
  simp only[qiK]at h;obtain⟨d,h1,h2⟩:=yb_.1 h;obtain⟨ds',h3,rfl⟩:=ya_.1 h2;obtain⟨h4,h5⟩:=qjS h3;refine⟨by simp[h4],fun j d' hj=> ?_⟩;cases j with
  |zero=>simp at hj;subst hj;exact⟨v,rfl,h1⟩
  |succ j=>simp at hj;exact h5 j d' hj
theorem qtV{B:qal}:∀{n:Nat} {v:AV} {d:DV},v.frzC B n=some d->v.isCell=true->d.isCell=true
 |0,.d _,d,h,hc=>by simp only[AV.frzC,Option.some.injEq]at h;subst h;exact hc
 |n+1,.d _,d,h,hc=>by simp only[AV.frzC,Option.some.injEq]at h;subst h;exact hc
 |n+1,.tsl _ _ _ _,d,h,hc=>by
  simp only[AV.frzC]at h;obtain⟨cs,h1,h2⟩:=yb_.1 h;obtain⟨ds,h3,h4⟩:=yb_.1 h2;split at h4
  ·obtain⟨xs,_,rfl⟩:=ya_.1 h4;rfl
  ·simp at h4
 |0,.tsl _ _ _ _,d,h,_=>by simp[AV.frzC]at h
 |n,.ptr _ _,d,h,_=>by cases n<;>simp[AV.frzC]at h
 |n,.ep _,d,h,_=>by cases n<;>simp[AV.frzC]at h
 |n,.nilp,d,h,_=>by cases n<;>simp[AV.frzC]at h
 |n,.fn _ _,d,h,_=>by cases n<;>simp[AV.frzC]at h
 |n,.bsl _ _ _ _ _,d,h,_=>by cases n<;>simp[AV.frzC]at h
 |n,.ag _ _,d,h,_=>by cases n<;>simp[AV.frzC]at h
 |n,.und,d,h,_=>by cases n<;>simp[AV.frzC]at h
theorem qh7{agg:Bool}{sz:Nat}:∀{n:Nat} {cs xs:List DV},(∀v:DV,v∈cs->v.isCell=true)->chunks agg sz n cs=some xs->xs.length=n/\
 ∀(i:Nat) (x:DV),xs[i]?=some x->x.cells.length=sz/\(∀v:DV,v∈x.cells->v.isCell=true)/\∀(j:Nat) (v:DV),x.cells[j]?=some v->cs[i*sz+j]?=some v
 |0,cs,xs,_,h=>by
  simp[chunks]at h;subst h
  exact⟨rfl,fun i x h=>by simp at h⟩
 |n+1,cs,xs,hc,h=>by
  simp only[chunks]at h;obtain⟨v,h1,h2⟩:=yb_.1 h;split at h2
  ·rename_i hl
   obtain⟨xs',h3,rfl⟩:=ya_.1 h2;obtain⟨h4,h5⟩:=qh7 (fun v hv=>hc v (List.mem_of_mem_drop hv)) h3;refine⟨by simp[h4],fun i x hx=> ?_⟩;cases i with
   |zero=>
    simp at hx;subst hx
    refine⟨hl.1,fun v' hv'=>List.all_eq_true.1 hl.2 v' hv',fun j u hj=> ?_⟩;unfold cut at h1;split at h1
    ·split at h1
     ·simp at h1;subst h1
      simp[DV.cells,List.getElem?_take]at hj;simpa using hj.2
     ·simp at h1
    ·have hcell:=hc v (List.mem_of_getElem? h1)
     have hcs:v.cells=[v]:=by cases v<;>simp_all[DV.cells,DV.isCell]
     rw[hcs]at hj;cases j with
     |zero=>simp at hj;subst hj;simpa using h1
     |succ j=>simp at hj
   |succ i=>
    simp at hx;obtain⟨h6,h7,h8⟩:=h5 i x hx;refine⟨h6,h7,fun j u hj=> ?_⟩;have:=h8 j u hj;rw[List.getElem?_drop]at this;rw[show(i+1)*sz+j=sz+(i*sz+j)by rw[Nat.succ_mul];omega];exact this
  ·simp at h2
theorem qEI{g:Gh}{w:World}{B:qal}{A:Ids}(hc:Core fid g w B A):∀(n:Nat) (v:AV) (d:DV) (u:Value),AVR fid g w v u->v.frzC B n=some d->VR (g.lend w) w d u:=by
 have hE:ExtV g w (g.lend w) w:=⟨qLQ hc,fun _ _=>rfl,fun _ _ h=>h⟩;have base:∀(d' d:DV) (u:Value),AVR fid g w (.d d') u->some d'=some d->VR (g.lend w) w d u:=by
  intro d' d u hr h;simp only[Option.some.injEq]at h;subst h
  cases hr with|d _ _ h=>exact h.mono hE
 intro n
 induction n with
 |zero=>
  intro v d u hr h;cases v with
  |d d'=>exact base d' d u hr (by simpa only[AV.frzC]using h)
  |_=>simp[AV.frzC]at h
 |succ n ih=>
  intro v d u hr h;cases v with
  |d d'=>exact base d' d u hr (by simpa only[AV.frzC]using h)
  |tsl agg i sz m=>
   simp only[AV.frzC]at h;obtain⟨cs,h1,h2⟩:=yb_.1 h;obtain⟨ds,h3,h4⟩:=yb_.1 h2;split at h4
   ·rename_i hlen
    obtain⟨xs,h5,rfl⟩:=ya_.1 h4;cases hr with
    |tsl _ _ _ _ c b hb hn hm=>
     obtain⟨cs',arr,e,b1,b2,b3,b4,b5,b6⟩:=hc.box i b hb;have:cs'=cs:=by have:=qib.1 h1;rw[b1]at this;simpa using this
     subst this;obtain⟨l1,l2⟩:=qjS h3;have hcell:∀v:DV,v∈ds->v.isCell=true:=fun v hv=>by
      obtain⟨j,hj⟩:=List.mem_iff_getElem?.1 hv;obtain⟨av,h6,h7⟩:=l2 j v hj;exact qtV h7 (b5 av (List.mem_of_getElem? h6)).1
     obtain⟨c1,c2⟩:=qh7 hcell h5;have key:VR (g.lend w) w (.sl .sub xs) (.slice (some ⟨b,0,none⟩) xs.length c):=by
      refine .row _ xs ⟨b,0,none⟩ c sz (fun k=>arr.getD k undef) (by simp) (by omega) hm (fun k hk=> ?_) (.inr ?_) (fun i' x hx=>⟨(c2 i' x hx).1,(c2 i' x hx).2.1⟩) (fun i' x j v hx hj=> ?_) (fun a' sz' ht=>by simp at ht)
      ·have hadd:(⟨b,0,none⟩:Addr).add k=⟨b,k,none⟩:=by unfold Addr.add;split<;>simp_all
       rw[hadd];have:k<arr.size:=by rw[c1]at hk;omega
       simp[World.cell?,b2,yf_,this]
      ·simp only;rw[qIy hb b2,c1];omega
      ·have h6:=(c2 i' x hx).2.2 j v hj
       obtain⟨av,h7,h8⟩:=l2 _ v h6;have hlt:i'*sz+j<arr.size:=by have:=(List.getElem?_eq_some_iff.1 h7).1;omega
       simp only[yf_,Array.getElem?_eq_getElem hlt,Option.getD_some];exact ih av v _ (b4 _ av _ h7 (by simp[hlt])) h8
     rw[c1]at key;exact key
   ·simp at h4
  |_=>simp[AV.frzC]at h
theorem qUu{g:Gh}{w:World}{B:qal}{A:Ids}(hc:Core fid g w B A)(v:AV)(d:DV)(u:Value)(hr:AVR fid g w v u)(h:v.frz B=some d):VR (g.lend w) w d u:=by
 cases v with
 |ag t cs=>
  cases t with
  |false=>
   simp only[AV.frz]at h;obtain⟨ds,h1,h2⟩:=yb_.1 h;split at h2
   ·rename_i hall
    simp only[Option.some.injEq]at h2;subst h2
    obtain⟨l1,l2⟩:=qjS h1;cases hr with
    |ag _ us hs hu=>
     exact .agg ds us (by omega) (fun v hv=>List.all_eq_true.1 hall v hv) fun j v u hj huj=>by
      obtain⟨av,h3,h4⟩:=l2 j v hj;exact qEI hc _ av v u (hu j av u h3 huj) h4
   ·simp at h2
  |true=>simp only[AV.frz]at h;cases hB:B.length<;>simp[hB,AV.frzC]at h
 |_=>exact qEI hc B.length _ d u hr (by simpa only[AV.frz]using h)
end Go.Proofs.YtbcbkiaineacpaaGreat.VS
namespace Go.Proofs.YtbcbkiaineacpaaGreat.VS
variable {P:Program} {fid:Nat->FuncId}
theorem qeE:∀{xs:List DV} {l:List Id},DV.namess xs=some l->∀x:DV,x∈xs->∃lx,x.names=some lx/\∀a,a∈lx->a∈l
 | [],l,h,x,hx=>by simp at hx
 |y::r,l,h,x,hx=>by
  simp only[DV.namess]at h;obtain⟨ly,h1,h2⟩:=yb_.1 h;obtain⟨lr,h3,rfl⟩:=ya_.1 h2;rcases List.mem_cons.1 hx with rfl|hx
  ·exact⟨ly,h1,fun a ha=>List.mem_append_left _ ha⟩
  ·obtain⟨lx,h4,h5⟩:=qeE h3 x hx
   exact⟨lx,h4,fun a ha=>List.mem_append_right _ (h5 a ha)⟩
theorem qtt{x:DV}{l:List Id}(h:x.names=some l)(v:DV)(hv:v∈x.cells):∃lv,v.names=some lv/\∀a,a∈lv->a∈l:=by
 cases x with
 |agg cs=>simp only[DV.names]at h;exact qeE h v hv
 |_=>simp only[DV.cells,List.mem_singleton]at hv;subst hv;exact⟨l,h,fun _ h=>h⟩
theorem qJC{g g2:Gh}{w:World}{A:Ids}(hrow:g2.row=g.row)(hK:∀a b,A a=true->g.blk a=some b->g2.K b=g.K b){v:DV}{u:Value}(h:VR g w v u):
 ∀l,v.names=some l->(∀a,a∈l->A a=true)->VR g2 w v u:=by
 induction h with
 |int k n=>intro _ _ _;exact .int k n
 |bool b=>intro _ _ _;exact .bool b
 |str s=>intro _ _ _;exact .str s
 |agg cs us hs hc _ ih=>
  intro l hl hA;simp only[DV.names]at hl;exact .agg cs us hs hc fun j v u hj hu=>by
   obtain⟨lv,h1,h2⟩:=qeE hl v (List.mem_of_getElem? hj);exact ih j v u hj hu lv h1 fun a ha=>hA a (h2 a ha)
 |tup cs us hs _ ih=>intro l hl hA;simp[DV.names]at hl
 |nil=>intro _ _ _;exact .nil
 |row t xs ad c s U ht hl hm hcell hk hc hv hown ih=>
  intro l hn hA;refine .row t xs ad c s U ht hl hm hcell ?_ hc (fun i x j v hi hj=> ?_) (fun a sz ha=>by rw[hrow];exact hown a sz ha)
  ·cases xs with
   |nil=>exact .inl (by simp)
   |cons x r=>
    cases t with
    |own a sz=>
     simp only[DV.names,ya_]at hn;obtain⟨l',h1,rfl⟩:=hn;obtain⟨_,_,_,h5,_⟩:=hown a sz rfl;rw[hK a ad.block (hA a (by simp)) (by simp[Gh.blk,h5])];exact hk
    |nil=>exact absurd rfl ht
    |sub=>simp[DV.names]at hn
  ·cases xs with
   |nil=>simp at hi
   |cons x0 r=>
    cases t with
    |own a sz=>
     simp only[DV.names,ya_]at hn;obtain⟨l',h1,rfl⟩:=hn;obtain⟨lx,h2,h3⟩:=qeE h1 x (List.mem_of_getElem? hi);obtain⟨lv,h4,h5⟩:=qtt h2 v (List.mem_of_getElem? hj);exact ih i x j v hi hj lv h4 fun b hb=>hA b (List.mem_append_left _ (h3 b (h5 b hb)))
    |nil=>exact absurd rfl ht
    |sub=>simp[DV.names]at hn
structure Thawed(fid:Nat->FuncId)(g2:Gh)(w:World)(base n:Nat)(cs:List AV)(Bs:qal)(U:Nat->Value):Prop where
 len:Bs.length=n
 cell:∀(k:Nat) (av:AV),cs[k]?=some av->AVR fid g2 w av (U k)/\av.isCell=true/\av.safe (base+n)=true
 box:∀j,j<n->∃cs arr e b,Bs[j]?=some (some cs)/\g2.bx (base+j)=some b/\w.heap[b]?=some (.cells arr e (0,0))/\cs.length<=arr.size/\
  (∀(k:Nat) (v:AV) (u:Value),cs[k]?=some v->arr[k]?=some u->AVR fid g2 w v u)/\(∀v,v∈cs->v.isCell=true/\v.safe (base+j)=true)
section
variable {g g2:Gh} {w:World} {A:Ids}
theorem qnO(hrow:g2.row=g.row){v:DV}{u:Value}(h:VR g w v u)(hn:v.names=some []):VR g2 w v u:=
 qJC (A:=fun _=>false) hrow (fun a b ha=>by simp at ha) h [] hn (fun a ha=>by simp at ha)
mutual
theorem qBm(hopn:∀a,A a=true->∃b n c sz arr e,g.row a=some (b,n,c,sz)/\w.heap[b]?=some (.cells arr e (0,0))/\c*sz<=arr.size/\g.K b=n*sz/\n<=c)(hrow:g2.row=g.row):∀(v:DV) (base:Nat) (l:List Id) (U:Nat->Value),v.names=some l->(∀c:DV,c∈v.cells->c.isCell=true)->
 (∀(j:Nat) (c:DV),v.cells[j]?=some c->VR g w c (U j))->(∀a,a∈l->A a=true)->(∀(j:Nat) (a:Id),l[j]?=some a->g2.bx (base+j)=g.blk a)->
 Thawed fid g2 w base l.length (thw base v).1 (thw base v).2 U/\(thw base v).1.length=v.cells.length
 | .int k n,base,l,U,hl,hc,hv,hA,hb=>by
  simp only[DV.names,Option.some.injEq]at hl;subst hl
  refine⟨⟨rfl,fun k' av h=> ?_,fun j hj=>by simp at hj⟩,rfl⟩;have h0:=hv 0 _ rfl;cases k' with
  |zero=>simp[thw]at h;subst h;exact⟨.d _ _ (qnO hrow h0 rfl),rfl,qaC _ _⟩
  |succ k'=>simp[thw]at h
 | .bool b,base,l,U,hl,hc,hv,hA,hb=>by
  simp only[DV.names,Option.some.injEq]at hl;subst hl
  refine⟨⟨rfl,fun k' av h=> ?_,fun j hj=>by simp at hj⟩,rfl⟩;have h0:=hv 0 _ rfl;cases k' with
  |zero=>simp[thw]at h;subst h;exact⟨.d _ _ (qnO hrow h0 rfl),rfl,qaC _ _⟩
  |succ k'=>simp[thw]at h
 | .str b,base,l,U,hl,hc,hv,hA,hb=>by
  simp only[DV.names,Option.some.injEq]at hl;subst hl
  refine⟨⟨rfl,fun k' av h=> ?_,fun j hj=>by simp at hj⟩,rfl⟩;have h0:=hv 0 _ rfl;cases k' with
  |zero=>simp[thw]at h;subst h;exact⟨.d _ _ (qnO hrow h0 rfl),rfl,qaC _ _⟩
  |succ k'=>simp[thw]at h
 | .tup vs,base,l,U,hl,hc,hv,hA,hb=>by simp[DV.names]at hl
 | .agg cs,base,l,U,hl,hc,hv,hA,hb=>by
  simp only[DV.names]at hl;have hone:∀c:DV,c∈cs->c.cells=[c]:=fun c hm=>by
   have:=hc c hm;cases c<;>first|rfl|simp[DV.isCell]at this
  obtain⟨h1,h2⟩:=qsn hopn hrow cs base l 1 U hl (fun x hx=>⟨by rw[hone x hx];rfl,fun c hm=>by rw[hone x hx]at hm;simp at hm;subst hm;exact hc _ hx⟩)
   (fun i x j c hi hj=>by
    rw[hone x (List.mem_of_getElem? hi)]at hj;cases j with
    |zero=>simp at hj;subst hj;simpa using hv i x hi
    |succ j=>simp at hj) hA hb
  simp only[thw];exact⟨h1,by rw[h2];simp[DV.cells]⟩
 | .sl t [],base,l,U,hl,hc,hv,hA,hb=>by
  have hl':l=[]:=by cases t<;>simp[DV.names]at hl<;>exact hl
  subst hl';refine⟨⟨by simp[thw],fun k' av h=> ?_,fun j hj=>by simp at hj⟩,by simp[thw,DV.cells]⟩;have h0:=hv 0 _ rfl;cases k' with
  |zero=>simp[thw]at h;subst h;exact⟨.d _ _ (qnO hrow h0 hl),rfl,qaC _ _⟩
  |succ k'=>simp[thw]at h
 | .sl t (x::xs),base,l,U,hl,hc,hv,hA,hb=>by
  cases t with
  |nil=>simp[DV.names]at hl
  |sub=>simp[DV.names]at hl
  |own a sz=>
   simp only[DV.names,ya_]at hl;obtain⟨l',hl',rfl⟩:=hl;have h0:VR g w (.sl (.own a sz) (x::xs)) (U 0):=hv 0 _ rfl;generalize hu0:U 0=u0 at h0;cases h0 with
   |row _ _ ad c s U' ht hlen hm hcell hk hcs hvs hown=>
    obtain⟨o1,o2,rfl,o4,_⟩:=hown a sz rfl;obtain⟨b,n,c',sz',arr,e,p1,p2,p3,p4,p5⟩:=hopn a (hA a (by simp));rw[o4]at p1;simp only[Option.some.injEq,Prod.mk.injEq]at p1;obtain⟨rfl,rfl,rfl,rfl⟩:=p1;obtain⟨bk,off,sp⟩:=ad;simp only at o1 o2 o4 p2 p4;subst o1;subst o2
    obtain⟨t,n1⟩:=qsn hopn hrow (x::xs) base l' s U' hl' (fun y hy=>by
     obtain⟨i,hi⟩:=List.mem_iff_getElem?.1 hy;exact hcs i y hi) (fun i y j c hi hj=>hvs i y j c hi hj) (fun a ha=>hA a (List.mem_append_left _ ha)) (fun j a hj=>by
     have hlt:j<l'.length:=(List.getElem?_eq_some_iff.1 hj).1;exact hb j a (by rw[ye_ hlt];exact hj))
    have hbx:g2.bx (base+l'.length)=some bk:=by
     rw[hb l'.length a (by simp)];simp[Gh.blk,o4]
    simp only[thw];rw[t.len];refine⟨⟨by simp[t.len],fun k av h=> ?_,fun j hj=> ?_⟩,rfl⟩
    ·cases k with
     |succ k=>simp at h
     |zero=>
      simp only[List.getElem?_cons_zero,Option.some.injEq]at h;subst h;refine⟨?_,rfl,by rw[qaE];simp⟩;rw[hu0];exact .tsl _ _ _ _ c bk hbx (by simpa using hlen) hm
    ·by_cases hjl:j<l'.length
     ·obtain⟨cs,arr',e',b',b1,b2,b3,b4,b5,b6⟩:=t.box j hjl
      exact⟨cs,arr',e',b',by rw[ye_ (by rw[t.len];exact hjl)];exact b1,b2,b3,b4,b5,b6⟩
     ·have hje:j=l'.length:=by simp at hj;omega
      subst hje;refine⟨(qeZ base (x::xs)).1,arr,e,bk,by rw[yd_ (by rw[t.len];omega),t.len];simp,hbx,p2,by rw[n1];exact Nat.le_trans (Nat.mul_le_mul_right _ hlen) p3,fun k v u h7 h8=> ?_,fun v hv=> ?_⟩
      ·have hk1:k<(x::xs).length*s:=by rw[<-n1];exact(List.getElem?_eq_some_iff.1 h7).1
       have h9:=hcell k hk1;have hadd:(⟨bk,0,none⟩:Addr).add k=⟨bk,k,none⟩:=by unfold Addr.add;split<;>simp_all
       rw[hadd]at h9;have h10:w.cell? ⟨bk,k,none⟩=arr[k]?:=by simp[World.cell?,p2]
       rw[h10,h8]at h9;simp only[Option.some.injEq]at h9;rw[h9];exact(t.cell k v h7).1
      ·obtain⟨k,hk'⟩:=List.mem_iff_getElem?.1 hv
       exact⟨(t.cell k v hk').2.1,(t.cell k v hk').2.2⟩
theorem qsn(hopn:∀a,A a=true->∃b n c sz arr e,g.row a=some (b,n,c,sz)/\w.heap[b]?=some (.cells arr e (0,0))/\c*sz<=arr.size/\g.K b=n*sz/\n<=c)(hrow:g2.row=g.row):∀(xs:List DV) (base:Nat) (l:List Id) (s:Nat) (U:Nat->Value),DV.namess xs=some l->(∀x:DV,x∈xs->x.cells.length=s/\∀c:DV,c∈x.cells->c.isCell=true)->
 (∀(i:Nat) (x:DV) (j:Nat) (c:DV),xs[i]?=some x->x.cells[j]?=some c->VR g w c (U (i*s+j)))->(∀a,a∈l->A a=true)->(∀(j:Nat) (a:Id),l[j]?=some a->g2.bx (base+j)=g.blk a)->
 Thawed fid g2 w base l.length (qeZ base xs).1 (qeZ base xs).2 U/\(qeZ base xs).1.length=xs.length*s
 | [],base,l,s,U,hl,hc,hv,hA,hb=>by
  simp only[DV.namess,Option.some.injEq]at hl;subst hl
  exact⟨⟨by simp[qeZ],fun k av h=>by simp[qeZ]at h,fun j hj=>by simp at hj⟩,by simp[qeZ]⟩
 |x::xs,base,l,s,U,hl,hc,hv,hA,hb=>by
  simp only[DV.namess]at hl;obtain⟨lx,h1,h2⟩:=yb_.1 hl;obtain⟨lr,h3,rfl⟩:=ya_.1 h2;obtain⟨t1,n1⟩:=qBm hopn hrow x base lx U h1 (hc x (by simp)).2 (fun j c hj=>by simpa using hv 0 x j c rfl hj) (fun a ha=>hA a (List.mem_append_left _ ha)) (fun j a hj=>by
   have hlt:j<lx.length:=(List.getElem?_eq_some_iff.1 hj).1;exact hb j a (by rw[ye_ hlt];exact hj))
  obtain⟨t2,n2⟩:=qsn hopn hrow xs (base+lx.length) lr s (fun k=>U (s+k)) h3 (fun y hy=>hc y (by simp[hy])) (fun i y j c hi hj=>by
   have:=hv (i+1) y j c (by simpa using hi) hj;rw[show(i+1)*s+j=s+(i*s+j)by rw[Nat.succ_mul];omega]at this;exact this) (fun a ha=>hA a (List.mem_append_right _ ha)) (fun j a hj=>by
   have:=hb (lx.length+j) a (by rw[yd_ (by omega)];simpa using hj);rw[<-Nat.add_assoc]at this;exact this)
  have hs:(thw base x).1.length=s:=by rw[n1];exact(hc x (by simp)).1
  simp only[qeZ];rw[t1.len];refine⟨⟨by simp[t1.len,t2.len],fun k av h=> ?_,fun j hj=> ?_⟩,by rw[yg_,hs,n2,List.length_cons,Nat.succ_mul];omega⟩
  ·rw[yg_,<-Nat.add_assoc]
   by_cases hk:k<s
   ·rw[ye_ (by omega)]at h
    obtain⟨c1,c2,c3⟩:=t1.cell k av h;exact⟨c1,c2,qkd (by omega) av c3⟩
   ·rw[yd_ (by omega),hs]at h
    obtain⟨c1,c2,c3⟩:=t2.cell _ av h;rw[show s+(k-s)=k by omega]at c1;exact⟨c1,c2,c3⟩
  ·by_cases hjl:j<lx.length
   ·obtain⟨cs,arr,e,b,b1,b2,b3,b4,b5,b6⟩:=t1.box j hjl
    exact⟨cs,arr,e,b,by rw[ye_ (by rw[t1.len];exact hjl)];exact b1,b2,b3,b4,b5,b6⟩
   ·rw[yg_]at hj
    obtain⟨cs,arr,e,b,b1,b2,b3,b4,b5,b6⟩:=t2.box (j-lx.length) (by omega);rw[show base+lx.length+(j-lx.length)=base+j by omega]at b2 b6;exact⟨cs,arr,e,b,by rw[yd_ (by rw[t1.len];omega),t1.len];exact b1,b2,b3,b4,b5,b6⟩
end
end
end Go.Proofs.YtbcbkiaineacpaaGreat.VS
namespace Go.Proofs.YtbcbkiaineacpaaGreat.VS
variable {P:Program} {fid:Nat->FuncId}
noncomputable def Gh.back(g g':Gh)(w:World)(L:Nat)(l:List Id):Gh:=
 {K:=fun b=>open Classical in if b<w.heap.size then g.K b else if∃a,a∈l/\g'.blk a=some b then 0 else g'.K b
  row:=g'.row
  bx:=fun i=>if i<L then g.bx i else(l[i-L]?).bind g'.blk}
section
variable {g g2:Gh} {w:World} {A:Ids}
theorem qmu(hopn:∀a,A a=true->∃b n c sz arr e,g.row a=some (b,n,c,sz)/\w.heap[b]?=some (.cells arr e (0,0))/\c*sz<=arr.size/\g.K b=n*sz/\n<=c)(hrow:g2.row=g.row)(v:DV)(u:Value)(base:Nat)(l:List Id)(hl:v.names=some l)(hv:VR g w v u)(hA:∀a,a∈l->A a=true)(hb:∀(j:Nat) (a:Id),l[j]?=some a->g2.bx (base+j)=g.blk a):
 ∃cs U,Thawed fid g2 w base l.length cs (qaV base v).2 U/\AVR fid g2 w (qaV base v).1 u/\(qaV base v).1.safe (base+l.length)=true:=by
 have one:v.isCell=true->qaV base v=((thw base v).1.headD .und,(thw base v).2)->∃cs U,Thawed fid g2 w base l.length cs (qaV base v).2 U/\AVR fid g2 w (qaV base v).1 u/\(qaV base v).1.safe (base+l.length)=true:=by
  intro hc he;have hcs:v.cells=[v]:=by cases v<;>first|rfl|simp[DV.isCell]at hc
  obtain⟨t,hn⟩:=qBm (fid:=fid) hopn hrow v base l (fun _=>u) hl (fun c hm=>by rw[hcs]at hm;simp at hm;subst hm;exact hc) (fun j c hj=>by
   rw[hcs]at hj;cases j with
   |zero=>simp at hj;subst hj;exact hv
   |succ j=>simp at hj) hA hb
  rw[he];refine⟨_,_,t,?_⟩;rw[hcs]at hn
  match hq:(thw base v).1,hn with
  | [av],_=>
   have:=t.cell 0 av (by rw[hq];rfl);exact⟨this.1,this.2.2⟩
 cases v with
 |agg cs=>
  cases hv with
  |agg _ us hs hc hu=>
   simp only[DV.names]at hl;obtain⟨t,hn⟩:=qBm (fid:=fid) hopn hrow (.agg cs) base l (fun j=>us.getD j undef) hl hc (fun j c hj=>by
    have hlt:j<us.size:=by have:=(List.getElem?_eq_some_iff.1 hj).1;simp[DV.cells]at this;omega
    simp only[yf_,Array.getElem?_eq_getElem hlt,Option.getD_some];exact hu j c _ hj (by simp[hlt])) hA hb
   simp only[thw]at t hn;simp only[DV.cells]at hn;refine⟨_,_,t,.ag _ us (by rw[hn];exact hs) (fun j v u hj hu'=> ?_),?_⟩
   ·have:=(t.cell j v hj).1
    rw[yf_,hu']at this;exact this
   ·rw[show(qaV base (.agg cs)).1= .ag false (qeZ base cs).1 from rfl,qsA]
    have hall:∀(x:List AV),(∀v:AV,v∈x->v.safe (base+l.length)=true)->AV.safe.safes (base+l.length) x=true:=by
     intro x
     induction x with
     |nil=>intro _;exact qbi _
     |cons y r ih=>intro h;rw[qgn,h y (by simp),ih (fun v hv=>h v (by simp[hv]))];rfl
    exact hall _ fun v hv=>by
     obtain⟨k,hk⟩:=List.mem_iff_getElem?.1 hv;exact(t.cell k v hk).2.2
 |tup vs=>simp[DV.names]at hl
 |_=>exact one rfl rfl
theorem qmv(hopn:∀a,A a=true->∃b n c sz arr e,g.row a=some (b,n,c,sz)/\w.heap[b]?=some (.cells arr e (0,0))/\c*sz<=arr.size/\g.K b=n*sz/\n<=c)(hrow:g2.row=g.row):∀(vs:List DV) (us:Nat->Value) (base:Nat) (l:List Id),DV.namess vs=some l->(∀(j:Nat) (v:DV),vs[j]?=some v->VR g w v (us j))->(∀a,a∈l->A a=true)->
 (∀(j:Nat) (a:Id),l[j]?=some a->g2.bx (base+j)=g.blk a)->
 ∃cs U,Thawed fid g2 w base l.length cs (qbG base vs).2 U/\(qbG base vs).1.length=vs.length/\∀(j:Nat) (v:AV),(qbG base vs).1[j]?=some v->AVR fid g2 w v (us j)
 | [],us,base,l,hl,hv,hA,hb=>by
  simp only[DV.namess,Option.some.injEq]at hl;subst hl
  exact⟨[],fun _=>undef,⟨by simp[qbG],fun k av h=>by simp at h,fun j hj=>by simp at hj⟩,rfl,fun j v h=>by simp[qbG]at h⟩
 |x::xs,us,base,l,hl,hv,hA,hb=>by
  simp only[DV.namess]at hl;obtain⟨lx,h1,h2⟩:=yb_.1 hl;obtain⟨lr,h3,rfl⟩:=ya_.1 h2;obtain⟨cs1,U1,t1,v1,s1⟩:=qmu (fid:=fid) hopn hrow x (us 0) base lx h1 (hv 0 x rfl) (fun a ha=>hA a (List.mem_append_left _ ha)) (fun j a hj=>by
   have hlt:j<lx.length:=(List.getElem?_eq_some_iff.1 hj).1;exact hb j a (by rw[ye_ hlt];exact hj))
  obtain⟨cs2,U2,t2,n2,v2⟩:=qmv hopn hrow xs (fun j=>us (j+1)) (base+lx.length) lr h3 (fun j v hj=>hv (j+1) v (by simpa using hj)) (fun a ha=>hA a (List.mem_append_right _ ha)) (fun j a hj=>by
   have:=hb (lx.length+j) a (by rw[yd_ (by omega)];simpa using hj);rw[<-Nat.add_assoc]at this;exact this)
  simp only[qbG];rw[t1.len];refine⟨[],fun _=>undef,⟨by simp[t1.len,t2.len],fun k av h=>by simp at h,fun j hj=> ?_⟩,by simp[n2],fun j v hj=> ?_⟩
  ·by_cases hjl:j<lx.length
   ·obtain⟨cs,arr,e,b,b1,b2,b3,b4,b5,b6⟩:=t1.box j hjl
    exact⟨cs,arr,e,b,by rw[ye_ (by rw[t1.len];exact hjl)];exact b1,b2,b3,b4,b5,b6⟩
   ·rw[yg_]at hj
    obtain⟨cs,arr,e,b,b1,b2,b3,b4,b5,b6⟩:=t2.box (j-lx.length) (by omega);rw[show base+lx.length+(j-lx.length)=base+j by omega]at b2 b6;exact⟨cs,arr,e,b,by rw[yd_ (by rw[t1.len];omega),t1.len];exact b1,b2,b3,b4,b5,b6⟩
  ·cases j with
   |zero=>simp at hj;subst hj;exact v1
   |succ j=>simp at hj;exact v2 j v hj
theorem qMZ(hopn:∀a,A a=true->∃b n c sz arr e,g.row a=some (b,n,c,sz)/\w.heap[b]?=some (.cells arr e (0,0))/\c*sz<=arr.size/\g.K b=n*sz/\n<=c)(hrow:g2.row=g.row)(v:DV)(u:Value)(base:Nat)(l:List Id)(hl:v.namesT=some l)(hv:VR g w v u)(hA:∀a,a∈l->A a=true)(hb:∀(j:Nat) (a:Id),l[j]?=some a->g2.bx (base+j)=g.blk a):
 ∃cs U,Thawed fid g2 w base l.length cs (v.thaw base).2 U/\AVR fid g2 w (v.thaw base).1 u:=by
 cases v with
 |tup vs=>
  cases hv with
  |tup _ us hs hu=>
   obtain⟨cs,U,t,n,h⟩:=qmv (fid:=fid) hopn hrow vs (fun j=>us.getD j undef) base l hl (fun j c hj=>by
    have hlt:j<us.size:=by have:=(List.getElem?_eq_some_iff.1 hj).1;omega
    simp only[yf_,Array.getElem?_eq_getElem hlt,Option.getD_some];exact hu j c _ hj (by simp[hlt])) hA hb
   refine⟨cs,U,t,.tp _ us (by rw[n];exact hs) fun j v u hj hu'=> ?_⟩;have:=h j v hj;rw[yf_,hu']at this;exact this
 |_=>
  obtain⟨cs,U,t,h,_⟩:=qmu (fid:=fid) hopn hrow _ u base l hl hv hA hb;exact⟨cs,U,t,h⟩
end
theorem qEf{g:Gh}{w:World}{B:qal}{A:Ids}(hc:Core fid g w B A){N:Id->Prop}{r:Res}{u:Value}{g':Gh}{w':World}{v:DV}(hv:r.v= .d v){l:List Id}
 (hl:v.namesT=some l) (hnd:l.Nodup) (hA:∀a,a∈l->r.A a=true) (hp:Post fid N (g.lend w) w Ids.none r u g' w') (thaw:Bool):
 ∃g2,Core fid g2 w' (if thaw then B++(v.thaw B.length).2 else B) (if thaw then A else Ids.or r.A A)/\Boxes g w g2/\Step N g w A g2 w' (if thaw then A else Ids.or r.A A)/\Ext g w g2 w'/\
  AVR fid g2 w' (if thaw then(v.thaw B.length).1 else .d v) u:=by
 have hst:=hp.step;have hkeep:∀b,b<w.heap.size->w'.heap[b]?=w.heap[b]?/\g'.K b=(g.lend w).K b:=fun b hb=>hst.keep b hb (fun i h=>by simp[Gh.lend]at h) (fun a ha=>by simp[Ids.none]at ha)
 have hnew:∀a b,r.A a=true->g'.blk a=some b->w.heap.size<=b:=fun a b ha hb=>by
  rcases hst.org a b ha hb with h|⟨a0,h,_⟩
  ·exact h
  ·simp[Ids.none]at h
 have hold:∀a,A a=true->∃b x,g.row a=some (b,x)/\g'.row a=some (b,x)/\b<w.heap.size:=fun a ha=>by
  obtain⟨b,n,c,sz,arr,e,o1,o2,_⟩:=hc.opn a ha;exact⟨b,_,o1,hst.ext.row a _ o1,(Array.getElem?_eq_some_iff.1 o2).1⟩
 have hdom:∀i b,g.bx i=some b->i<B.length:=fun i b h=>by
  obtain⟨cs,arr,e,h1,_⟩:=hc.box i b h;exact(List.getElem?_eq_some_iff.1 h1).1
 have hopn:∀a,r.A a=true->∃b n c sz arr e,g'.row a=some (b,n,c,sz)/\w'.heap[b]?=some (.cells arr e (0,0))/\c*sz<=arr.size/\g'.K b=n*sz/\n<=c:=fun a ha=>by
  obtain⟨b,n,c,sz,arr,e,o1,o2,o3,o4,o5,o6⟩:=hp.core.opn a ha;exact⟨b,n,c,sz,arr,e,o1,o2,o3,o4,o5⟩
 have hval:VR g' w' v u:=by
  have:=hp.val;rw[hv]at this;exact qee this
 have hE1:∀(g2:Gh),(∀b,b<w.heap.size->g2.K b=g.K b)->g2.row=g'.row->ExtV g w g2 w':=fun g2 hK hrow=>
  ⟨fun b=>by
   rcases Nat.lt_or_ge b w.heap.size with h|h
   ·rw[hK b h];exact Nat.le_refl _
   ·rw[hc.K0 b h];exact Nat.zero_le _,
   fun ad had=>hst.ext.cell ad (Nat.lt_of_lt_of_le had (qLQ hc _)),fun a x hx=>by rw[hrow];exact hst.ext.row a x hx⟩
 cases thaw with
 |false=>
  have hK2:∀b,(fun b=>if b<w.heap.size then g.K b else g'.K b) b=if b<w.heap.size then g.K b else g'.K b:=fun _=>rfl
  have hE:=hE1 {K:=fun b=>if b<w.heap.size then g.K b else g'.K b,row:=g'.row,bx:=g.bx} (fun b hb=>by simp[hb]) rfl;have hext:Ext g w {K:=fun b=>if b<w.heap.size then g.K b else g'.K b,row:=g'.row,bx:=g.bx} w':=⟨hE,fun _ _ h=>h⟩;simp only[if_false,Bool.false_eq_true];refine⟨{K:=fun b=>if b<w.heap.size then g.K b else g'.K b,row:=g'.row,bx:=g.bx},⟨fun i b h=> ?_,hc.inj,fun a ha=> ?_,fun a a' b x x' ha ha' hb hb'=> ?_,fun b hb=> ?_⟩,⟨fun _ _ h=>h,fun _ _ h=> .inl h⟩,
   ⟨hst.os,hst.tape,hst.output,hst.size,hE,fun b hb _ _=>⟨(hkeep b hb).1,by simp[hb]⟩,hst.new,fun a b ha hb=> ?_,hst.arr⟩,hext,?_⟩
  ·obtain⟨cs,arr,e,h1,h2,h3,h4,h5,h6⟩:=hc.box i b h
   exact⟨cs,arr,e,h1,by rw[(hkeep b (hc.lt h)).1];exact h2,h3,fun j v u h7 h8=>(h4 j v u h7 h8).mono fid hext,h5,by simp[hc.lt h,h6]⟩
  ·simp only[Ids.or,Bool.or_eq_true]at ha
   rcases ha with ha|ha
   ·obtain⟨b,n,c,sz,arr,e,o1,o2,o3,o4,o5,o6⟩:=hp.core.opn a ha
    have hge:=hnew a b ha (by simp[Gh.blk,o1]);refine⟨b,n,c,sz,arr,e,o1,o2,o3,by simp only;rw[if_neg (by omega)];exact o4,o5,fun i h=> ?_⟩;have:=hc.lt h;omega
   ·obtain⟨b,n,c,sz,arr,e,o1,o2,o3,o4,o5,o6⟩:=hc.opn a ha
    have hlt:=(Array.getElem?_eq_some_iff.1 o2).1;exact⟨b,n,c,sz,arr,e,hst.ext.row a _ o1,by rw[(hkeep b hlt).1];exact o2,o3,by simp only;rw[if_pos hlt];exact o4,o5,o6⟩
  ·simp only[Ids.or,Bool.or_eq_true]at ha ha'
   simp only at hb hb';rcases ha with ha|ha<;>rcases ha' with ha'|ha'
   ·exact hp.core.apart a a' b x x' ha ha' hb hb'
   ·obtain⟨b2,x2,h1,h2,h3⟩:=hold a' ha'
    rw[hb']at h2;simp at h2;have:=hnew a b ha (by simp[Gh.blk,hb]);omega
   ·obtain⟨b2,x2,h1,h2,h3⟩:=hold a ha
    rw[hb]at h2;simp at h2;have:=hnew a' b ha' (by simp[Gh.blk,hb']);omega
   ·obtain⟨b2,x2,h1,h2,h3⟩:=hold a ha
    obtain⟨b3,x3,h4,h5,h6⟩:=hold a' ha';rw[hb]at h2;rw[hb']at h5
    simp only[Option.some.injEq,Prod.mk.injEq]at h2 h5;exact hc.apart a a' b x2 x3 ha ha' (by rw[h1,h2.1]) (by rw[h4,h5.1])
  ·simp only
   rw[if_neg (by have:=hst.size;omega)];exact hp.core.K0 b hb
  ·simp only[Ids.or,Bool.or_eq_true]at ha
   rcases ha with ha|ha
   ·exact .inl (hnew a b ha hb)
   ·obtain⟨b2,x2,h1,h2,h3⟩:=hold a ha
    simp only[Gh.blk,h2]at hb;exact .inr ⟨a,ha,by simpa[Gh.blk,h1]using hb⟩
  ·have tr:∀(v:DV) (u:Value) (l:List Id),v.names=some l->(∀a,a∈l->r.A a=true)->VR g' w' v u->VR {K:=fun b=>if b<w.heap.size then g.K b else g'.K b,row:=g'.row,bx:=g.bx} w' v u:=fun v u l h1 h2 h3=>
    qJC (g:=g') (g2:={K:=fun b=>if b<w.heap.size then g.K b else g'.K b,row:=g'.row,bx:=g.bx}) (A:=r.A) rfl (fun a b ha hb=>by have:=hnew a b ha hb;simp only;rw[if_neg (by omega)]) h3 l h1 h2
   cases v with
   |tup vs=>
    cases hval with
    |tup _ us hs hu=>
     refine .d _ _ (.tup vs us hs fun j v u hj hu'=> ?_);obtain⟨lv,h1,h2⟩:=qeE (show DV.namess vs=some l from hl) v (List.mem_of_getElem? hj);exact tr v u lv h1 (fun a ha=>hA a (h2 a ha)) (hu j v u hj hu')
   |_=>exact .d _ _ (tr _ u l hl hA hval)
 |true=>
  have hKlt:∀b,b<w.heap.size->(Gh.back g g' w B.length l).K b=g.K b:=fun b hb=>by simp[Gh.back,hb]
  have hE:=hE1 (Gh.back g g' w B.length l) hKlt rfl;have hbx0:∀i b,g.bx i=some b->(Gh.back g g' w B.length l).bx i=some b:=fun i b h=>by simp only[Gh.back];rw[if_pos (hdom i b h)];exact h
  have hext:Ext g w (Gh.back g g' w B.length l) w':=⟨hE,hbx0⟩;have hbx1:∀(j:Nat) (a:Id),l[j]?=some a->(Gh.back g g' w B.length l).bx (B.length+j)=g'.blk a:=fun j a h=>by
   simp only[Gh.back];rw[if_neg (by omega),show B.length+j-B.length=j by omega,h];rfl
  have hbxi:∀i b,(Gh.back g g' w B.length l).bx i=some b->(i<B.length/\g.bx i=some b)\/(B.length<=i/\∃a,l[i-B.length]?=some a/\g'.blk a=some b):=fun i b h=>by
   simp only[Gh.back]at h;split at h
   ·rename_i hi;exact .inl ⟨hi,h⟩
   ·rename_i hi
    obtain⟨a,h1,h2⟩:=yb_.1 h;exact .inr ⟨by omega,a,h1,h2⟩
  obtain⟨cs0,U0,t,hav⟩:=qMZ (fid:=fid) (g2:=Gh.back g g' w B.length l) hopn rfl v u B.length l hl hval hA hbx1;simp only[if_true];refine⟨Gh.back g g' w B.length l,⟨fun i b h=> ?_,fun i j b h1 h2=> ?_,fun a ha=> ?_,fun a a' b x x' ha ha' hb hb'=> ?_,fun b hb=> ?_⟩,⟨hbx0,fun i b h=> ?_⟩,
   ⟨hst.os,hst.tape,hst.output,hst.size,hE,fun b hb _ _=>⟨(hkeep b hb).1,hKlt b hb⟩,hst.new,fun a b ha hb=> ?_,hst.arr⟩,hext,hav⟩
  ·rcases hbxi i b h with⟨hi,h0⟩|⟨hi,a,ha,hblk⟩
   ·obtain⟨cs,arr,e,h1,h2,h3,h4,h5,h6⟩:=hc.box i b h0
    exact⟨cs,arr,e,by rw[ye_ hi];exact h1,by rw[(hkeep b (hc.lt h0)).1];exact h2,h3,fun j v u h7 h8=>(h4 j v u h7 h8).mono fid hext,h5,by rw[hKlt b (hc.lt h0)];exact h6⟩
   ·have hj:=(List.getElem?_eq_some_iff.1 ha).1
    obtain⟨cs,arr,e,b',b1,b2,b3,b4,b5,b6⟩:=t.box (i-B.length) hj;rw[show B.length+(i-B.length)=i by omega]at b2 b6;rw[h]at b2;simp only[Option.some.injEq]at b2;subst b2
    refine⟨cs,arr,e,by rw[yd_ hi];exact b1,b3,b4,b5,b6,?_⟩;simp only[Gh.back];rw[if_neg (by have:=hnew a b (hA a (List.mem_of_getElem? ha)) hblk;omega),if_pos ⟨a,List.mem_of_getElem? ha,hblk⟩]
  ·rcases hbxi i b h1 with⟨hi,h3⟩|⟨hi,a,ha,hblk⟩<;>rcases hbxi j b h2 with⟨hj,h4⟩|⟨hj,a',ha',hblk'⟩
   ·exact hc.inj i j b h3 h4
   ·have:=hc.lt h3
    have:=hnew a' b (hA a' (List.mem_of_getElem? ha')) hblk';omega
   ·have:=hc.lt h4
    have:=hnew a b (hA a (List.mem_of_getElem? ha)) hblk;omega
   ·have hr1:=hA a (List.mem_of_getElem? ha)
    have hr2:=hA a' (List.mem_of_getElem? ha');obtain⟨x,hx1,hx2⟩:=ya_.1 hblk;obtain⟨y,hy1,hy2⟩:=ya_.1 hblk';obtain⟨x1,x2⟩:=x;obtain⟨y1,y2⟩:=y;simp only at hx2 hy2;subst hx2;subst hy2
    have hae:=hp.core.apart a a' _ x2 y2 hr1 hr2 hx1 hy1;subst hae;obtain⟨q1,q2⟩:=List.getElem?_eq_some_iff.1 ha;obtain⟨q3,q4⟩:=List.getElem?_eq_some_iff.1 ha';have:=(List.getElem_inj hnd (h₀:=q1) (h₁:=q3)).1 (q2.trans q4.symm);omega
  ·obtain⟨b,n,c,sz,arr,e,o1,o2,o3,o4,o5,o6⟩:=hc.opn a ha
   have hlt:=(Array.getElem?_eq_some_iff.1 o2).1;refine⟨b,n,c,sz,arr,e,hst.ext.row a _ o1,by rw[(hkeep b hlt).1];exact o2,o3,by rw[hKlt b hlt];exact o4,o5,fun i h=> ?_⟩;rcases hbxi i b h with⟨hi,h0⟩|⟨hi,a',ha',hblk⟩
   ·exact o6 i h0
   ·have:=hnew a' b (hA a' (List.mem_of_getElem? ha')) hblk
    omega
  ·obtain⟨b2,x2,h1,h2,h3⟩:=hold a ha
   obtain⟨b3,x3,h4,h5,h6⟩:=hold a' ha';simp only[Gh.back]at hb hb';rw[hb]at h2;rw[hb']at h5
   simp only[Option.some.injEq,Prod.mk.injEq]at h2 h5;exact hc.apart a a' b x2 x3 ha ha' (by rw[h1,h2.1]) (by rw[h4,h5.1])
  ·simp only[Gh.back]
   rw[if_neg (by have:=hst.size;omega)];split
   ·rfl
   ·exact hp.core.K0 b hb
  ·rcases hbxi i b h with⟨hi,h0⟩|⟨hi,a,ha,hblk⟩
   ·exact .inl h0
   ·exact .inr (hnew a b (hA a (List.mem_of_getElem? ha)) hblk)
  ·obtain⟨b2,x2,h1,h2,h3⟩:=hold a ha
   simp only[Gh.blk,Gh.back,h2]at hb;exact .inr ⟨a,ha,by simpa[Gh.blk,h1]using hb⟩
end Go.Proofs.YtbcbkiaineacpaaGreat.VS
namespace Go.Proofs.YtbcbkiaineacpaaGreat.VS
variable {P:Program} {fid:Nat->FuncId} {g:Gh} {w:World}
theorem qhW{a:Act}{o:Oper}{c:Call}{f:Operand}{k:FuncId}{caps:Array Value}(ho:o.op= .call c)(hc:c.callee= .value f)(hf:a.eval f= .func (.func k) #[] caps)(hfn:quv P k):
 (execOp a.eval o).run P w= .ok (.enter k (c.args.map a.eval++caps)) w:=by
 obtain⟨fn,h1,h2,h3⟩:=hfn;have h2':¬fn.name= "runtime.NumGoroutine":=by simpa using h2
 have h3':¬fn.body=none:=fun h=>by simp[h]at h3
 simp[execOp,ho,resolve,hc,hf,Deferred.ofValue,invoke,callFunc,h1,h2',h3']
theorem qWB{call:qaz}(hcall:qgh P fid call){p:Id}{draw:Bool}{L0 i:Nat}{a:Act}{o:Oper}{vo:VOper}{s s':St}(hcore:Core fid g w s.B s.A)(hr:qef fid g w s.r a.tmps)
 (hfr:∀q,g.row (q++(s.c+i)::p)=none) (hdst:o.dst=vo.dst) (hd:∀d,o.dst=some d->d<a.tmps.size) (hok:qa4 P fid o.op vo.op=true) (hv:qbv call p draw L0 i vo s=some s')
 (K:Act->World->Prop) (Q:Exit->Act->World->Prop)
 (hK:∀g' w' u,Core fid g' w' s'.B s'.A->Boxes g w g'->Step (under (s.c+i) p) g w s.A g' w' s'.A->qef fid g' w' s'.r (a.put o.dst u).tmps->K (a.put o.dst u) w'):o.wp P a w K Q:=by
 have fin:Nonempty (Does P fid (under (s.c+i) p) g w a o s s')->o.wp P a w K Q:=by
  rintro⟨n,u,w',g',run,res,core,boxes,step,regs⟩
  unfold Oper.wp;rw[run];rcases res with rfl|⟨rfl,rfl⟩
  ·exact hK g' w' u core boxes step regs
  ·exact hK g' w' undef core boxes step regs
 obtain⟨dst,vop,gd,af⟩:=vo;simp only at hdst hok;subst hdst;have hf0:=hfr [];simp only[List.nil_append]at hf0;have pure:∀v,evP s.r vop=some v->s'=s.put o.dst v->o.wp P a w K Q:=by
  rintro v h1 rfl
  obtain⟨u,h2,h3⟩:=qLV (P:=P) (fid:=fid) hr hok h1;exact fin ⟨Does.still u hcore hr hd h2 h3⟩
 cases vop with
 |load ag sz x=>exact fin (qPb hcore hr hd hok hv _)
 |store ini sz x y=>exact fin (qxl hcore hr hd hok hv _)
 |storeN sz x y av=>
  have hok':qa4 P fid o.op (.store false sz x y)=true:=by
   cases ho:o.op with
   |store t a v=>rw[ho]at hok;simpa only[qa4]using hok
   |_=>rw[ho]at hok;simp[qa4]at hok
  have hv':qbv call p draw L0 i ⟨o.dst,.store false sz x y,gd,af⟩ s=some s':=by
   simp only[qbv]at hv⊢
   split at hv
   ·split at hv
    ·simp at hv
    ·rename_i hc
     simp only[Bool.or_eq_true,not_or]at hc;rw[if_neg hc.1];exact hv
   ·simp at hv
  exact fin (qxl hcore hr hd hok' hv' _)
 |alloc k z=>exact fin (qxm hcore hr hd hok hv _)
 |allocE z=>exact fin (qFa hcore hr hd hok hv _)
 |box k x=>exact fin (qUV hcore hr hd hok hv _)
 |buildSlice sz z n ps=>exact fin (qo3 hcore hr hd hok hv hf0)
 |makeSlice k sz by' z x=>exact fin (qrl hcore hr hd hok hv _)
 |append sz by' x y=>exact fin (qE9 hcore hr hd hok hv hf0)
 |call iso f args=>
  obtain⟨dst,op,ty,pos,after,guard⟩:=o;cases op with
  |call c=>
   obtain⟨callee,cargs,argTypes⟩:=c;cases callee with
   |value fo=>
    simp only[qa4,Bool.and_eq_true]at hok;obtain⟨hok1,hok2⟩:=hok;simp only[qbv]at hv;split at hv
    ·rename_i k caps vs hf hvs
     have hfun:=qas (w:=w) hr hok1 hf;obtain⟨hl,hargs⟩:=qhB (w:=w) hr hok2 hvs;generalize hq:a.eval fo=q at hfun;cases hfun with
     |fn _ _ us hus hcap=>
      split at hv
      ·
       split at hv
       ·rename_i ds hds
        split at hv
        ·rename_i v A B hc
         simp at hv;subst hv
         obtain⟨hfn,hcc⟩:=hcall _ _ _ _ _ _ hc;have hdd:=qbz hds;have hus0:us= #[]:=by simpa using hus
         subst hus0;have hrun:=qhW (P:=P) (w:=w) (a:=a) (o:=⟨dst,.call ⟨.value fo,cargs,argTypes⟩,ty,pos,after,guard⟩) rfl rfl hq hfn;have hcalls:=hcc (g.cutB 0) w (cargs.map a.eval++ #[]) (by simp[hl]) (fun j v u h1 h2=>by
          simp at h2;obtain⟨oo,h3,rfl⟩:=h2;have h4:=hargs j v oo h1 (by simpa using h3);have:∃d,v= .d d:=by
           rw[hdd]at h1;simp at h1;obtain⟨d,_,rfl⟩:=h1;exact⟨d,rfl⟩
          obtain⟨d,rfl⟩:=this;have e5:ExtV g w (g.cutB 0) w:=⟨fun _=>Nat.le_refl _,fun _ _=>rfl,fun _ _ h=>h⟩;exact AVR.data fid e5 h4) (by
          have h5:=(hcore.cutB 0).sub (A':=Ids.none) (fun x hx=>by simp[Ids.none]at hx);simpa using h5) (fun q j _=>by
          have:=hfr (q++[j]);simpa[Gh.cutB]using this)
         unfold Oper.wp;rw[hrun,Oper.upon_enter];refine hcalls.mono fun e w' ⟨u,g',he,hp⟩=> ?_
         subst he;obtain⟨g2,c2,b2,s2,e2,v2⟩:=qw8 hcore rfl hp;exact hK g2 w' u (by rw[qiB,qdr];exact c2) b2 (by rw[qdr];exact s2.weaken (fun x ⟨q,j,_,hx⟩=>⟨q++[j],by simp[hx]⟩)) (qbX (s:={s with A:=_}) (hr.mono fid e2) v2 hd)
        ·simp at hv
       ·simp at hv
      ·
       split at hv
       ·rename_i v A B hc
        simp at hv;subst hv
        obtain⟨hfn,hcc⟩:=hcall _ _ _ _ _ _ hc;have hrun:=qhW (P:=P) (w:=w) (a:=a) (o:=⟨dst,.call ⟨.value fo,cargs,argTypes⟩,ty,pos,after,guard⟩) rfl rfl hq hfn;have hcalls:=hcc g w (cargs.map a.eval++us) (by simp[hl,hus]) (fun j v u h1 h2=>by
         by_cases hj:j<vs.length
         ·rw[ye_ hj]at h1
          rw[Array.getElem?_append_left (by simpa[hl]using hj)]at h2;simp at h2;obtain⟨oo,h3,rfl⟩:=h2;exact hargs j v oo h1 (by simpa using h3)
         ·rw[yd_ (by omega)]at h1
          rw[Array.getElem?_append_right (by simp at hl⊢;omega)]at h2;exact hcap _ v u h1 (by simpa[hl]using h2)) hcore (fun q j _=>by
         have:=hfr (q++[j]);simpa using this)
        unfold Oper.wp;rw[hrun,Oper.upon_enter];refine hcalls.mono fun e w' ⟨u,g',he,hp⟩=> ?_
        subst he;have hext:Ext g w g' w':=⟨hp.step.ext,hp.boxes.old⟩;exact hK g' w' u (by rw[qiB,qdr];exact hp.core) hp.boxes (by rw[qdr];exact hp.step.weaken (fun x ⟨q,j,_,hx⟩=>⟨q++[j],by simp[hx]⟩)) (qbX (s:={s with A:=_,B:=_}) (hr.mono fid hext) hp.val hd)
       ·simp at hv
    ·simp at hv
   |_=>simp[qa4]at hok
  |_=>simp[qa4]at hok
 |callT th f args=>
  obtain⟨dst,op,ty,pos,after,guard⟩:=o;cases op with
  |call c=>
   obtain⟨callee,cargs,argTypes⟩:=c;cases callee with
   |value fo=>
    simp only[qa4,Bool.and_eq_true]at hok;obtain⟨hok1,hok2⟩:=hok;simp only[qbv]at hv;split at hv
    ·rename_i k vs hf hvs
     have hfun:=qas (w:=w) hr hok1 hf;obtain⟨hl,hargs⟩:=qhB (w:=w) hr hok2 hvs;generalize hq:a.eval fo=q at hfun;cases hfun with
     |fn _ _ us hus hcap=>
      split at hv
      ·obtain⟨ds,hds,hv⟩:=yb_.1 hv
       split at hv
       ·rename_i v A B hc
        obtain⟨l,hl1,hv⟩:=yb_.1 hv;split at hv
        ·rename_i hl2
         simp only[Option.some.injEq]at hv;obtain⟨hfn,hcc⟩:=hcall _ _ _ _ _ _ hc;have hus0:us= #[]:=by simpa using hus
         subst hus0;obtain⟨d1,d2⟩:=qjS hds;have hrun:=qhW (P:=P) (w:=w) (a:=a) (o:=⟨dst,.call ⟨.value fo,cargs,argTypes⟩,ty,pos,after,guard⟩) rfl rfl hq hfn;have hcalls:=hcc (g.lend w) w (cargs.map a.eval++ #[]) (by simp at hl⊢;omega) (fun j v u h1 h2=>by
          simp at h2;obtain⟨oo,h3,rfl⟩:=h2;simp only[List.getElem?_map]at h1;obtain⟨d,h4,rfl⟩:=ya_.1 h1;obtain⟨av,h5,h6⟩:=d2 j d h4;exact .d _ _ (qUu hcore av d _ (hargs j av oo h5 (by simpa using h3)) h6)) (qEg hcore) (fun q j _=>by
          have:=hfr (q++[j]);simpa[Gh.lend]using this)
         unfold Oper.wp;rw[hrun,Oper.upon_enter];refine hcalls.mono fun e w' ⟨u,g',he,hp⟩=> ?_
         subst he;obtain⟨g2,c2,b2,s2,e2,v2⟩:=qEf hcore rfl hl1 hl2.1 (fun a ha=>List.all_eq_true.1 hl2.2 a ha) hp th;cases th with
         |false=>
          simp only[if_false,Bool.false_eq_true]at c2 s2 v2 hv;subst hv;exact hK g2 w' u (by rw[qiB,qdr];exact c2) b2 (by rw[qdr];exact s2.weaken (fun x ⟨q,j,_,hx⟩=>⟨q++[j],by simp[hx]⟩)) (qbX (s:={s with A:=_}) (hr.mono fid e2) v2 hd)
         |true=>
          simp only[if_true]at c2 s2 v2 hv;subst hv;exact hK g2 w' u (by rw[qiB,qdr];exact c2) b2 (by rw[qdr];exact s2.weaken (fun x ⟨q,j,_,hx⟩=>⟨q++[j],by simp[hx]⟩)) (qbX (s:={s with B:=_}) (hr.mono fid e2) v2 hd)
        ·simp at hv
       ·simp at hv
      ·simp at hv
    ·simp at hv
   |_=>simp[qa4]at hok
  |_=>simp[qa4]at hok
 |_=>
  simp only[qbv]at hv;obtain⟨v,h1,h2⟩:=ya_.1 hv;exact pure v h1 h2.symm
end Go.Proofs.YtbcbkiaineacpaaGreat.VS
namespace Go.Proofs.YtbcbkiaineacpaaGreat.VS
inductive Eff where
 |none
 |box (b:Nat) (x:Option (List AV))
 |ids (X:Ids)
 |app (new a:Id)
def Eff.on(e:Eff)(s:St):St:=
 match e with
 | .none=>s
 | .box b x=>{s with B:=s.B.set b x}
 | .ids X=>{s with A:=Ids.or X s.A}
 | .app new a=>{s with A:=Ids.add new (Ids.del a s.A)}
def qVC(A:Ids)(new:Id)(sz bytes:Nat)(x y:DV):Option (AV×Eff):=
 match x,y with
 | .sl g xs,.sl _ ys=>
  if ys.all (fun e=>e.cells.length=sz/\e.cells.all DV.isCell)then
   if ys.isEmpty then some (.d (.sl g xs),.none)
   else if(xs.length+ys.length)*bytes<=140737488355328 then
    match g with
    | .nil=>some (.d (.sl (.own new sz) ys),.ids (fun x=>decide (x=new)))
    | .own a sz'=>if xs.isEmpty then some (.d (.sl (.own new sz) ys),.ids (fun x=>decide (x=new)))else if sz'=sz/\A a=true then some (.d (.sl (.own new sz) (xs++ys)),.app new a)else none
    | .sub=>none
   else none
  else none
 |_,_=>none
def evD(call:qaz)(p:Id)(L0 i:Nat)(op:VOp)(c:Nat)(r:List (Nat×AV))(B:qal)(A:Ids):Option (AV×Eff):=
 match op with
 | .alloc k zero=>if qcB B (L0+k)/\zero.all DV.isCell then some (.ptr (L0+k) 0,.box (L0+k) (some (zero.map .d)))else none
 | .box k x=>(x.get r).bind fun v=>if qcB B (L0+k)/\v.cells.all AV.isCell/\v.safe (L0+k)then some (.ptr (L0+k) 0,.box (L0+k) (some v.cells))else none
 | .load agg sz a=>
  match a.get r with
  |some (.ep cs)=>(cut agg sz cs).map fun v=>(.d v,.none)
  |some (.ptr b off)=>if L0<=b then none else(qak B agg sz b off).map fun v=>(v,.none)
  |_=>none
 | .store true sz a x=>
  match a.get r,x.get r with
  |some (.ptr b off),some v=>
   if b<L0 then none
   else(qcu B b).bind fun cs=>if v.cells.length=sz/\off+sz<=cs.length/\v.cells.all AV.isCell/\v.safe b then some (.und,.box b (some (splice cs off v.cells)))else none
  |_,_=>none
 | .buildSlice sz zero len parts=>
  if zero.cells.length=sz/\zero.cells.all DV.isCell/\len*sz<=16777216/\len<=16777216 then
   (qaX (VX.get r) sz (List.replicate len zero) parts).map fun xs=>(.d (.sl (.own ((c+i)::p) sz) xs),.ids (fun x=>decide (x=(c+i)::p)))
  else none
 | .append sz bytes x y=>
  match x.get r,y.get r with
  |some (.d v),some (.d w)=>qVC A ((c+i)::p) sz bytes v w
  |_,_=>none
 | .call true f args=>
  match f.get r,qgE r args with
  |some (.fn k caps),some vs=>
   match qaG vs,caps with
   |some _,[]=>
    match call ((c+i)::p) k vs [] Ids.none with
    |some {v:= .d v,A:=A',B:=_}=>some (.d v,.ids A')
    |_=>none
   |_,_=>none
  |_,_=>none
 |op=>(evP r op).map fun v=>(v,.none)
theorem qI2(call:qaz)(p:Id)(L0 i:Nat)(o:VOper)(s:St)(hk:o.op.kind≠.eff):qbv call p true L0 i o s=(evD call p L0 i o.op s.c s.r s.B s.A).map fun q=>(q.2.on s).put o.dst q.1:=by
 obtain⟨dst,op,gd,af⟩:=o;cases op with
 |storeN sz a x av=>exact absurd rfl hk
 |alloc k z=>
  simp only[qbv,evD];split<;>rfl
 |box k x=>
  simp only[qbv,evD];cases x.get s.r with
  |none=>rfl
  |some v=>simp only[Option.bind_some];split<;>rfl
 |load ag sz x=>
  simp only[qbv,evD];generalize x.get s.r=q;cases q with
  |none=>rfl
  |some v=>
   cases v with
   |ep cs=>cases h:cut ag sz cs<;>simp[h,Eff.on]
   |ptr b off=>
    by_cases hb:L0<=b
    ·simp[hb]
    ·cases h:qak s.B ag sz b off<;>simp[hb,h,Eff.on]
   |_=>rfl
 |store ini sz x y=>
  cases ini with
  |false=>simp[VOp.kind]at hk
  |true=>
   simp only[qbv,evD];generalize x.get s.r=q;generalize y.get s.r=q';cases q with
   |none=>rfl
   |some a=>
    cases a with
    |ptr b off=>
     cases q' with
     |none=>rfl
     |some v=>
      simp only[qbJ,Bool.true_and,if_true,decide_eq_true_eq];split
      ·rfl
      ·unfold qdi
       cases qcu s.B b with
       |none=>rfl
       |some cs=>
        simp only[Option.bind_some];split<;>rfl
    |_=>rfl
 |buildSlice sz z n ps=>
  simp only[qbv,evD];split
  ·cases qaX (VX.get s.r) sz (List.replicate n z) ps<;>rfl
  ·rfl
 |makeSlice k sz by' z x=>simp[VOp.kind]at hk
 |callT th f args=>simp[VOp.kind]at hk
 |allocE z=>simp[VOp.kind]at hk
 |append sz by' x y=>
  simp only[qbv,evD];generalize x.get s.r=q;generalize y.get s.r=q';have key:∀(v w:DV),(qdV s ((s.c+i)::p) sz by' v w).map (fun x=>x.2.put dst x.1)=(qVC s.A ((s.c+i)::p) sz by' v w).map fun q=>(q.2.on s).put dst q.1:=by
   intro v w;unfold qdV qVC;cases v with
   |sl g xs=>
    cases w with
    |sl g' ys=>
     simp only;split
     ·split
      ·rfl
      ·split
       ·cases g with
        |nil=>rfl
        |sub=>rfl
        |own a sz'=>simp only;split<;>first|rfl|(split<;>rfl)
       ·rfl
     ·rfl
    |_=>rfl
   |_=>rfl
  cases q with
  |none=>rfl
  |some a=>
   cases q' with
   |none=>cases a<;>rfl
   |some b=>
    cases a with
    |d v=>
     cases b with
     |d w=>exact key v w
     |_=>rfl
    |_=>rfl
 |call iso f args=>
  cases iso with
  |false=>simp[VOp.kind]at hk
  |true=>
   simp only[qbv,evD,if_true];generalize f.get s.r=q;generalize qgE s.r args=q';cases q with
   |none=>rfl
   |some a=>
    cases a with
    |fn k caps=>
     cases q' with
     |none=>rfl
     |some vs=>
      simp only;generalize qaG vs=d;cases d with
      |none=>rfl
      |some ds=>
       cases caps with
       |cons _ _=>rfl
       |nil=>
        simp only;generalize call ((s.c+i)::p) k vs [] Ids.none=rr;cases rr with
        |none=>rfl
        |some res=>
         obtain⟨v,A,B⟩:=res;cases v<;>rfl
    |_=>rfl
 |_=>
  simp only[qbv,evD];generalize evP s.r _=q;cases q<;>rfl
def agree(r r':List (Nat×AV))(l:List Nat):Prop:=∀t,t∈l->lk r t=lk r' t
theorem qar{r r':List (Nat×AV)}{x:VX}(h:agree r r' x.tmps):x.get r=x.get r':=by
 cases x with
 |t n=>exact h n (by simp[VX.tmps])
 |c v=>rfl
theorem qaJ{r r':List (Nat×AV)}{l l':List Nat}(h:agree r r' (l++l')):agree r r' l:=fun t ht=>h t (List.mem_append_left _ ht)
theorem qaD{r r':List (Nat×AV)}{l l':List Nat}(h:agree r r' (l++l')):agree r r' l':=fun t ht=>h t (List.mem_append_right _ ht)
theorem qeJ{r r':List (Nat×AV)}:∀{xs:List VX},agree r r' (xs.flatMap VX.tmps)->qgE r xs=qgE r' xs
 | [],_=>rfl
 |x::xs,h=>by
  simp only[List.flatMap_cons]at h;simp only[qgE,qar (qaJ h),qeJ (qaD h)]
theorem qfO{r r':List (Nat×AV)}:∀{ps:List (Nat×Nat×VX)} {cs:List DV},agree r r' (ps.flatMap fun q=>q.2.2.tmps)->qaI (VX.get r) cs ps=qaI (VX.get r') cs ps
 | [],_,_=>rfl
 |(off,sz,x)::ps,cs,h=>by
  simp only[List.flatMap_cons]at h;simp only[qaI,qar (qaJ h)];split
  ·split
   ·exact qfO (qaD h)
   ·rfl
  ·rfl
theorem qgG{r r':List (Nat×AV)}{sz:Nat}:∀{ps:List (Nat×VX)} {cs:List DV},agree r r' (ps.flatMap fun q=>q.2.tmps)->qaX (VX.get r) sz cs ps=qaX (VX.get r') sz cs ps
 | [],_,_=>rfl
 |(i,x)::ps,cs,h=>by
  simp only[List.flatMap_cons]at h;simp only[qaX,qar (qaJ h)];split
  ·split
   ·exact qgG (qaD h)
   ·rfl
  ·rfl
theorem qne{r r':List (Nat×AV)}{x:Option VX}(h:agree r r' (x.toList.flatMap VX.tmps)):qhO r x=qhO r' x:=by
 cases x with
 |none=>rfl
 |some x=>simp only[Option.toList_some,List.flatMap_cons,List.flatMap_nil,List.append_nil]at h;simp only[qhO,qar h]
theorem qES{r r':List (Nat×AV)}{op:VOp}(h:agree r r' op.tmps):evP r op=evP r' op:=by
 cases op with
 |move x=>simp only[VOp.tmps]at h;simp only[evP,qar h]
 |pick c a b=>simp only[VOp.tmps]at h;simp only[evP,qar (qaJ (qaJ h)),qar (qaD (qaJ h)),qar (qaD h)]
 |build z ps=>simp only[VOp.tmps]at h;simp only[evP,qfO h]
 |nilCheck x=>simp only[VOp.tmps]at h;simp only[evP,qar h]
 |bin b x y=>simp only[VOp.tmps]at h;simp only[evP,qar (qaJ h),qar (qaD h)]
 |eqAgg n k x y=>simp only[VOp.tmps]at h;simp only[evP,qar (qaJ h),qar (qaD h)]
 |eqB n x y=>simp only[VOp.tmps]at h;simp only[evP,qar (qaJ h),qar (qaD h)]
 |not x=>simp only[VOp.tmps]at h;simp only[evP,qar h]
 |conv c x=>simp only[VOp.tmps]at h;cases c<;>simp only[evP,qar h]
 |index x y=>simp only[VOp.tmps]at h;simp only[evP,qar (qaJ h),qar (qaD h)]
 |indexAddr sz arr x y=>simp only[VOp.tmps]at h;cases arr<;>simp only[evP,qar (qaJ h),qar (qaD h)]
 |fieldAddr o x=>simp only[VOp.tmps]at h;simp only[evP,qar h]
 |slice s sz x lo hi=>
  simp only[VOp.tmps,List.flatMap_append]at h;cases s<;>simp only[evP,qar (qaJ h),qne (qaJ (qaD h)),qne (qaD (qaD h))]
 |makeFunc f cs=>simp only[VOp.tmps]at h;simp only[evP,qeJ h]
 |extract x i=>simp only[VOp.tmps]at h;simp only[evP,qar h]
 |len s x=>simp only[VOp.tmps]at h;cases s<;>simp only[evP,qar h]
 |_=>simp only[evP]
theorem qlH{call:qaz}{p:Id}{L0 i c:Nat}{r r':List (Nat×AV)}{op:VOp}{B:qal}{A:Ids}(h:agree r r' op.tmps):evD call p L0 i op c r B A=evD call p L0 i op c r' B A:=by
 cases op with
 |alloc k z=>rfl
 |box k x=>simp only[VOp.tmps]at h;simp only[evD,qar h]
 |load ag sz x=>simp only[VOp.tmps]at h;simp only[evD,qar h]
 |store ini sz x y=>
  simp only[VOp.tmps]at h;cases ini
  ·simp only[evD,evP]
  ·simp only[evD,qar (qaJ h),qar (qaD h)]
 |buildSlice sz z n ps=>simp only[VOp.tmps]at h;simp only[evD,qgG h]
 |makeSlice k sz by' z x=>simp only[evD,evP]
 |callT th f args=>simp only[evD,evP]
 |allocE z=>simp only[evD,evP]
 |append sz by' x y=>simp only[VOp.tmps]at h;simp only[evD,qar (qaJ h),qar (qaD h)]
 |call iso f args=>
  simp only[VOp.tmps]at h;cases iso
  ·simp only[evD,evP]
  ·simp only[evD,qar (qaJ h),qeJ (qaD h)]
 |_=>simp only[evD,qES h]
def Eff.B(e:Eff)(B:qal):qal:=
 match e with
 | .box b x=>B.set b x
 |_=>B
def Eff.A(e:Eff)(A:Ids):Ids:=
 match e with
 | .ids X=>Ids.or X A
 | .app new a=>Ids.add new (Ids.del a A)
 |_=>A
theorem Eff.qX7(e:Eff)(s:St):e.on s={s with B:=e.B s.B,A:=e.A s.A}:=by cases e<;>rfl
def evE(call:qaz)(p:Id)(L0 i:Nat)(op:VOp)(c:Nat)(r:List (Nat×AV))(B:qal)(A:Ids):Option (AV×qal×Ids):=
 match op with
 | .store false sz a x=>
  match a.get r,x.get r with
  |some (.ptr b off),some v=>
   if L0<=b then none
   else(qcu B b).bind fun cs=>if v.cells.length=sz/\off+sz<=cs.length/\v.cells.all AV.isCell/\v.safe b then some (.und,B.set b (some (splice cs off v.cells)),A)else none
  |_,_=>none
 | .storeN sz a x av=>
  match a.get r,x.get r with
  |some (.ptr b off),some v=>
   if L0<=b\/qcP r b av=false then none
   else(qcu B b).bind fun cs=>if v.cells.length=sz/\off+sz<=cs.length/\v.cells.all AV.isCell/\v.safe b then some (.und,B.set b (some (splice cs off v.cells)),A)else none
  |_,_=>none
 | .call false f args=>
  match f.get r,qgE r args with
  |some (.fn k caps),some vs=>
   match call ((c+i)::p) k (vs++caps) B A with
   |some {v,A:=A',B:=B'}=>some (v,B',A')
   |none=>none
  |_,_=>none
 | .makeSlice _ _ _ _ _=>none
 | .callT false f args=>
  match f.get r,qgE r args with
  |some (.fn k []),some vs=>
   (qiK (AV.frz B) vs).bind fun ds=>
    match call ((c+i)::p) k (ds.map .d) [] Ids.none with
    |some {v:= .d v,A:=A1,B:=_}=>(v.namesT).bind fun l=>if l.Nodup/\l.all A1=true then some (.d v,B,Ids.or A1 A)else none
    |_=>none
  |_,_=>none
 | .callT true _ _=>none
 |op=>(evD call p L0 i op c r B A).map fun q=>(q.1,q.2.B B,q.2.A A)
theorem qoY(call:qaz)(p:Id)(L0 i:Nat)(o:VOper)(s:St):
 qbv call p true L0 i o s=(evE call p L0 i o.op s.c s.r s.B s.A).map fun q=>St.put ⟨s.r,q.2.1,q.2.2,s.c⟩ o.dst q.1:=by
 have main:o.op.kind≠.eff->(∀sz a x,o.op≠.store false sz a x)->(∀f as,o.op≠.call false f as)->(∀k sz b z x,o.op≠.makeSlice k sz b z x)->
  qbv call p true L0 i o s=(evE call p L0 i o.op s.c s.r s.B s.A).map fun q=>St.put ⟨s.r,q.2.1,q.2.2,s.c⟩ o.dst q.1:=by
  intro h1 h2 h3 h4;rw[qI2 call p L0 i o s h1];have:evE call p L0 i o.op s.c s.r s.B s.A=(evD call p L0 i o.op s.c s.r s.B s.A).map fun q=>(q.1,q.2.B s.B,q.2.A s.A):=by
   unfold evE;split<;>first
    |rfl
    |(rename_i h;first|exact absurd h (h2 _ _ _)|exact absurd h (h3 _ _)|exact absurd h (h4 _ _ _ _ _)|(rw[h]at h1;exact absurd rfl h1))
  rw[this];cases evD call p L0 i o.op s.c s.r s.B s.A with
  |none=>rfl
  |some q=>simp[Eff.qX7]
 obtain⟨dst,op,gd,af⟩:=o;cases op with
 |storeN sz x y av=>
  simp only[qbv,evE];generalize x.get s.r=q;generalize y.get s.r=q';cases q with
  |none=>rfl
  |some a=>
   cases a with
   |ptr b off=>
    cases q' with
    |none=>rfl
    |some v=>
     by_cases hc:L0<=b\/qcP s.r b av=false
     ·have hc2:(qbJ true false L0 b|| !qcP s.r b av)=true:=by
       simp only[qbJ,Bool.true_and,Bool.false_eq_true,if_false,Bool.or_eq_true,decide_eq_true_eq,Bool.not_eq_true'];exact hc
      simp only;rw[if_pos hc,if_pos hc2];rfl
     ·have hc2:¬(qbJ true false L0 b|| !qcP s.r b av)=true:=by
       simp only[qbJ,Bool.true_and,Bool.false_eq_true,if_false,Bool.or_eq_true,decide_eq_true_eq,Bool.not_eq_true'];exact hc
      simp only;rw[if_neg hc,if_neg hc2];unfold qdi;cases qcu s.B b with
      |none=>rfl
      |some cs=>
       simp only[Option.bind_some];split<;>rfl
   |_=>rfl
 |store ini sz x y=>
  cases ini with
  |true=>exact main (by simp[VOp.kind]) (by simp) (by simp) (by simp)
  |false=>
   simp only[qbv,evE];generalize x.get s.r=q;generalize y.get s.r=q';cases q with
   |none=>rfl
   |some a=>
    cases a with
    |ptr b off=>
     cases q' with
     |none=>rfl
     |some v=>
      simp only[qbJ,Bool.true_and,Bool.false_eq_true,if_false,decide_eq_true_eq];split
      ·rfl
      ·unfold qdi
       cases qcu s.B b with
       |none=>rfl
       |some cs=>
        simp only[Option.bind_some];split<;>rfl
    |_=>rfl
 |call iso f args=>
  cases iso with
  |true=>exact main (by simp[VOp.kind]) (by simp) (by simp) (by simp)
  |false=>
   simp only[qbv,evE,Bool.false_eq_true,if_false];generalize f.get s.r=q;generalize qgE s.r args=q';cases q with
   |none=>rfl
   |some a=>
    cases a with
    |fn k caps=>
     cases q' with
     |none=>rfl
     |some vs=>
      simp only;generalize call ((s.c+i)::p) k (vs++caps) s.B s.A=rr;cases rr<;>rfl
    |_=>rfl
 |makeSlice k sz b z x=>
  simp only[qbv,evE];generalize x.get s.r=q;cases q with
  |none=>rfl
  |some a=>
   cases a with
   |d v=>cases v<;>simp
   |_=>rfl
 |allocE z=>simp[qbv,evE,evD,evP]
 |callT th f args=>
  cases th with
  |true=>
   simp only[qbv,evE];generalize f.get s.r=q;generalize qgE s.r args=q';cases q with
   |none=>rfl
   |some a=>
    cases a with
    |fn k caps=>
     cases q' with
     |none=>cases caps<;>rfl
     |some vs=>cases caps<;>simp
    |_=>rfl
  |false=>
   simp only[qbv,evE];generalize f.get s.r=q;generalize qgE s.r args=q';cases q with
   |none=>rfl
   |some a=>
    cases a with
    |fn k caps=>
     cases q' with
     |none=>cases caps<;>rfl
     |some vs=>
      cases caps with
      |cons _ _=>rfl
      |nil=>
       simp only[or_true,if_true];generalize qiK (AV.frz s.B) vs=dd;cases dd with
       |none=>rfl
       |some ds=>
        simp only[Option.bind_some];generalize call ((s.c+i)::p) k (ds.map .d) [] Ids.none=rr;cases rr with
        |none=>rfl
        |some res=>
         obtain⟨v,A,B⟩:=res;cases v with
         |d v=>
          simp only[qGa];cases v.namesT with
          |none=>rfl
          |some l=>
           simp only[Option.bind_some];split<;>rfl
         |_=>rfl
    |_=>rfl
 |_=>exact main (by simp[VOp.kind]) (by simp) (by simp) (by simp)
theorem qgd{call:qaz}{p:Id}{L0 i c:Nat}{r r':List (Nat×AV)}{op:VOp}{B:qal}{A:Ids}(h:agree r r' op.tmps):evE call p L0 i op c r B A=evE call p L0 i op c r' B A:=by
 cases op with
 |store ini sz x y=>
  cases ini
  ·simp only[VOp.tmps]at h;simp only[evE,qar (qaJ h),qar (qaD h)]
  ·simp only[evE,qlH h]
 |call iso f args=>
  cases iso
  ·simp only[VOp.tmps]at h;simp only[evE,qar (qaJ h),qeJ (qaD h)]
  ·simp only[evE,qlH h]
 |storeN sz x y av=>
  simp only[VOp.tmps]at h;have h1:=qaJ (qaJ h);have h2:=qaD (qaJ h);have h3:∀b,qcP r b av=qcP r' b av:=fun b=>by
   unfold qcP;rw[Bool.eq_iff_iff,List.all_eq_true,List.all_eq_true];exact forall_congr' fun t=>forall_congr' fun ht=>by rw[qaD h t ht]
  simp only[evE,qar h1,qar h2,h3]
 |makeSlice k sz b z x=>rfl
 |callT th f args=>
  cases th
  ·simp only[VOp.tmps]at h;simp only[evE,qar (qaJ h),qeJ (qaD h)]
  ·rfl
 |_=>simp only[evE,qlH h]
theorem qwR{call:qaz}{p:Id}{L0 i c:Nat}{op:VOp}(hk:op.kind= .pure)(r:List (Nat×AV))(B:qal)(A:Ids):evE call p L0 i op c r B A=(evP r op).map fun v=>(v,B,A):=by
 cases op with
 |store ini sz x y=>cases ini<;>simp[VOp.kind]at hk
 |call iso f args=>cases iso<;>simp[VOp.kind]at hk
 |load ag sz x=>simp[VOp.kind]at hk
 |alloc k z=>simp[VOp.kind]at hk
 |box k x=>simp[VOp.kind]at hk
 |buildSlice sz z n ps=>simp[VOp.kind]at hk
 |append sz b x y=>simp[VOp.kind]at hk
 |makeSlice k sz b z x=>simp[VOp.kind]at hk
 |callT th f args=>simp[VOp.kind]at hk
 |allocE z=>simp[VOp.kind]at hk
 |storeN sz a x av=>simp[VOp.kind]at hk
 |_=>
  simp only[evE,evD];generalize evP r _=q;cases q<;>rfl
theorem qow{call:qaz}{p:Id}{L0 i c:Nat}{op:VOp}(hk:op.kind≠.eff)(r:List (Nat×AV))(B:qal)(A:Ids):
 evE call p L0 i op c r B A=(evD call p L0 i op c r B A).map fun q=>(q.1,q.2.B B,q.2.A A):=by
 cases op with
 |store ini sz x y=>cases ini;simp[VOp.kind]at hk;rfl
 |call iso f args=>cases iso;simp[VOp.kind]at hk;rfl
 |makeSlice k sz b z x=>simp[VOp.kind]at hk
 |callT th f args=>simp[VOp.kind]at hk
 |allocE z=>simp[VOp.kind]at hk
 |storeN sz a x av=>simp[VOp.kind]at hk
 |_=>rfl
theorem qej{call:qaz}{p:Id}{L0 i c:Nat}{op:VOp}(hk:op.kind= .row\/op.kind= .iso)(r:List (Nat×AV))(B B':qal)(A A':Ids):
 evD call p L0 i op c r B A=evD call p L0 i op c r B' A'/\∀v e,evD call p L0 i op c r B A=some (v,e)->∃X,e= .ids X:=by
 cases op with
 |buildSlice sz z n ps=>
  refine⟨rfl,fun v e h=> ?_⟩;simp only[evD]at h;split at h
  ·obtain⟨xs,_,h⟩:=ya_.1 h
   simp at h;exact⟨_,h.2.symm⟩
  ·simp at h
 |call iso f args=>
  cases iso with
  |false=>simp[VOp.kind]at hk
  |true=>
   refine⟨rfl,fun v e h=> ?_⟩;simp only[evD]at h;split at h
   ·split at h
    ·split at h
     ·simp at h;exact⟨_,h.2.symm⟩
     ·simp at h
    ·simp at h
   ·simp at h
 |store ini sz x y=>cases ini<;>simp[VOp.kind]at hk
 |_=>simp[VOp.kind]at hk
theorem qVp{call:qaz}{p:Id}{L0 i c:Nat}{op:VOp}(hk:op.kind= .app)(r:List (Nat×AV))(B B':qal)(A:Ids):
 evD call p L0 i op c r B A=evD call p L0 i op c r B' A/\∀v e,evD call p L0 i op c r B A=some (v,e)->∀B,e.B B=B:=by
 cases op with
 |append sz by' x y=>
  refine⟨rfl,fun v e h=> ?_⟩;simp only[evD]at h;split at h
  ·unfold qVC at h
   split at h
   ·split at h
    ·split at h
     ·simp at h;rw[<-h.2];intro B;rfl
     ·split at h
      ·split at h
       ·simp at h;rw[<-h.2];intro B;rfl
       ·split at h
        ·simp at h;rw[<-h.2];intro B;rfl
        ·split at h
         ·simp at h;rw[<-h.2];intro B;rfl
         ·simp at h
       ·simp at h
      ·simp at h
    ·simp at h
   ·simp at h
  ·simp at h
 |store ini sz x y=>cases ini<;>simp[VOp.kind]at hk
 |call iso f args=>cases iso<;>simp[VOp.kind]at hk
 |_=>simp[VOp.kind]at hk
theorem qhi{call:qaz}{p:Id}{L0 i c:Nat}{op:VOp}(hk:op.kind= .read)(r:List (Nat×AV))(B B':qal)(A A':Ids)(hB:∀b,b<L0->qcu B b=qcu B' b):
 evD call p L0 i op c r B A=evD call p L0 i op c r B' A'/\∀v e,evD call p L0 i op c r B A=some (v,e)->e= .none:=by
 cases op with
 |load ag sz x=>
  constructor
  ·simp only[evD]
   split
   ·rfl
   ·split
    ·rfl
    ·rename_i hb
     unfold qak;rw[hB _ (by omega)]
   ·rfl
  ·intro v e h
   simp only[evD]at h;split at h
   ·obtain⟨xs,_,h⟩:=ya_.1 h
    simp at h;exact h.2.symm
   ·split at h
    ·simp at h
    ·obtain⟨xs,_,h⟩:=ya_.1 h
     simp at h;exact h.2.symm
   ·simp at h
 |store ini sz x y=>cases ini<;>simp[VOp.kind]at hk
 |call iso f args=>cases iso<;>simp[VOp.kind]at hk
 |_=>simp[VOp.kind]at hk
theorem quP{call:qaz}{p:Id}{L0 i c:Nat}{op:VOp}(hk:op.kind= .room)(r:List (Nat×AV))(B:qal)(A:Ids){v:AV}{e:Eff}(h:evD call p L0 i op c r B A=some (v,e)):
 ∃b x,L0<=b/\e= .box b (some x)/\qcB B b=true/\∀B' A',qcB B' b=true->evD call p L0 i op c r B' A'=some (v,e):=by
 cases op with
 |alloc k z=>
  simp only[evD]at h;split at h
  ·rename_i hc
   simp at h;obtain⟨rfl,rfl⟩:=h;refine⟨_,_,Nat.le_add_right _ _,rfl,hc.1,fun B' A' hf=> ?_⟩;simp only[evD];rw[if_pos ⟨hf,hc.2⟩]
  ·simp at h
 |box k x=>
  simp only[evD]at h;obtain⟨v',hx,h⟩:=yb_.1 h;split at h
  ·rename_i hc
   simp at h;obtain⟨rfl,rfl⟩:=h;refine⟨_,_,Nat.le_add_right _ _,rfl,hc.1,fun B' A' hf=> ?_⟩;simp only[evD,hx,Option.bind_some];rw[if_pos ⟨hf,hc.2⟩]
  ·simp at h
 |store ini sz x y=>cases ini<;>simp[VOp.kind]at hk
 |call iso f args=>cases iso<;>simp[VOp.kind]at hk
 |_=>simp[VOp.kind]at hk
theorem qEv{call:qaz}{p:Id}{L0 i c:Nat}{op:VOp}(hk:op.kind= .init)(r:List (Nat×AV))(B:qal)(A:Ids){v:AV}{e:Eff}(h:evD call p L0 i op c r B A=some (v,e)):
 ∃b x,L0<=b/\e= .box b (some x)/\∀B' A',qcu B' b=qcu B b->evD call p L0 i op c r B' A'=some (v,e):=by
 cases op with
 |store ini sz x y=>
  cases ini with
  |false=>simp[VOp.kind]at hk
  |true=>
   simp only[evD]at h;split at h
   ·rename_i b off v' h1 h2
    split at h
    ·simp at h
    ·rename_i hb
     obtain⟨cs,hcs,h⟩:=yb_.1 h;split at h
     ·rename_i hc
      simp at h;obtain⟨rfl,rfl⟩:=h;refine⟨_,_,by omega,rfl,fun B' A' hf=> ?_⟩;simp only[evD,h1,h2];rw[if_neg hb,hf,hcs];simp only[Option.bind_some];rw[if_pos hc]
     ·simp at h
   ·simp at h
 |call iso f args=>cases iso<;>simp[VOp.kind]at hk
 |_=>simp[VOp.kind]at hk
theorem qdd{B:qal}{b b':Nat}{x:Option (List AV)}(h:b≠b'):qcu (B.set b x) b'=qcu B b':=by
 simp only[qcu,List.getElem?_set_ne h]
theorem qjw{B:qal}{b b':Nat}{x:Option (List AV)}(h:b≠b'):qcB (B.set b x) b'=qcB B b':=by
 simp only[qcB,List.getElem?_set_ne h]
theorem qrz{B:qal}{b:Nat}{x:List AV}:qcB (B.set b (some x)) b=false:=by
 unfold qcB
 by_cases h:b<B.length
 ·simp[h]
 ·rw[List.set_eq_of_length_le (by omega),List.getElem?_eq_none (by omega)]
theorem qUa{call:qaz}{p:Id}{L0 i j c:Nat}{oi oj:VOp}(hm:oj.kind.meet oi.kind=true)(r:List (Nat×AV))(B:qal)(A:Ids){vj vi:AV}{Bj Bij:qal}{Aj Aij:Ids}
 (h1:evE call p L0 j oj c r B A=some (vj,Bj,Aj)) (h2:evE call p L0 i oi c r Bj Aj=some (vi,Bij,Aij)):
 ∃Bi Ai,evE call p L0 i oi c r B A=some (vi,Bi,Ai)/\evE call p L0 j oj c r Bi Ai=some (vj,Bij,Aij):=by
 by_cases hpj:oj.kind= .pure
 ·rw[qwR hpj]at h1
  obtain⟨v,hv,h1⟩:=ya_.1 h1;simp at h1;obtain⟨rfl,rfl,rfl⟩:=h1;exact⟨Bij,Aij,h2,by rw[qwR hpj,hv];rfl⟩
 by_cases hpi:oi.kind= .pure
 ·rw[qwR hpi]at h2
  obtain⟨v,hv,h2⟩:=ya_.1 h2;simp at h2;obtain⟨rfl,rfl,rfl⟩:=h2;exact⟨B,A,by rw[qwR hpi,hv];rfl,h1⟩
 have hej:oj.kind≠.eff:=by
  intro h;rw[h]at hm
  revert hm hpi;cases oi.kind<;>simp[Kind.meet]
 have hei:oi.kind≠.eff:=by
  intro h;rw[h]at hm
  revert hm hpj;cases oj.kind<;>simp[Kind.meet]
 rw[qow hej]at h1;rw[qow hei]at h2;obtain⟨⟨vj',ej⟩,d1,h1⟩:=ya_.1 h1;obtain⟨⟨vi',ei⟩,d2,h2⟩:=ya_.1 h2;simp at h1 h2;obtain⟨rfl,rfl,rfl⟩:=h1;obtain⟨rfl,rfl,rfl⟩:=h2;have fin:evD call p L0 i oi c r B A=some (vi',ei)->evD call p L0 j oj c r (ei.B B) (ei.A A)=some (vj',ej)->ei.B (ej.B B)=ej.B (ei.B B)->ei.A (ej.A A)=ej.A (ei.A A)->
  ∃Bi Ai,evE call p L0 i oi c r B A=some (vi',Bi,Ai)/\evE call p L0 j oj c r Bi Ai=some (vj',ei.B (ej.B B),ei.A (ej.A A)):=by
  intro e1 e2 e3 e4;refine⟨ei.B B,ei.A A,?_,?_⟩
  ·rw[qow hei,e1];rfl
  ·rw[qow hej,e2,e3,e4];rfl
 have nobox:∀{k:Nat} {op:VOp} (B:qal) (A:Ids) {v e},(op.kind= .row\/op.kind= .iso\/op.kind= .app)->evD call p L0 k op c r B A=some (v,e)->(∀B',evD call p L0 k op c r B' A=some (v,e))/\∀B',e.B B'=B':=by
  intro k op B A v e hk hd;rcases hk with hk|hk|hk
  ·obtain⟨_,h⟩:=qej (call:=call) (p:=p) (L0:=L0) (i:=k) (c:=c) (.inl hk) r B B A A
   obtain⟨X,rfl⟩:=h v e hd;exact⟨fun B'=>by rw[<-hd];exact(qej (.inl hk) r B' B A A).1,fun _=>rfl⟩
  ·obtain⟨_,h⟩:=qej (call:=call) (p:=p) (L0:=L0) (i:=k) (c:=c) (.inr hk) r B B A A
   obtain⟨X,rfl⟩:=h v e hd;exact⟨fun B'=>by rw[<-hd];exact(qej (.inr hk) r B' B A A).1,fun _=>rfl⟩
  ·exact⟨fun B'=>by rw[<-hd];exact(qVp hk r B' B A).1,(qVp hk r B B A).2 v e hd⟩
 have noids:∀{k:Nat} {op:VOp} (B:qal) (A:Ids) {v e},(op.kind= .read\/op.kind= .room\/op.kind= .init)->evD call p L0 k op c r B A=some (v,e)->(∀A',evD call p L0 k op c r B A'=some (v,e))/\∀A',e.A A'=A':=by
  intro k op B A v e hk hd;rcases hk with hk|hk|hk
  ·have h:=(qhi (call:=call) (p:=p) (L0:=L0) (i:=k) (c:=c) hk r B B A A (fun _ _=>rfl)).2 v e hd
   subst h;exact⟨fun A'=>by rw[<-hd];exact(qhi hk r B B A' A (fun _ _=>rfl)).1,fun _=>rfl⟩
  ·obtain⟨b,x,_,rfl,hf,h⟩:=quP hk r B A hd
   exact⟨fun A'=>h B A' hf,fun _=>rfl⟩
  ·obtain⟨b,x,_,rfl,h⟩:=qEv hk r B A hd
   exact⟨fun A'=>h B A' rfl,fun _=>rfl⟩
 have split3:∀k:Kind,k≠.pure->k≠.eff->(k= .row\/k= .iso\/k= .app)\/(k= .read\/k= .room\/k= .init):=by
  intro k h1 h2;cases k<;>simp_all
 rcases split3 oj.kind hpj hej with kj|kj<;>rcases split3 oi.kind hpi hei with ki|ki
 ·
  obtain⟨a1,a2⟩:=nobox B A kj d1;obtain⟨b1,b2⟩:=nobox (ej.B B) (ej.A A) ki d2;have ri:oi.kind= .row\/oi.kind= .iso:=by
   rcases kj with h|h|h<;>rcases ki with h'|h'|h'<;>rw[h,h']at hm<;>simp_all[Kind.meet]
  have rj:oj.kind= .row\/oj.kind= .iso:=by
   rcases kj with h|h|h<;>rcases ki with h'|h'|h'<;>rw[h,h']at hm<;>simp_all[Kind.meet]
  obtain⟨X,rfl⟩:=(qej (call:=call) (p:=p) (L0:=L0) (i:=j) (c:=c) rj r B B A A).2 _ _ d1;obtain⟨Y,rfl⟩:=(qej (call:=call) (p:=p) (L0:=L0) (i:=i) (c:=c) ri r _ B _ A).2 _ _ d2;refine fin (by rw[<-d2];exact(qej ri r _ _ _ _).1) (by rw[<-d1];exact(qej rj r _ _ _ _).1) rfl ?_
  funext x
  simp only[Eff.A,Ids.or];cases Y x<;>cases X x<;>simp
 ·
  obtain⟨a1,a2⟩:=nobox B A kj d1;obtain⟨b1,b2⟩:=noids (ej.B B) (ej.A A) ki d2;rw[a2]at b1;refine fin (b1 A) (by rw[b2];exact a1 _) (by rw[a2,a2]) (by rw[b2,b2])
 ·
  obtain⟨a1,a2⟩:=noids B A kj d1;obtain⟨b1,b2⟩:=nobox (ej.B B) (ej.A A) ki d2;rw[a2]at b1;refine fin (b1 B) (by rw[b2];exact a1 _) (by rw[b2,b2]) (by rw[a2,a2])
 ·
  obtain⟨a1,a2⟩:=noids B A kj d1;obtain⟨b1,b2⟩:=noids (ej.B B) (ej.A A) ki d2;have hA:ei.A (ej.A A)=ej.A (ei.A A):=by rw[a2,b2,a2]
  have d2':=b1 A;rcases kj with kj|kj|kj
  ·
   have hn:=(qhi (call:=call) (p:=p) (L0:=L0) (i:=j) (c:=c) kj r B B A A (fun _ _=>rfl)).2 _ _ d1;subst hn;have d2'':evD call p L0 i oi c r B A=some (vi',ei):=d2';refine fin d2'' ?_ rfl hA;rw[<-d1];refine(qhi kj r _ _ _ _ (fun b hb=> ?_)).1;rcases ki with ki|ki|ki
   ·have hn:=(qhi (call:=call) (p:=p) (L0:=L0) (i:=i) (c:=c) ki r B B A A (fun _ _=>rfl)).2 _ _ d2''
    subst hn;rfl
   ·obtain⟨b',x,hb',rfl,_⟩:=quP ki r B A d2''
    exact qdd (by omega)
   ·obtain⟨b',x,hb',rfl,_⟩:=qEv ki r B A d2''
    exact qdd (by omega)
  ·obtain⟨bj,xj,hbj,rfl,hfj,hallj⟩:=quP kj r B A d1
   rcases ki with ki|ki|ki
   ·have d2'':evD call p L0 i oi c r B A=some (vi',ei):=by
     rw[<-d2'];exact(qhi ki r _ _ _ _ (fun b hb=>(qdd (by omega)).symm)).1
    have hn:=(qhi (call:=call) (p:=p) (L0:=L0) (i:=i) (c:=c) ki r B B A A (fun _ _=>rfl)).2 _ _ d2'';subst hn;exact fin d2'' (a1 _) rfl hA
   ·obtain⟨bi,xi,hbi,rfl,hfi,halli⟩:=quP ki r _ A d2'
    have hne:bj≠bi:=by
     intro h;subst h;simp only[Eff.B]at hfi;rw[qrz]at hfi;simp at hfi
    simp only[Eff.B]at hfi;rw[qjw hne]at hfi;refine fin (halli B A hfi) (hallj _ _ ?_) (List.set_comm _ _ hne) hA;simp only[Eff.B];rw[qjw (Ne.symm hne)];exact hfj
   ·rw[kj,ki]at hm;simp[Kind.meet]at hm
  ·obtain⟨bj,xj,hbj,rfl,hallj⟩:=qEv kj r B A d1
   rcases ki with ki|ki|ki
   ·have d2'':evD call p L0 i oi c r B A=some (vi',ei):=by
     rw[<-d2'];exact(qhi ki r _ _ _ _ (fun b hb=>(qdd (by omega)).symm)).1
    have hn:=(qhi (call:=call) (p:=p) (L0:=L0) (i:=i) (c:=c) ki r B B A A (fun _ _=>rfl)).2 _ _ d2'';subst hn;exact fin d2'' (a1 _) rfl hA
   ·rw[kj,ki]at hm;simp[Kind.meet]at hm
   ·rw[kj,ki]at hm;simp[Kind.meet]at hm
theorem qXM{call:qaz}{p:Id}{L0 i j c:Nat}{oi oj:VOp}(hm:qIY oj oi=true)(r:List (Nat×AV))(B:qal)(A:Ids){vj vi:AV}{Bj Bij:qal}{Aj Aij:Ids}
 (h1:evE call p L0 j oj c r B A=some (vj,Bj,Aj)) (h2:evE call p L0 i oi c r Bj Aj=some (vi,Bij,Aij)):
 ∃Bi Ai,evE call p L0 i oi c r B A=some (vi,Bi,Ai)/\evE call p L0 j oj c r Bi Ai=some (vj,Bij,Aij):=by
 have ld:∀(k ag sz x:_) (B B':qal) (A A':Ids) v Bn An,evE call p L0 k (.load ag sz (.t x)) c r B A=some (v,Bn,An)->Bn=B/\An=A/\∀B' A',(∀b off,lk r x=some (.ptr b off)->qcu B' b=qcu B b)->evE call p L0 k (.load ag sz (.t x)) c r B' A'=some (v,B',A'):=by
  intro k ag sz x B B' A A' v Bn An h;simp only[evE,evD]at h;obtain⟨q,hq,he⟩:=ya_.1 h;simp only[VX.get]at hq;split at hq
  ·rename_i cs hx
   obtain⟨u,hu,rfl⟩:=ya_.1 hq;simp only[Eff.B,Eff.A,Prod.mk.injEq]at he;obtain⟨rfl,rfl,rfl⟩:=he;refine⟨rfl,rfl,fun B' A' _=> ?_⟩;simp only[evE,evD,VX.get,hx,hu,Option.map_some,Eff.B,Eff.A]
  ·rename_i b off hx
   split at hq
   ·simp at hq
   ·rename_i hL
    obtain⟨u,hu,rfl⟩:=ya_.1 hq;simp only[Eff.B,Eff.A,Prod.mk.injEq]at he;obtain⟨rfl,rfl,rfl⟩:=he;refine⟨rfl,rfl,fun B' A' hb=> ?_⟩;have:qak B' ag sz b off=qak B ag sz b off:=by unfold qak;rw[hb b off hx]
    simp only[evE,evD,VX.get,hx,if_neg hL,this,hu,Option.map_some,Eff.B,Eff.A]
  ·simp at hq
 have st:∀(k sz a x av:_) (B:qal) (A:Ids) v Bn An,evE call p L0 k (.storeN sz a x av) c r B A=some (v,Bn,An)->An=A/\∃b cs,qcu B b=some cs/\(∀t,av.contains t=true->∀b' off,lk r t=some (.ptr b' off)->b'≠b)/\(∃cs2,Bn=B.set b (some cs2))/\∀A',evE call p L0 k (.storeN sz a x av) c r B A'=some (v,Bn,A'):=by
  intro k sz a x av B A v Bn An h;simp only[evE]at h;split at h
  ·rename_i b off w ha hx
   split at h
   ·simp at h
   ·rename_i hc
    obtain⟨cs,hb,h⟩:=yb_.1 h;split at h
    ·rename_i hc2
     simp only[Option.some.injEq,Prod.mk.injEq]at h;obtain⟨rfl,rfl,rfl⟩:=h;refine⟨rfl,b,cs,hb,fun t ht b' off' hl he=> ?_,⟨_,rfl⟩,fun A'=> ?_⟩
     ·have hf:qcP r b av=true:=by
       have:=not_or.1 hc;simpa using this.2
      unfold qcP at hf;have:=List.all_eq_true.1 hf t (by simpa using ht);rw[hl]at this;simp[he]at this
     ·simp only[evE,ha,hx,if_neg hc,hb,Option.bind_some,if_pos hc2]
    ·simp at h
  ·simp at h
 unfold qIY at hm;split at hm
 ·rename_i ag sz x sz' a y av
  obtain⟨rfl,rfl,l1⟩:=ld _ _ _ _ _ B A A _ _ _ h1;obtain⟨rfl,b,cs,hb,hav,⟨cs2,rfl⟩,_⟩:=st _ _ _ _ _ _ _ _ _ _ h2;exact⟨_,_,h2,l1 _ _ fun b' off hl=>qdd (Ne.symm (hav x hm b' off hl))⟩
 ·rename_i sz' a y av ag sz x
  obtain⟨rfl,b,cs,hb,hav,⟨cs2,rfl⟩,_⟩:=st _ _ _ _ _ _ _ _ _ _ h1;obtain⟨rfl,rfl,l1⟩:=ld _ _ _ _ _ B Aj Aj _ _ _ h2;exact⟨B,Aij,l1 _ _ fun b' off hl=>(qdd (Ne.symm (hav x hm b' off hl))).symm,h1⟩
 ·simp at hm
def qdU(call:qaz)(p:Id)(draw:Bool)(L0 i:Nat)(o:VOper)(s:St):Option St:=
 match qcI s.r o.guard with
 |some true=>qbv call p draw L0 i o s
 |some false=>some (s.put o.dst .und)
 |none=>none
theorem qre(call:qaz)(p:Id)(draw:Bool)(L0 i:Nat)(o:VOper)(os:List VOper)(s:St):
 qcQ call p draw L0 i (o::os) s=(qdU call p draw L0 i o s).bind (qcQ call p draw L0 (i+1) os):=by
 simp only[qcQ,qdU];generalize qcI s.r o.guard=q;cases q with
 |none=>rfl
 |some b=>cases b<;>rfl
def St.eqv(s s':St):Prop:=(∀t,lk s.r t=lk s'.r t)/\s.B=s'.B/\s.A=s'.A/\s.c=s'.c
theorem St.eqv.refl(s:St):s.eqv s:=⟨fun _=>rfl,rfl,rfl,rfl⟩
theorem St.eqv.trans{s s' s'':St}(h:s.eqv s')(h':s'.eqv s''):s.eqv s'':=⟨fun t=>(h.1 t).trans (h'.1 t),h.2.1.trans h'.2.1,h.2.2.1.trans h'.2.2.1,h.2.2.2.trans h'.2.2.2⟩
theorem qbT{r r':List (Nat×AV)}{gd:Option (Nat×Bool)}(h:agree r r' (match gd with|some (t,_)=>[t]|none=>[])):qcI r gd=qcI r' gd:=by
 cases gd with
 |none=>rfl
 |some q=>
  obtain⟨t,w⟩:=q;simp only[qcI,h t (by simp)]
theorem qd8(s:St)(dst:Option Nat)(v:AV)(t:Nat):lk (s.put dst v).r t=if dst=some t then some v else lk s.r t:=by
 cases dst with
 |none=>simp[St.put]
 |some d=>
  simp only[St.put,lk,Option.some.injEq]
  by_cases h:t=d
  ·simp[h]
  ·simp[h,Ne.symm h]
theorem qiA{s s':St}(h:s.eqv s')(dst:Option Nat)(v:AV):(s.put dst v).eqv (s'.put dst v):=by
 refine⟨fun t=> ?_,?_,?_,?_⟩
 ·rw[qd8,qd8,h.1 t]
 ·cases dst<;>exact h.2.1
 ·cases dst<;>exact h.2.2.1
 ·cases dst<;>exact h.2.2.2
theorem qNY{call:qaz}{p:Id}{L0 i:Nat}{o:VOper}{s s' t:St}(h:s.eqv s')(h1:qdU call p true L0 i o s=some t):∃t',qdU call p true L0 i o s'=some t'/\t.eqv t':=by
 have ha:∀l,agree s.r s'.r l:=fun l t _=>h.1 t
 unfold qdU at h1⊢
 rw[<-qbT (ha _)];split at h1
 ·rw[qoY]at h1⊢
  obtain⟨q,h2,h3⟩:=ya_.1 h1;rw[qgd (ha _),h.2.1,h.2.2.1,h.2.2.2]at h2;rw[h2];subst h3;exact⟨_,rfl,qiA (s:=⟨s.r,q.2.1,q.2.2,s.c⟩) (s':=⟨s'.r,q.2.1,q.2.2,s'.c⟩) ⟨h.1,rfl,rfl,h.2.2.2⟩ _ _⟩
 ·simp at h1;subst h1
  exact⟨_,rfl,qiA h _ _⟩
 ·simp at h1
def qFr(a b:VOper):Prop:=(a.op.kind.meet b.op.kind=true\/qIY a.op b.op=true)/\qeB a b=true/\qeB b a=true
theorem apart_spec{a b:VOper}(h:qeB a b=true):∀d,a.dst=some d->d∉b.looks/\b.dst≠some d:=by
 intro d hd;unfold qeB at h;rw[hd]at h;simp at h;exact h
theorem qdz{s:St}{dst:Option Nat}{v:AV}{l:List Nat}(h:∀d,dst=some d->d∉l):agree s.r (s.put dst v).r l:=by
 intro t ht;rw[qd8,if_neg (fun hd=>h t hd ht)]
theorem put_comm(s:St){d d':Option Nat}(v v':AV)(h:∀t,d=some t->d'≠some t):((s.put d v).put d' v').eqv ((s.put d' v').put d v):=by
 refine⟨fun t=> ?_,?_,?_,?_⟩
 ·rw[qd8,qd8,qd8,qd8]
  by_cases h1:d=some t
  ·rw[if_neg (h t h1),if_pos h1,if_pos h1]
  ·rw[if_neg h1,if_neg h1]
 ·cases d<;>cases d'<;>rfl
 ·cases d<;>cases d'<;>rfl
 ·cases d<;>cases d'<;>rfl
theorem qjP{o:VOper}{r r':List (Nat×AV)}(h:agree r r' o.looks):agree r r' o.op.tmps:=fun t ht=>h t (by unfold VOper.looks;exact List.mem_append_left _ ht)
theorem qcc{o:VOper}{r r':List (Nat×AV)}(h:agree r r' o.looks):agree r r' (match o.guard with|some (t,_)=>[t]|none=>[]):=fun t ht=>h t (by unfold VOper.looks;exact List.mem_append_right _ ht)
theorem qLF(s:St)(dst:Option Nat)(v:AV):(s.put dst v).B=s.B:=by cases dst<;>rfl
theorem qLG(s:St)(dst:Option Nat)(v:AV):(s.put dst v).A=s.A:=by cases dst<;>rfl
theorem qLA(s:St)(dst:Option Nat)(v:AV):(s.put dst v).c=s.c:=by cases dst<;>rfl
theorem qIq{call:qaz}{p:Id}{L0 i j:Nat}{oi oj:VOper}(hc:qFr oj oi){s s1 s2:St}(h1:qdU call p true L0 j oj s=some s1)(h2:qdU call p true L0 i oi s1=some s2):
 ∃s1' s2',qdU call p true L0 i oi s=some s1'/\qdU call p true L0 j oj s1'=some s2'/\s2.eqv s2':=by
 obtain⟨hm,ha,hb⟩:=hc;have A1:=apart_spec ha;have A2:=apart_spec hb;have form:∀{k:Nat} {o:VOper} {s t:St},qdU call p true L0 k o s=some t->
  (qcI s.r o.guard=some true/\∃v B A,evE call p L0 k o.op s.c s.r s.B s.A=some (v,B,A)/\t=St.put ⟨s.r,B,A,s.c⟩ o.dst v)\/(qcI s.r o.guard=some false/\t=s.put o.dst .und):=by
  intro k o s t h;unfold qdU at h;split at h
  ·rename_i hw
   rw[qoY]at h;obtain⟨⟨v,B,A⟩,h3,h4⟩:=ya_.1 h;exact .inl ⟨hw,v,B,A,h3,h4.symm⟩
  ·rename_i hw
   simp at h;exact .inr ⟨hw,h.symm⟩
  ·simp at h
 have back1:∀{k:Nat} {o:VOper} {s:St} {v B A},qcI s.r o.guard=some true->evE call p L0 k o.op s.c s.r s.B s.A=some (v,B,A)->qdU call p true L0 k o s=some (St.put ⟨s.r,B,A,s.c⟩ o.dst v):=by
  intro k o s v B A hw h;unfold qdU;rw[hw];simp only;rw[qoY,h];rfl
 have back2:∀{k:Nat} {o:VOper} {s:St},qcI s.r o.guard=some false->qdU call p true L0 k o s=some (s.put o.dst .und):=by
  intro k o s hw;unfold qdU;rw[hw]
 have dd:∀t,oj.dst=some t->oi.dst≠some t:=fun t h=>(A1 t h).2
 rcases form h1 with⟨wj,vj,Bj,Aj,ej,rfl⟩|⟨wj,rfl⟩
 ·have gi:∀v,agree s.r (St.put ⟨s.r,Bj,Aj,s.c⟩ oj.dst v).r oi.looks:=fun v=>qdz (s:=⟨s.r,Bj,Aj,s.c⟩) (fun d hd=>(A1 d hd).1)
  rcases form h2 with⟨wi,vi,Bi,Ai,ei,rfl⟩|⟨wi,rfl⟩
  ·have wi':qcI s.r oi.guard=some true:=by rw[<-wi];exact qbT (qcc (gi vj))
   have ei':evE call p L0 i oi.op s.c s.r Bj Aj=some (vi,Bi,Ai):=by
    have e:=ei;rw[<-qgd (qjP (gi vj))]at e;have hB:(St.put ⟨s.r,Bj,Aj,s.c⟩ oj.dst vj).B=Bj:=by cases oj.dst<;>rfl
    have hA:(St.put ⟨s.r,Bj,Aj,s.c⟩ oj.dst vj).A=Aj:=by cases oj.dst<;>rfl
    have hC:(St.put ⟨s.r,Bj,Aj,s.c⟩ oj.dst vj).c=s.c:=by cases oj.dst<;>rfl
    rw[hB,hA,hC]at e;exact e
   obtain⟨B',A',e1,e2⟩:∃Bi Ai,evE call p L0 i oi.op s.c s.r s.B s.A=some (vi,Bi,Ai)/\evE call p L0 j oj.op s.c s.r Bi Ai=some (vj,_,_):=by
    rcases hm with hm|hm
    ·exact qUa hm s.r s.B s.A ej ei'
    ·exact qXM hm s.r s.B s.A ej ei'
   refine⟨_,_,back1 wi' e1,back1 (v:=vj) (B:=Bi) (A:=Ai) ?_ ?_,?_⟩
   ·rw[<-wj]
    exact(qbT (qcc (qdz (s:=⟨s.r,B',A',s.c⟩) (fun d hd=>(A2 d hd).1)))).symm
   ·have hB:(St.put ⟨s.r,B',A',s.c⟩ oi.dst vi).B=B':=by cases oi.dst<;>rfl
    have hA:(St.put ⟨s.r,B',A',s.c⟩ oi.dst vi).A=A':=by cases oi.dst<;>rfl
    have hC:(St.put ⟨s.r,B',A',s.c⟩ oi.dst vi).c=s.c:=by cases oi.dst<;>rfl
    rw[hB,hA,hC,<-qgd (qjP (qdz (s:=⟨s.r,B',A',s.c⟩) (v:=vi) (fun d hd=>(A2 d hd).1)))];exact e2
   ·have:=put_comm ⟨s.r,Bi,Ai,s.c⟩ vj vi dd
    refine St.eqv.trans ?_ (St.eqv.trans this ?_)
    ·refine qiA (s:=⟨(St.put ⟨s.r,Bj,Aj,s.c⟩ oj.dst vj).r,Bi,Ai,_⟩) (s':=St.put ⟨s.r,Bi,Ai,s.c⟩ oj.dst vj) ⟨fun t=>by rw[qd8,qd8],by cases oj.dst<;>rfl,by cases oj.dst<;>rfl,by cases oj.dst<;>rfl⟩ oi.dst vi
    ·refine qiA (s:=St.put ⟨s.r,Bi,Ai,s.c⟩ oi.dst vi) (s':=⟨(St.put ⟨s.r,B',A',s.c⟩ oi.dst vi).r,Bi,Ai,_⟩) ⟨fun t=>by rw[qd8,qd8],by cases oi.dst<;>rfl,by cases oi.dst<;>rfl,by cases oi.dst<;>rfl⟩ oj.dst vj
  ·have wi':qcI s.r oi.guard=some false:=by rw[<-wi];exact qbT (qcc (gi vj))
   refine⟨_,_,back2 wi',back1 (v:=vj) (B:=Bj) (A:=Aj) ?_ ?_,?_⟩
   ·rw[<-wj]
    exact(qbT (qcc (qdz (fun d hd=>(A2 d hd).1)))).symm
   ·rw[qLF,qLG,qLA,<-qgd (qjP (qdz (s:=s) (v:= .und) (fun d hd=>(A2 d hd).1)))]
    exact ej
   ·have:=put_comm ⟨s.r,Bj,Aj,s.c⟩ vj .und dd
    refine St.eqv.trans this ?_;refine qiA (s:=St.put ⟨s.r,Bj,Aj,s.c⟩ oi.dst .und) (s':=⟨(s.put oi.dst .und).r,Bj,Aj,_⟩) ⟨fun t=>by rw[qd8,qd8],by cases oi.dst<;>rfl,by cases oi.dst<;>rfl,by cases oi.dst<;>rfl⟩ oj.dst vj
 ·have gi:agree s.r (s.put oj.dst .und).r oi.looks:=qdz (fun d hd=>(A1 d hd).1)
  rcases form h2 with⟨wi,vi,Bi,Ai,ei,rfl⟩|⟨wi,rfl⟩
  ·have wi':qcI s.r oi.guard=some true:=by rw[<-wi];exact qbT (qcc gi)
   rw[qLF,qLG,qLA,<-qgd (qjP gi)]at ei;refine⟨_,_,back1 wi' ei,back2 ?_,?_⟩
   ·rw[<-wj]
    exact(qbT (qcc (qdz (s:=⟨s.r,Bi,Ai,s.c⟩) (fun d hd=>(A2 d hd).1)))).symm
   ·have:=put_comm ⟨s.r,Bi,Ai,s.c⟩ .und vi dd
    refine St.eqv.trans ?_ this;refine qiA (s:=⟨(s.put oj.dst .und).r,Bi,Ai,_⟩) (s':=St.put ⟨s.r,Bi,Ai,s.c⟩ oj.dst .und) ⟨fun t=>by rw[qd8,qd8],by cases oj.dst<;>rfl,by cases oj.dst<;>rfl,by cases oj.dst<;>rfl⟩ oi.dst vi
  ·have wi':qcI s.r oi.guard=some false:=by rw[<-wi];exact qbT (qcc gi)
   refine⟨_,_,back2 wi',back2 ?_,put_comm s .und .und dd⟩;rw[<-wj];exact(qbT (qcc (qdz (fun d hd=>(A2 d hd).1)))).symm
def qhY(call:qaz)(p:Id)(L0:Nat):List (Nat×VOper)->St->Option St
 | [],s=>some s
 |(i,o)::r,s=>(qdU call p true L0 i o s).bind (qhY call p L0 r)
theorem qBI{call:qaz}{p:Id}{L0:Nat}:∀{l:List (Nat×VOper)} {s s' t:St},s.eqv s'->qhY call p L0 l s=some t->∃t',qhY call p L0 l s'=some t'/\t.eqv t'
 | [],s,s',t,h,h1=>by simp[qhY]at h1;subst h1;exact⟨s',rfl,h⟩
 |(i,o)::l,s,s',t,h,h1=>by
  simp only[qhY]at h1⊢
  obtain⟨s1,h2,h3⟩:=yb_.1 h1;obtain⟨s1',h4,h5⟩:=qNY h h2;obtain⟨t',h6,h7⟩:=qBI h5 h3;exact⟨t',by rw[h4];exact h6,h7⟩
theorem qpM{call:qaz}{p:Id}{L0 i:Nat}{oi:VOper}{post:List (Nat×VOper)}:∀{pre:List (Nat×VOper)} {s t:St},(∀q,q∈pre->qFr q.2 oi)->
 qhY call p L0 (pre++(i,oi)::post) s=some t->∃s1 t',qdU call p true L0 i oi s=some s1/\qhY call p L0 (pre++post) s1=some t'/\t.eqv t'
 | [],s,t,_,h=>by
  simp only[List.nil_append,qhY]at h;obtain⟨s1,h2,h3⟩:=yb_.1 h;exact⟨s1,t,h2,h3,.refl t⟩
 |(j,oj)::pre,s,t,hc,h=>by
  simp only[List.cons_append,qhY]at h;obtain⟨sj,h2,h3⟩:=yb_.1 h;obtain⟨s1,t',h4,h5,h6⟩:=qpM (fun q hq=>hc q (by simp[hq])) h3;obtain⟨s1',s2',h7,h8,h9⟩:=qIq (hc (j,oj) (by simp)) h2 h4;obtain⟨t'',h10,h11⟩:=qBI h9 h5;refine⟨s1',t'',h7,?_,h6.trans h11⟩;simp only[List.cons_append,qhY,h8,Option.bind_some];exact h10
theorem qrd{call:qaz}{p:Id}{L0:Nat}:∀{os:List VOper} {i:Nat} {s:St},qcQ call p true L0 i os s=qhY call p L0 ((List.range' i os.length).zip os) s
 | [],_,_=>rfl
 |o::os,i,s=>by
  rw[qre];simp only[List.length_cons,List.range'_succ,List.zip_cons_cons,qhY]
  congr 1
  funext s1
  exact qrd
end Go.Proofs.YtbcbkiaineacpaaGreat.VS
namespace Go.Proofs.YtbcbkiaineacpaaGreat.VS
variable {P:Program} {fid:Nat->FuncId} {g:Gh} {w:World}
theorem quC{ops:Array Oper}{a:Act}{r:List (Nat×AV)}(hr:qef fid g w r a.tmps){o:Oper}{gd:Option (Nat×Bool)}(hok:qoA ops o.guard gd=true){b:Bool}(h:qcI r gd=some b):
 Region.wanted o (yielded ops a.tmps)=b:=by
 unfold qoA at hok;unfold Region.wanted;split at hok
 ·rename_i e1
  rw[e1];simp[qcI]at h;simp[h]
 ·rename_i j wn t wn' e1
  simp at hok;obtain⟨rfl,hdst⟩:=hok;rw[e1];simp only[qcI]at h;have hy:yielded ops a.tmps j=match a.tmps[t]? with|some (.bool b)=>some b|_=>none:=by
   unfold yielded;rw[hdst];rfl
  split at h
  ·rename_i bb hl
   simp at h;subst h
   have hv:=qdl (hr t _ hl);rw[yf_]at hv;cases hq:a.tmps[t]? with
   |none=>rw[hq]at hv;simp[undef]at hv
   |some x=>
    rw[hq]at hv;simp at hv;subst hv;show(yielded ops a.tmps j==some wn)=(bb==wn);rw[hy,hq];cases bb<;>cases wn<;>rfl
  ·rename_i hl
   simp at h;subst h
   have hv:=hr t _ hl;rw[yf_]at hv;cases hq:a.tmps[t]? with
   |none=>simp[hy,hq]
   |some x=>
    rw[hq]at hv;simp at hv;cases hv;simp[hy,hq,undef]
  ·simp at h
 ·simp at hok
theorem qUN{call:qaz}{p:Id}{draw:Bool}{L0 i:Nat}{o:VOper}{s s':St}(h:qbv call p draw L0 i o s=some s'):s'.c=s.c:=by
 obtain⟨dst,op,gd,af⟩:=o;cases op with
 |load ag sz x=>
  simp only[qbv]at h;split at h
  ·obtain⟨v,_,rfl⟩:=ya_.1 h;exact qf2 _ _ _
  ·split at h
   ·simp at h
   ·obtain⟨v,_,rfl⟩:=ya_.1 h;exact qf2 _ _ _
  ·simp at h
 |store ini sz x y=>
  simp only[qbv]at h;split at h
  ·split at h
   ·simp at h
   ·obtain⟨v,h1,rfl⟩:=ya_.1 h
    unfold qdi at h1;obtain⟨cs,_,h1⟩:=yb_.1 h1;split at h1
    ·simp at h1;subst h1;rw[qf2]
    ·simp at h1
  ·simp at h
 |storeN sz x y av=>
  simp only[qbv]at h;split at h
  ·split at h
   ·simp at h
   ·obtain⟨v,h1,rfl⟩:=ya_.1 h
    unfold qdi at h1;obtain⟨cs,_,h1⟩:=yb_.1 h1;split at h1
    ·simp at h1;subst h1;rw[qf2]
    ·simp at h1
  ·simp at h
 |alloc k z=>
  simp only[qbv]at h;split at h
  ·simp at h;subst h;rw[qf2]
  ·simp at h
 |allocE z=>
  simp only[qbv]at h;split at h
  ·simp at h;subst h;rw[qf2]
  ·simp at h
 |box k x=>
  simp only[qbv]at h;obtain⟨v,_,h⟩:=yb_.1 h;split at h
  ·simp at h;subst h;rw[qf2]
  ·simp at h
 |buildSlice sz z n ps=>
  simp only[qbv]at h;split at h
  ·obtain⟨v,_,rfl⟩:=ya_.1 h;rw[qf2]
  ·simp at h
 |makeSlice k sz by' z x=>
  simp only[qbv]at h;split at h
  ·split at h
   ·simp at h;subst h;rw[qf2]
   ·simp at h
  ·simp at h
 |append sz by' x y=>
  simp only[qbv]at h;split at h
  ·obtain⟨⟨v,s1⟩,h1,rfl⟩:=ya_.1 h
   rw[qf2];unfold qdV at h1;split at h1
   ·split at h1
    ·split at h1
     ·simp at h1;rw[h1.2]
     ·split at h1
      ·split at h1
       ·simp at h1;rw[<-h1.2]
       ·split at h1
        ·simp at h1;rw[<-h1.2]
        ·split at h1
         ·simp at h1;rw[<-h1.2]
         ·simp at h1
       ·simp at h1
      ·simp at h1
    ·simp at h1
   ·simp at h1
  ·simp at h
 |call iso f args=>
  simp only[qbv]at h;split at h
  ·split at h
   ·split at h
    ·split at h
     ·simp at h;subst h;rw[qf2]
     ·simp at h
    ·simp at h
   ·split at h
    ·simp at h;subst h;rw[qf2]
    ·simp at h
  ·simp at h
 |callT th f args=>
  simp only[qbv]at h;split at h
  ·split at h
   ·obtain⟨ds,_,h⟩:=yb_.1 h
    split at h
    ·obtain⟨l,_,h⟩:=yb_.1 h
     split at h
     ·simp only[Option.some.injEq]at h
      cases th
      ·simp only[Bool.false_eq_true,if_false]at h;subst h;rw[qf2]
      ·simp only[if_true]at h;subst h;rw[qf2]
     ·simp at h
    ·simp at h
   ·simp at h
  ·simp at h
 |_=>
  simp only[qbv]at h;obtain⟨v,_,rfl⟩:=ya_.1 h;exact qf2 _ _ _
theorem qEU{call:qaz}{p:Id}{draw:Bool}{L0 i:Nat}{o:VOper}{s s':St}(h:qdU call p draw L0 i o s=some s'):s'.c=s.c:=by
 unfold qdU at h;split at h
 ·exact qUN h
 ·simp at h;subst h;exact qf2 _ _ _
 ·simp at h
theorem qDU{call:qaz}(hcall:qgh P fid call){p:Id}{draw:Bool}{L0 i N:Nat}{a:Act}{ops:Array Oper}{o:Oper}{vo:VOper}{s s':St}(hcore:Core fid g w s.B s.A)(hr:qef fid g w s.r a.tmps)(hN:a.tmps.size=N)
 (hfr:∀q,g.row (q++(s.c+i)::p)=none) (hok:qf6 P fid N ops o vo=true) (hv:qdU call p draw L0 i vo s=some s')
 (K:Act->World->Prop) (Q:Exit->Act->World->Prop)
 (hK:∀g' w' u,Core fid g' w' s'.B s'.A->Boxes g w g'->Step (under (s.c+i) p) g w s.A g' w' s'.A->qef fid g' w' s'.r (a.put o.dst u).tmps->K (a.put o.dst u) w'):
 if Region.wanted o (yielded ops a.tmps)then o.wp P a w K Q else K (a.put o.dst undef) w:=by
 simp only[qf6,Bool.and_eq_true,beq_iff_eq]at hok;obtain⟨⟨⟨h1,h2⟩,h3⟩,h4⟩:=hok;have hd:∀d,o.dst=some d->d<a.tmps.size:=by
  intro d hd;rw[hN];simpa[hd]using h2
 unfold qdU at hv;split at hv
 ·rename_i hw
  rw[quC hr h4 hw,if_pos rfl];exact qWB hcall hcore hr hfr h1 hd h3 hv K Q hK
 ·rename_i hw
  rw[quC hr h4 hw];simp at hv;subst hv
  simp only[Bool.false_eq_true,if_false];refine hK g w undef (by rw[qiB,qdr];exact hcore) (.refl g w) (by rw[qdr];exact .refl _ g w s.A) ?_;rw[<-h1];exact qbX hr .und hd
 ·simp at hv
theorem qfn(a:Act)(d:Option Nat)(u:Value):(a.put d u).tmps.size=a.tmps.size:=by cases d<;>simp[Act.put]
theorem put_defers(a:Act)(d:Option Nat)(u:Value):(a.put d u).defers=a.defers:=by cases d<;>rfl
theorem qHj{k k':Nat}{p:Id}{q:Id}(h:k≠k'):¬under k p (q++k'::p):=by
 rintro⟨q',h'⟩
 have:=List.append_inj' h' (by simp);simp at this;exact h this.2.symm
theorem qq4{p:Id}{k:Nat}{g':Gh}{w':World}{A A':Ids}(hs:Step (under k p) g w A g' w' A'){k':Nat}(hne:k≠k')(h:∀q,g.row (q++k'::p)=none):∀q,g'.row (q++k'::p)=none:=by
 intro q
 by_cases he:g'.row (q++k'::p)=g.row (q++k'::p)
 ·rw[he];exact h q
 ·exact absurd (hs.new _ he) (qHj hne)
theorem qLI{call:qaz}(hcall:qgh P fid call){p:Id}{L0 N:Nat}{ops:Array Oper}:∀(os:List Oper) (vs:List VOper) (i:Nat) (g:Gh) (w:World) (a:Act) (s s':St),
 qbN P fid N ops false os vs=true->Core fid g w s.B s.A->qef fid g w s.r a.tmps->a.tmps.size=N->(∀q j,s.c+i<=j->g.row (q++j::p)=none)->qcQ call p false L0 i vs s=some s'->
 ∀(Q:Exit->Act->World->Prop),(∀g' a' w',Core fid g' w' s'.B s'.A->Boxes g w g'->Step (fun x=>∃q j,s.c+i<=j/\j<s.c+i+vs.length/\x=q++j::p) g w s.A g' w' s'.A->qef fid g' w' s'.r a'.tmps->a'.tmps.size=N->a'.defers=a.defers->Q .normal a' w')->
  wpList P ops Q os a w
 | [],[],i,g,w,a,s,s',_,hcore,hr,hN,hfr,hv,Q,hQ=>by
  simp[qcQ]at hv;subst hv
  exact hQ g a w hcore (.refl g w) (.refl _ g w s.A) hr hN rfl
 |o::os,v::vs,i,g,w,a,s,s',hok,hcore,hr,hN,hfr,hv,Q,hQ=>by
  simp only[qbN,Bool.and_eq_true]at hok;obtain⟨⟨⟨h1,_⟩,_⟩,h2⟩:=hok;rw[qre]at hv;obtain⟨s1,hv1,hv2⟩:=yb_.1 hv;have hc1:=qEU hv1;unfold wpList;have key:=qDU (g:=g) (w:=w) hcall hcore hr hN (fun q=>hfr q _ (Nat.le_refl _)) h1 hv1 (wpList P ops Q os) Q (fun g1 w1 u c1 b1 st1 r1=>by
   refine qLI hcall os vs (i+1) g1 w1 (a.put o.dst u) s1 s' h2 c1 r1 (by rw[qfn];exact hN) (fun q j hj=> ?_) hv2 Q (fun g2 a2 w2 c2 b2 st2 r2 n2 d2=> ?_)
   ·exact qq4 st1 (by omega) (fun q=>hfr q j (by omega)) q
   ·refine hQ g2 a2 w2 c2 (b1.trans st1.size b2) ((st1.weaken (fun x ⟨q,hx⟩=>⟨q,s.c+i,Nat.le_refl _,by simp,hx⟩)).trans b1 (st2.weaken (fun x ⟨q,j,h3,h4,hx⟩=>⟨q,j,by omega,by simp only[List.length_cons];omega,hx⟩))) r2 n2 (by rw[d2,put_defers]))
  split
  ·rename_i hw
   rw[if_pos hw]at key;exact .inl key
  ·rename_i hw
   rw[if_neg hw]at key;exact key
 | [],_::_,_,_,_,_,_,_,h,_,_,_,_,_,_,_=>by simp[qbN]at h
 |_::_,[],_,_,_,_,_,_,h,_,_,_,_,_,_,_=>by simp[qbN]at h
end Go.Proofs.YtbcbkiaineacpaaGreat.VS
