/- The engine, part 2: a call of the program answers what an evaluator of values without memory answers, for the functions whose code is the one that the evaluator is given. -/
import Derived.Test.YtpcoohnjllclnaaGreatEngA
import Derived.Laws.Append
import Derived.Laws.AppendOwn
import Derived.LoopN
import Derived.Tactics
set_option linter.unusedSimpArgs false
set_option linter.unusedVariables false
namespace Go.Proofs.YtpcoohnjllclnaaGreat.VS
section
variable {P:Program} {fid:Nat->FuncId} {g:Gh} {w:World}
theorem ri:∀{cs:aG} {ds:aw},bd cs=some ds->cs=ds.map .d
 | [],ds,h=>by simp[bd]at h;subst h;rfl
 | .d v::r,ds,h=>by simp only[bd]at h;obtain⟨c,b,rfl⟩:=aN.1 h;rw[ri b];rfl
 | .ptr _ _::_,_,h=>by simp[bd]at h
 | .ep _::_,_,h=>by simp[bd]at h
 | .nilp::_,_,h=>by simp[bd]at h
 | .fn _ _::_,_,h=>by simp[bd]at h
 | .bsl _ _ _ _ _::_,_,h=>by simp[bd]at h
 | .tsl _ _ _ _::_,_,h=>by simp[bd]at h
 | .ag _ _::_,_,h=>by simp[bd]at h
 | .und::_,_,h=>by simp[bd]at h
section
variable {p:Id} {call:cj} {draw:Bool} {L0 i:Nat} {a:Act} {o:Oper} {s s':St}
end
end
section
variable {P:Program} {fid:Nat->FuncId} {g:Gh} {w:World}
section
variable {p:Id} {call:cj} {draw:Bool} {L0 i:Nat} {a:Act} {o:Oper} {s s':St}
end
end
variable{i:Nat}
section
variable {P:Program} {fid:Nat->FuncId} {g:Gh} {w:World}
theorem Core.lt{B:az}{A:Ids}(hc:Core fid g w B A){b:Nat}(h:g.bx i=some b):b<w.heap.size:=by obtain⟨cs,arr,e,_,c,_⟩:=hc.box i b h;exact(oV.1 c).1
section
variable {p:Id} {call:cj} {draw:Bool} {L0 i:Nat} {a:Act} {o:Oper} {s s':St}
end
end
section
variable {P:Program} {fid:Nat->FuncId} {g:Gh} {w:World}
theorem wrap_i64{n:Int}(h: -9223372036854775808<=n)(h':n<9223372036854775808):IntKind.i64.wrap n=n:=by show(if(true&&decide (n%18446744073709551616>=9223372036854775808))=true then n%18446744073709551616-18446744073709551616 else n%18446744073709551616)=n;simp only[eE,cB];split<;>omega
def flat(xs:aw):aw:=xs.flatMap DV.cells
theorem vM{s:Nat}:∀{xs:aw},(∀x:DV,x∈xs->x.cells.length=s)->(flat xs).length=xs.length*s
 | [],_=>by simp[flat]
 |x::xs,h=>by
  have c:=h x (by simp);have b:=vM (xs:=xs) (fun y hy=>h y (by simp[hy]));simp only[flat,mC,cG,c7,kP]at b⊢
  omega
theorem MZ{s:Nat}:∀{xs:aw} (i:Nat) (v:DV),(∀x:DV,x∈xs->x.cells.length=s)->v.cells.length=s->i<xs.length->flat (xs.set i v)=splice (flat xs) (i*s) v.cells
 | [],i,v,_,_,h=>by simp at h
 |y::m,i,v,c,d,h=>by
  have e:=c y (by simp);have hc:∀z b,flat (z::b)=z.cells++flat b:=fun z b=>by simp[flat]
  cases i with
  |zero=>simp only[wI,hc,splice,xR,Br,co,dE];rw[d,<-e,List.drop_left]
  |succ i=>
   simp only[List.set_cons_succ,hc];rw[MZ i v (fun z j=>c z (by simp[j])) d (by simpa using h)];simp only[splice];have k:(i+1)*s=y.cells.length+i*s:=by rw[kP];omega
   rw[k,List.take_append,dD (l:=y.cells) (by omega),show y.cells.length+i*s-y.cells.length=i*s by omega];rw[D4,oS (as:=y.cells) (by omega),show y.cells.length+i*s+v.cells.length-y.cells.length=i*s+v.cells.length by omega];simp[bX]
section
variable {p:Id} {call:cj} {draw:Bool} {L0 i:Nat} {a:Act} {o:Oper} {s s':St}
end
end
variable{A':Ids}
section
variable {P:Program} {fid:Nat->FuncId} {g:Gh} {w:World}
theorem Core.sub{B:az}{A:Ids}(hc:Core fid g w B A)(h:∀x,A' x=true->A x=true):Core fid g w B A':=⟨hc.box,hc.inj,fun a c=>hc.opn a (h a c),fun a a' b x x' c d=>hc.apart a a' b x x' (h a c) (h a' d),hc.K0⟩
theorem Step.sub{N:Id->Prop}{g':Gh}{w':World}{A c:Ids}(d:Step N g w A g' w' A')(h:∀x,c x=true->A' x=true):Step N g w A g' w' c:={d with org:=fun a b e j=>d.org a b (h a e) j}
theorem N9(w:World)(t ty e:TypeId)(i:TypeInfo)(d:P.underlying t=some (.slice e))(hi:P.info? e=some i)(b:kV)(n c:Nat)(h:n<=c)(b':kV)(c':Nat):
 (Builtin.append_ #[t,t] ty #[.slice b n c,.slice b' 0 c']).run P w= .ok (.slice b n c) w:=by
 cases b<;>cases b'<;>simp[Builtin.append_,run_underlying d,sizeOf,typeInfo,hi,Builtin.lenOf,Builtin.firstCells,loadCells,loadCellsFrom,h,storeCells]
end
section
variable {P:Program} {fid:Nat->FuncId} {g:Gh} {w:World}
section
variable {p:Id} {call:cj} {draw:Bool} {L0 i:Nat} {a:Act} {o:Oper} {s s':St}
end
end
section
variable {P:Program} {fid:Nat->FuncId} {g:Gh} {w:World}
def from_(p:Id)(k:Nat)(a:Id):Prop:=∃q j,k<=j/\a=q++j::p
def Eu(g:Gh)(p:Id)(k:Nat):Prop:=∀q j,k<=j->g.row (q++j::p)=none
def rb(P:Program)(f:FuncId):Prop:=∃fn,P.funcs[f]?=some fn/\(fn.name== "runtime.NumGoroutine")=false/\fn.body.isNone=false
structure Post(fid:Nat->FuncId)(N:Id->Prop)(g:Gh)(w:World)(A:Ids)(r:Res)(u:Value)(g':Gh)(w':World):Prop where
 val:AVR fid g' w' r.v u
 core:Core fid g' w' r.B r.A
 boxes:Boxes g w g'
 step:Step N g w A g' w' r.A
def q3t(P:Program)(fid:Nat->FuncId)(call:cj):Prop:=
 ∀p f args B A r,call p f args B A=some r->rb P (fid f)/\∀g w (us:ee),us.size=args.length->(∀(j:Nat) (v:AV) (u:Value),args[j]?=some v->us[j]?=some u->AVR fid g w v u)->
  Core fid g w B A->Eu g p 0->Calls P (fid f) us w fun e w'=>∃u g',e= .returned u/\Post fid (from_ p 0) g w A r u g' w'
theorem Core.more{B B':az}{A:Ids}(hc:Core fid g w B A)(h:∀(i:Nat) (cs:aG),B[i]?=some (some cs)->B'[i]?=some (some cs)):Core fid g w B' A:=
 ⟨fun i b j=>by obtain⟨cs,arr,e,c,d⟩:=hc.box i b j;exact⟨cs,arr,e,h i cs c,d⟩,hc.inj,hc.opn,hc.apart,hc.K0⟩
end
section
variable {P:Program} {fid:Nat->FuncId}
end
section
variable {P:Program} {fid:Nat->FuncId}
section
variable {g g2:Gh} {w:World} {A:Ids}
end
end
section
variable {P:Program} {fid:Nat->FuncId}
noncomputable def Gh.back(g g':Gh)(w:World)(L:Nat)(l:eU):Gh:=
 {K:=fun b=>open Classical in if b<w.heap.size then g.K b else if∃a,a∈l/\g'.blk a=some b then 0 else g'.K b
  row:=g'.row
  bx:=fun i=>if i<L then g.bx i else(l[i-L]?).bind g'.blk}
section
variable {g g2:Gh} {w:World} {A:Ids}
end
end
section
variable {P:Program} {fid:Nat->FuncId} {g:Gh} {w:World}
end
section
variable {P:Program} {fid:Nat->FuncId} {g:Gh} {w:World}
end
inductive Eff where
 |none
 |box (b:Nat) (x:Option aG)
 |ids (X:Ids)
 |app (new a:Id)
def Eff.on(e:Eff)(s:St):St:=
 match e with
 | .none=>s
 | .box b x=>{s with B:=s.B.set b x}
 | .ids X=>{s with A:=Ids.or X s.A}
 | .app new a=>{s with A:=Ids.add new (Ids.del a s.A)}
def Eff.B(e:Eff)(B:az):az:=
 match e with
 | .box b x=>B.set b x
 |_=>B
def Eff.A(e:Eff)(A:Ids):Ids:=
 match e with
 | .ids X=>Ids.or X A
 | .app new a=>Ids.add new (Ids.del a A)
 |_=>A
def xH(call:cj)(p:Id)(draw:Bool)(L0 i:Nat)(o:VOper)(s:St):pq:=
 match gk s.r o.guard with
 |some true=>b8 call p draw L0 i o s
 |some false=>some (s.put o.dst .und)
 |none=>none
theorem J7(call:cj)(p:Id)(draw:Bool)(L0 i:Nat)(o:VOper)(os:ak)(s:St):
 cW call p draw L0 i (o::os) s=(xH call p draw L0 i o s).bind (cW call p draw L0 (i+1) os):=by
 simp only[cW,xH];generalize gk s.r o.guard=q;cases q with
 |none=>rfl
 |some b=>cases b<;>rfl
def St.eqv(s s':St):Prop:=(∀t,lk s.r t=lk s'.r t)/\s.B=s'.B/\s.A=s'.A/\s.c=s'.c
theorem St.eqv.refl(s:St):s.eqv s:=⟨fun _=>rfl,rfl,rfl,rfl⟩
variable{s s':St}
theorem St.eqv.trans{b:St}(h:s.eqv s')(h':s'.eqv b):s.eqv b:=⟨fun t=>(h.1 t).trans (h'.1 t),h.2.1.trans h'.2.1,h.2.2.1.trans h'.2.2.1,h.2.2.2.trans h'.2.2.2⟩
variable {P:Program} {fid:Nat->FuncId} {g:Gh} {w:World}
theorem qCe{s1:St}{new:Id}{sz bytes:Nat}{x y:DV}{v:AV}(b:qU s new sz bytes x y=some (v,s1)):∃A,s1=⟨s.r,s.B,A,s.c⟩:=by
 unfold qU at b;split at b
 ·split at b
  ·split at b
   ·simp at b;exact⟨s.A,b.2.symm⟩
   ·split at b
    ·split at b
     ·simp at b;exact⟨_,b.2.symm⟩
     ·split at b
      ·simp at b;exact⟨_,b.2.symm⟩
      ·split at b
       ·simp at b;exact⟨_,b.2.symm⟩
       ·simp at b
     ·simp at b
    ·simp at b
  ·simp at b
 ·simp at b
variable{o:VOper}{L0:Nat}{draw:Bool}{p:Id}{call:cj}
theorem VE(h:b8 call p draw L0 i o s=some s'):∃v B A,s'=(⟨s.r,B,A,s.c⟩:St).put o.dst v:=by
 obtain⟨dst,op,j,l⟩:=o;cases op with
 |load ag sz x=>
  simp only[b8]at h;split at h
  ·obtain⟨v,_,rfl⟩:=aN.1 h;exact⟨_,_,_,rfl⟩
  ·split at h
   ·simp at h
   ·obtain⟨v,_,rfl⟩:=aN.1 h;exact⟨_,_,_,rfl⟩
  ·simp at h
 |store e sz x y=>
  simp only[b8]at h;split at h
  ·split at h
   ·simp at h
   ·obtain⟨v,b,rfl⟩:=aN.1 h
    unfold vT at b;obtain⟨cs,_,b⟩:=aL.1 b;split at b
    ·simp at b;subst b;exact⟨_,_,_,rfl⟩
    ·simp at b
  ·simp at h
 |storeN sz x y av=>
  simp only[b8]at h;split at h
  ·split at h
   ·simp at h
   ·obtain⟨v,b,rfl⟩:=aN.1 h
    unfold vT at b;obtain⟨cs,_,b⟩:=aL.1 b;split at b
    ·simp at b;subst b;exact⟨_,_,_,rfl⟩
    ·simp at b
  ·simp at h
 |alloc k z=>
  simp only[b8]at h;split at h
  ·simp at h;subst h;exact⟨_,_,_,rfl⟩
  ·simp at h
 |box k x=>
  simp only[b8]at h;obtain⟨v,_,h⟩:=aL.1 h;split at h
  ·simp at h;subst h;exact⟨_,_,_,rfl⟩
  ·simp at h
 |buildSlice sz z n ps=>
  simp only[b8]at h;split at h
  ·obtain⟨v,_,rfl⟩:=aN.1 h;exact⟨_,_,_,rfl⟩
  ·simp at h
 |makeSlice k sz d z x=>
  simp only[b8]at h;split at h
  ·split at h
   ·simp at h;subst h;exact⟨_,_,_,rfl⟩
   ·simp at h
  ·simp at h
 |append sz d x y=>
  simp only[b8]at h;split at h
  ·obtain⟨⟨v,s1⟩,b,rfl⟩:=aN.1 h
   obtain⟨A,rfl⟩:=qCe b;exact⟨_,_,_,rfl⟩
  ·simp at h
 |call iso f args=>
  simp only[b8]at h;split at h
  ·split at h
   ·split at h
    ·split at h
     ·simp at h;subst h;exact⟨_,_,_,rfl⟩
     ·simp at h
    ·simp at h
   ·split at h
    ·simp at h;subst h;exact⟨_,_,_,rfl⟩
    ·simp at h
  ·simp at h
 |_=>simp only[b8]at h;obtain⟨v,_,rfl⟩:=aN.1 h;exact⟨_,_,_,rfl⟩
theorem qVA(h:xH call p draw L0 i o s=some s'):∃v B A,s'=(⟨s.r,B,A,s.c⟩:St).put o.dst v:=by
 unfold xH at h;split at h
 ·exact VE h
 ·simp at h;subst h;exact⟨_,s.B,s.A,rfl⟩
 ·simp at h
theorem Iz{t:Nat}:∀{os:ak} {i:Nat} {s s':St},cW call p draw L0 i os s=some s'->(os.all fun o=>o.dst !=some t)=true->lk s'.r t=lk s.r t
 | [],_,_,_,h,_=>by simp[cW]at h;rw[h]
 |o::os,i,s,s',h,b=>by
  rw[J7]at h;obtain⟨s1,e,j⟩:=aL.1 h;simp only[fX,cd,bne_iff_ne,eg]at b;rw[Iz j b.2];obtain⟨v,B,A,rfl⟩:=qVA e;cases hd:o.dst with
  |none=>rfl
  |some d=>simp only[St.put,lk];rw[aC (fun c=>b.1 (by rw[hd,c]))]
end Go.Proofs.YtpcoohnjllclnaaGreat.VS
