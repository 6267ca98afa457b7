/- Contracts of the program's functions on the evaluator without names, and plain lemmas: part 4. -/
import Derived.Test.YtpcoohnjllclnaaGreatXP3
set_option linter.unusedSimpArgs false
set_option linter.unusedVariables false
namespace Go.Proofs.YtpcoohnjllclnaaGreat.VS
abbrev hJ(ws:List (List Bd)):DV:= .sl U (ws.map (binds U))
def mB(s:List SymL)(S:MS):List AV:=gW (sg s) (hJ S.ways) 60 S.steps 20000 S.over
theorem mh(s:List SymL)(S:MS)(pre r:ah):al XV 319 [.ptr pre.length 0] (pre++some (mB s S)::r)=some (ar S.done,pre++some (mB s S)::r):=by
 have h:=YM pre r (sg s) U (S.ways.map (binds U)) 60 S.steps 20000 S.over;have e:decide (((S.ways.map (binds U)).length:Int)>60)=decide (60<S.ways.length):=by
  rw[dK,wj,ba,ba];omega
 rw[e]at h;exact h
theorem nA(pre:ah)(x:Option (List AV))(r e:ah):(pre++x::(r++e)).take (pre.length+(r.length+1))=pre++x::r:=by
 rw[show pre++x::(r++e)=(pre++x::r)++e by simp,ED (by simp)]
theorem W5(s:List SymL)(S:MS)(gl:List Gl)(u:List Bd)(pre r:ah)(hd:S.done=true):
 al XV 318 [.ptr pre.length 0,.d (bp .sub gl),.d (binds .sub u)] (pre++some (mB s S)::r)=some (.d (.tup []),pre++some (mB s S)::r):=by
 rw[aJ 318 gU rfl];have h:=mh s S pre (r++[some [.d (binds .sub u)]]);rw[hd]at h;simp[gU,h,nA]
def MS.step(S:MS):MS:={S with steps:=S.steps+1,over:=decide (20000<S.steps+1)}
theorem MS.qpH(S:MS)(h:S.done=false):S.ev none=S.step:=by unfold MS.ev;rw[h];rfl
theorem MS.qFi(S:MS)(h:S.done=false)(u:List Bd):S.ev (some u)=if fO S.ways u then S else{S with ways:=S.ways++[u]}:=by unfold MS.ev;rw[h];rfl
theorem Xy(s:List SymL)(S:MS)(gl:List Gl)(u:List Bd)(pre r:ah)(hd:S.done=false)(b:20000<S.steps+1)(c:S.steps<=20001):
 al XV 318 [.ptr pre.length 0,.d (bp .sub gl),.d (binds .sub u)] (pre++some (mB s S)::r)=some (.d (.tup []),pre++some (mB s S.step)::r):=by
 rw[aJ 318 gU rfl];have h:=mh s S pre (r++[some [.d (binds .sub u)]]);rw[hd]at h;have a:¬(pre.length+(r.length+1+1)<=pre.length):=by omega
 have hw:IntKind.i64.wrap ((S.steps:Int)+1)=((S.steps+1:Nat):Int):=by rw[IntKind.wrap_i64];omega
 have i:(20000:Int)<((S.steps+1:Nat):Int):=by omega
 have e:mB s S=[.d (sg s),.d (hJ S.ways),aa 60,aa S.steps,aa 20000,ar S.over]:=rfl;have g:mB s S.step=[.d (sg s),.d (hJ S.ways),aa 60,aa (S.steps+1:Nat),aa 20000,ar true]:=by
  unfold mB gW MS.step;simp[b]
 rw[e]at h;rw[e,g];generalize ((S.steps+1:Nat):Int)=m at*
 simp[gU,ru,h,nA,splice,hw,i,a]
@[simp] theorem qEG:DV.clr∘binds U=binds .sub:=funext fun w=>by simp[binds]
theorem qIM(L:List (List Bd))(t:Tag)(u:List Bd)(a:(L.length+1)*24<=140737488355328):cG 1 24 (.sl U (L.map (binds U))) (.sl t [binds U u])=some (.sl U ((L++[u]).map (binds U))):=by
 have h1:(L.map (binds U)).all (fun e=>decide (e.cells.length=1))=true:=by
  rw[bu];intro y hy;obtain⟨z,_,rfl⟩:=bP.1 hy;rfl
 unfold cG;simp only;rw[ap (by rfl)];simp only[iV,bI,if_false];rw[ap ⟨by simpa using a,trivial,h1⟩];simp
theorem NG(s:List SymL)(S:MS)(u:List Bd)(pre r:ah)(hd:S.done=false)(C:S.steps+1<=20000)(hw:∀w,w∈S.ways->small w)(y:small u):
 al XV 318 [.ptr pre.length 0,.d (bp .sub []),.d (binds .sub u)] (pre++some (mB s S)::r)=some (.d (.tup []),pre++some (mB s (if fO S.ways u then S.step else{S.step with ways:=S.ways++[u]}))::r):=by
 rw[aJ 318 gU rfl];have h:=mh s S pre (r++[some [.d (binds .sub u)]]);rw[hd]at h;have z:S.ways.length<=60:=by
  unfold MS.done at hd;simp only[iR,j9]at hd;omega
 have i:pre.length<pre.length+(r.length+1+1):=by omega
 have b:¬(pre.length+(r.length+1+1)<=pre.length):=by omega
 have n:¬(r.length+1<=r.length):=by omega
 have c:IntKind.i64.wrap ((S.steps:Int)+1)=((S.steps+1:Nat):Int):=by rw[IntKind.wrap_i64];omega
 have x:¬(20000:Int)<((S.steps+1:Nat):Int):=by omega
 have g:decide (20000<S.steps+1)=false:=by simp;omega
 have l:S.over=false:=by unfold MS.done at hd;simp only[iR]at hd;exact hd.1
 have e:mB s S=[.d (sg s),.d (hJ S.ways),aa 60,aa S.steps,aa 20000,ar false]:=by unfold mB gW;rw[l]
 have q:mB s S.step=[.d (sg s),.d (hJ S.ways),aa 60,aa (S.steps+1:Nat),aa 20000,ar false]:=by
  unfold mB gW MS.step;rw[g]
 have e3:mB s {S.step with ways:=S.ways++[u]}=[.d (sg s),.d (hJ (S.ways++[u])),aa 60,aa (S.steps+1:Nat),aa 20000,ar false]:=by
  unfold mB gW MS.step;rw[g]
 have a:=Qm S.ways u (pre++some (mB s S.step)::r) [] (by omega) hw y;have j:=TF u y;have o:=qIM S.ways U u (by omega);simp only[dz,cB,b7,cP]at a;rw[q]at a;rw[e]at h;rw[e];cases hh:fO S.ways u with
 |true=>
  rw[hh]at a;simp only[if_true];rw[q];generalize ((S.steps+1:Nat):Int)=m at*
  simp[gU,ru,h,i,nA,splice,c,x,b,a]
 |false=>
  rw[hh]at a;simp only[bI,if_false];rw[e3];generalize ((S.steps+1:Nat):Int)=m at*
  simp[gU,ru,P4,h,i,nA,splice,c,x,b,n,a,j,o]
theorem Lc(b:Bool)(f:Int)(ps ts:List T):DV.agg [.bool b,.int .i64 f,aj .sub ps,aj .sub ts]=(Gl.mk b f ps ts).enc .sub:=rfl
@[simp] theorem Gl.qgb(g:Tag)(x:Gl):(x.enc g).cells=[.bool x.many,.int .i64 x.f,aj g x.ps,aj g x.ts]:=rfl
@[simp] theorem Gl.qjf(g:Tag)(x:Gl):(AV.d (x.enc g)).cells=[ar x.many,aa x.f,.d (aj g x.ps),.d (aj g x.ts)]:=rfl
@[simp] theorem Gl.qje(g:Tag)(x:Gl):(x.enc g).isCell=false:=rfl
@[simp] theorem Gl.qfr(x:Gl):(x.enc .sub).clr=x.enc .sub:=by simp[Gl.enc]
@[simp] theorem qui:DV.clr∘Gl.enc .sub=Gl.enc .sub:=funext fun w=>by simp
theorem qDS(s:List SymL)(S S':MS)(f:Int)(ps ts:List T)(rest:List Gl)(u:List Bd)(pre r:ah)(hd:S.done=false)(y:S.steps+1<=20000)
 (a:∀q,al XV 321 [.ptr pre.length 0,.d ((Gl.mk true f ps ts).enc .sub),.d (bp .sub rest),.d (binds .sub u)] (pre++some (mB s S.step)::q)=some (.d (.tup []),pre++some (mB s S')::q)):
 al XV 318 [.ptr pre.length 0,.d (bp .sub (⟨true,f,ps,ts⟩::rest)),.d (binds .sub u)] (pre++some (mB s S)::r)=some (.d (.tup []),pre++some (mB s S')::r):=by
 rw[aJ 318 gU rfl];have h:=mh s S pre (r++[some [.d (binds .sub u)]]);rw[hd]at h;have n:pre.length<pre.length+(r.length+1+1):=by omega
 have g:¬(pre.length+(r.length+1+1)<=pre.length):=by omega
 have i:IntKind.i64.wrap ((S.steps:Int)+1)=((S.steps+1:Nat):Int):=by rw[IntKind.wrap_i64];omega
 have x:¬(20000:Int)<((S.steps+1:Nat):Int):=by omega
 have j:decide (20000<S.steps+1)=false:=by simp;omega
 have l:S.over=false:=by unfold MS.done at hd;simp only[iR]at hd;exact hd.1
 have e:mB s S=[.d (sg s),.d (hJ S.ways),aa 60,aa S.steps,aa 20000,ar false]:=by unfold mB gW;rw[l]
 have w:mB s S.step=[.d (sg s),.d (hJ S.ways),aa 60,aa (S.steps+1:Nat),aa 20000,ar false]:=by
  unfold mB gW MS.step;rw[j]
 have o:=a (r++[some [.d (binds .sub u)],some [ar true,aa f,.d (aj .sub ps),.d (aj .sub ts)]]);rw[w]at o;rw[e]at h;rw[e];have b:(((rest.length:Int)+1)==0)=false:=by simp;omega
 have c:List.take rest.length (rest.map (Gl.enc .sub))=rest.map (Gl.enc .sub):=eU (by simp);generalize ((S.steps+1:Nat):Int)=m at*
 generalize mB s S'=X at*
 simp[gU,ru,FA,h,n,nA,splice,i,x,g,b,cut,c,Lc,o]
theorem Wz(s:List SymL)(S S':MS)(f:Int)(p t:T)(rest:List Gl)(u:List Bd)(pre r:ah)(hd:S.done=false)(I:S.steps+1<=20000)
 (a:∀w,al XV 322 [.ptr pre.length 0,.d (p.enc .sub),.d (t.enc .sub),.d (bp .sub rest),.d (binds .sub u)] (pre++some (mB s S.step)::w)=some (.d (.tup []),pre++some (mB s S')::w)):
 al XV 318 [.ptr pre.length 0,.d (bp .sub (⟨false,f,[p],[t]⟩::rest)),.d (binds .sub u)] (pre++some (mB s S)::r)=some (.d (.tup []),pre++some (mB s S')::r):=by
 obtain⟨F,C,z⟩:=p;obtain⟨D,x,y⟩:=t;rw[aJ 318 gU rfl];have h:=mh s S pre (r++[some [.d (binds .sub u)]]);rw[hd]at h;have o:pre.length<pre.length+(r.length+1+1):=by omega
 have g:¬(pre.length+(r.length+1+1)<=pre.length):=by omega
 have n:¬(r.length+2<=r.length):=by omega
 have i:IntKind.i64.wrap ((S.steps:Int)+1)=((S.steps+1:Nat):Int):=by rw[IntKind.wrap_i64];omega
 have H:¬(20000:Int)<((S.steps+1:Nat):Int):=by omega
 have j:decide (20000<S.steps+1)=false:=by simp;omega
 have l:S.over=false:=by unfold MS.done at hd;simp only[iR]at hd;exact hd.1
 have e:mB s S=[.d (sg s),.d (hJ S.ways),aa 60,aa S.steps,aa 20000,ar false]:=by unfold mB gW;rw[l]
 have G:mB s S.step=[.d (sg s),.d (hJ S.ways),aa 60,aa (S.steps+1:Nat),aa 20000,ar false]:=by
  unfold mB gW MS.step;rw[j]
 have q:=a (r++[some [.d (binds .sub u)],some [ar false,aa f,.d (.sl .sub [(T.node F C z).enc .sub]),.d (.sl .sub [(T.node D x y).enc .sub])]]);rw[G]at q;rw[e]at h;rw[e];have b:(((rest.length:Int)+1)==0)=false:=by simp;omega
 have c:List.take rest.length (rest.map (Gl.enc .sub))=rest.map (Gl.enc .sub):=eU (by simp);generalize ((S.steps+1:Nat):Int)=m at*
 generalize mB s S'=X at*
 simp[gU,ru,FA,Zk,h,o,nA,splice,i,H,g,n,b,cut,c,q]
section
variable (s:List SymL) (p t:T) (rest:List Gl) (u:List Bd) (k:Nat) (Q Q':ah)
theorem Wa(hs:s.length<=1099511627776)(j:p.f= -1)(hb:dm u p.v=none)(l:u.length<=1099511627776)(x:k<Q.length)(q:Q'.length=Q.length)
 (a:∀e,al XV 318 [.ptr k 0,.d (bp .sub rest),.d (binds .sub (cM u p.v t))] (Q++e)=some (.d (.tup []),Q'++e)):
 al XV 322 [.ptr k 0,.d (p.enc .sub),.d (t.enc .sub),.d (bp .sub rest),.d (binds .sub u)] Q=some (.d (.tup []),Q'):=by
 obtain⟨w,b,m⟩:=p;obtain⟨c,h,i⟩:=t;simp only[T.qaP,T.qb7]at j hb a;subst j;rw[aJ 322 fU rfl];have h1:=gH (.node (-1) b m);simp only[T.qaP,BEq.rfl]at h1;have g:=rm u b l;rw[hb]at g;simp only at g;have n:=JB .sub .sub (by simp) (by simp) u b (.node c h i) [] l;have o:=a [some [aa (-1),aa b,.d (aj .sub m)],some [aa c,aa h,.d (aj .sub i)],some [aa 0,aa 0,.d (aj .sub [])]];generalize cM u b (.node c h i)=u2 at*
 simp[fU,h1,g,n,o,q,splice]
theorem Sk(j:Nat)(l:p.f= -1)(hb:dm u p.v=some j)(y:small u)(C:t.inner<=1099511627776)(H:k<Q.length)(F:Q'.length=Q.length)
 (a:(T.cmp (az u j).t t==0)=true->∀e,al XV 318 [.ptr k 0,.d (bp .sub rest),.d (binds .sub u)] (Q++e)=some (.d (.tup []),Q'++e)) (h:(T.cmp (az u j).t t==0)=false->Q'=Q):
 al XV 322 [.ptr k 0,.d (p.enc .sub),.d (t.enc .sub),.d (bp .sub rest),.d (binds .sub u)] Q=some (.d (.tup []),Q'):=by
 obtain⟨G,b,z⟩:=p;simp only[T.qaP,T.qb7]at l hb a;subst l;have hj:=(eT _ _ _ _ (show aO (fun i=>(az u i).v==b) u.length 0=some j from hb)).2.1;have g:=same_eq (az u j).t t (y.2 j (by omega)) C;obtain⟨n,q,x⟩:=t;rw[aJ 322 fU rfl];have h1:=gH (.node (-1) b z);simp only[T.qaP,BEq.rfl]at h1;have c:=rm u b y.1;rw[hb]at c;simp only at c;generalize (az u j).t=w at*
 obtain⟨wf,o,m⟩:=w;cases hc:(T.cmp (.node wf o m) (.node n q x)==0)with
 |true=>
  rw[hc]at g;have D:=a hc [some [aa (-1),aa b,.d (aj .sub z)],some [aa n,aa q,.d (aj .sub x)],some [aa wf,aa o,.d (aj .sub m)]];simp[fU,h1,c,g,D,F,splice]
 |false=>
  rw[hc]at g;rw[h hc];simp[fU,h1,c,g,splice]
end
theorem DC(a:List DV)(c:List Gl)(g:Tag)(h:∀y,y∈a->y.cells.length=4)(b:(a.length+c.length)*64<=140737488355328):cG 4 64 (.sl U a) (.sl g (c.map (Gl.enc .sub)))=some (.sl U (a++c.map (Gl.enc .sub))):=by
 have d:(c.map (Gl.enc .sub)).all (fun e=>decide (e.cells.length=4/\e.cells.all DV.isCell=true))=true:=by
  rw[bu];intro y hy;obtain⟨z,_,rfl⟩:=bP.1 hy;simp[DV.isCell]
 have h1:a.all (fun e=>decide (e.cells.length=4))=true:=by
  rw[bu];intro y hy;simpa using h y hy
 unfold cG;simp only;rw[ap d];cases c with
 |nil=>simp
 |cons x r=>
  simp only[bo,iV,bI,if_false];rw[ap ⟨by simpa using b,trivial,h1⟩]
section
variable (s:List SymL) (p t:T) (rest:List Gl) (u:List Bd) (k:Nat) (Q Q':ah)
theorem O7(c:p.f≠-1)(hd:p.f≠t.f)(i:k<Q.length):
 al XV 322 [.ptr k 0,.d (p.enc .sub),.d (t.enc .sub),.d (bp .sub rest),.d (binds .sub u)] Q=some (.d (.tup []),Q):=by
 obtain⟨b,e,h⟩:=p;obtain⟨g,j,l⟩:=t;simp only[T.qaP]at c hd;rw[aJ 322 fU rfl];have h1:=gH (.node b e h);have hb:(b== -1)=false:=by simpa using c
 simp only[T.qaP,hb]at h1;have a:(b !=g)=true:=by simpa using hd
 simp[fU,h1,a]
theorem ZA(tl:List AV)(hs:s.length<=1099511627776)(o:p.f≠-1)(hd:p.f=t.f)(g:bA s p.f=true)(h:k<Q.length)(y:Q'.length=Q.length)(b:Q[k]?=some (some (.d (sg s)::tl)))(z:rest.length<=1000000000)
 (a:∀e,al XV 318 [.ptr k 0,.d (bp .sub (ce p.f p.kids t.kids::rest)),.d (binds .sub u)] (Q++e)=some (.d (.tup []),Q'++e)):
 al XV 322 [.ptr k 0,.d (p.enc .sub),.d (t.enc .sub),.d (bp .sub rest),.d (binds .sub u)] Q=some (.d (.tup []),Q'):=by
 obtain⟨c,q,l⟩:=p;obtain⟨C,x,n⟩:=t;simp only[T.qaP,T.qaC]at o hd g a;subst hd;rw[aJ 322 fU rfl];have h1:=gH (.node c q l);have hb:(c== -1)=false:=by simpa using o
 simp only[T.qaP,hb]at h1;have m:=pF s hs c;rw[g]at m;have j:k<Q.length+2:=by omega
 have w:=a [some [aa c,aa q,.d (aj .sub l)],some [aa c,aa x,.d (aj .sub n)]];have D:∀e,(Q++e)[k]?=some (some (.d (sg s)::tl)):=fun e=>by rw[bY h];exact b
 have hx:Q[k]=some (.d (sg s)::tl):=by rw[eh h]at b;simpa using b
 have hn:¬(Q.length+2<=k):=by omega
 have i:¬(Q.length+2<=Q.length):=by omega
 have ha:=DC [(ce c l n).enc .sub] rest .sub (by simp) (by simp;omega);simp only[bo,ce,bp]at w ha;simp[fU,Di,h1,m,h,j,y,hx,hn,i,ha,Lc,w,splice]
end
theorem H9(l:List T)(i:Nat)(h:i<l.length):List.drop i (List.take (i+1) (l.map (T.enc .sub)))=[(ae l i).enc .sub]:=by
 have h1:i<(l.map (T.enc .sub)).length:=by simpa using h
 rw[List.drop_take,show i+1-i=1 by omega,cW h1];simp[bc h]
theorem Ld{α:Type}(Q:List α)(x y:α):(Q++[x,y]).take (Q.length+2)=Q++[x,y]:=eU (by simp)
def dF(ps ts:List T)(n:Nat):List Gl:=(List.range n).map fun i=>bZ (ae ps i) (ae ts i)
theorem Jo(ps ts:List T)(n:Nat):dF ps ts (n+1)=dF ps ts n++[bZ (ae ps n) (ae ts n)]:=by
 unfold dF;rw[List.range_succ,ea];rfl
theorem Kg(ps ts:List T)(n:Nat):(dF ps ts n).length=n:=by unfold dF;simp
theorem FG(l:List Gl):∀y,y∈l.map (Gl.enc .sub)->y.cells.length=4:=fun y hy=>by
 obtain⟨z,_,rfl⟩:=bP.1 hy;rfl
section
variable (s:List SymL) (p t:T) (rest:List Gl) (u:List Bd) (k:Nat) (Q Q':ah)
theorem Ry(tl:List AV)(hs:s.length<=1099511627776)(i:p.f≠-1)(hd:p.f=t.f)(a:bA s p.f=false)(j:k<Q.length)(b:Q[k]?=some (some (.d (sg s)::tl)))(h:p.kids.length≠t.kids.length):
 al XV 322 [.ptr k 0,.d (p.enc .sub),.d (t.enc .sub),.d (bp .sub rest),.d (binds .sub u)] Q=some (.d (.tup []),Q):=by
 obtain⟨c,n,m⟩:=p;obtain⟨w,x,q⟩:=t;simp only[T.qaP,T.qaC]at i hd a h;subst hd;rw[aJ 322 fU rfl];have h1:=gH (.node c n m);have hb:(c== -1)=false:=by simpa using i
 simp only[T.qaP,hb]at h1;have l:=pF s hs c;rw[a]at l;have g:k<Q.length+2:=by omega
 have hx:Q[k]=some (.d (sg s)::tl):=by rw[eh j]at b;simpa using b
 have hn:¬(Q.length+2<=k):=by omega
 have e:¬(Q.length+2<=Q.length):=by omega
 have o:((m.length:Int) !=q.length)=true:=by simp;omega
 simp[fU,Di,h1,l,o,j,g,hx,hn,e]
theorem Rk(tl:List AV)(hs:s.length<=1099511627776)(M:p.f≠-1)(hd:p.f=t.f)(x:bA s p.f=false)(J:k<Q.length)(Z:Q'.length=Q.length)(q:Q[k]?=some (some (.d (sg s)::tl)))(he:p.kids.length=t.kids.length)
 (hl:rest.length<=1000000000) (I:p.kids.length<=1000000000)
 (l:∀e,al XV 318 [.ptr k 0,.d (bp .sub (dF p.kids t.kids p.kids.length++rest)),.d (binds .sub u)] (Q++e)=some (.d (.tup []),Q'++e)):
 al XV 322 [.ptr k 0,.d (p.enc .sub),.d (t.enc .sub),.d (bp .sub rest),.d (binds .sub u)] Q=some (.d (.tup []),Q'):=by
 obtain⟨j,w,c⟩:=p;obtain⟨tf,y,g⟩:=t;simp only[T.qaP,T.qaC]at M hd x l he I;subst hd;rw[aJ 322 fU rfl];have h1:=gH (.node j w c);have hb:(j== -1)=false:=by simpa using M
 simp only[T.qaP,hb]at h1;have K:=pF s hs j;rw[x]at K;have m:k<Q.length+2:=by omega
 have hx:Q[k]=some (.d (sg s)::tl):=by rw[eh J]at q;simpa using q
 have hn:¬(Q.length+2<=k):=by omega
 have o:¬(Q.length+2<=Q.length):=by omega
 have Y:((c.length:Int) !=g.length)=false:=by simp;omega
 have G:¬(Q.length+2<=Q.length+1):=by omega
 have h:=cg (X:=XV) (T:=XV.lin 322) (L:=Q.length+2) (live:=[0,3,4,6,7,12,77,78]) (b:=vd) (n:=c.length) (γ:=Nat) (st:=fun(_:Unit) i=>⟨[(0,.ptr k 0),(3,.d (bp .sub rest)),(4,.d (binds .sub u)),(6,.ptr Q.length 0),(7,.ptr (Q.length+1) 0),(12,.d (.sl U ((dF c g i).map (Gl.enc .sub)))),(77,aa c.length),(78,aa i)],Q++[some [aa j,aa w,.d (aj .sub c)],some [aa j,aa y,.d (aj .sub g)]]⟩) (step:=jQ)
  (F:=fun _=>(.exit 1,⟨[(0,.ptr k 0),(3,.d (bp .sub rest)),(4,.d (binds .sub u)),(6,.ptr Q.length 0),(7,.ptr (Q.length+1) 0),(12,.d (.sl U ((dF c g c.length).map (Gl.enc .sub)))),(77,aa c.length),(78,aa c.length),(79,ar false)],Q++[some [aa j,aa w,.d (aj .sub c)],some [aa j,aa y,.d (aj .sub g)]]⟩)) (R:=fun _=>(.ret,⟨[],[]⟩))
  (fun a=>⟨by simp,by simp[vd]⟩)
  (fun a i hi=>by
   have hw:=bH (n:=i) (by omega);have H:i<g.length:=by omega
   have O:=H9 c i hi;have W:=H9 g i H;have ha:=DC ((dF c g i).map (Gl.enc .sub)) [bZ (ae c i) (ae g i)] U (FG _) (by rw[dK,Kg];simp;omega);rw[<-List.map_append,<-Jo]at ha;generalize z:(dF c g (i+1)).map (Gl.enc .sub)=R2 at ha;generalize (dF c g i).map (Gl.enc .sub)=R1 at*
   have D:cG 4 64 (.sl U R1) (.sl U [.agg [.bool false,.int .i64 0,.sl .sub [(ae c i).enc .sub],.sl .sub [(ae g i).enc .sub]]])=some (.sl U R2):=ha;have V:i+1<=c.length:=by omega
   have S:i+1<=g.length:=by omega
   have P:(0:Int)<=(i:Int)+1:=by omega
   unfold jQ;exact⟨_,by simp[vd,VC,hi,hw,O,W,D,splice,V,S,P,o,G];rfl,by simp[aE,aD,Ld,m,z]⟩)
  c.length () 0 ⟨[(0,.ptr k 0),(3,.d (bp .sub rest)),(4,.d (binds .sub u)),(6,.ptr Q.length 0),(7,.ptr (Q.length+1) 0),(12,.d (.sl U [])),(77,aa c.length),(78,aa 0)],Q++[some [aa j,aa w,.d (aj .sub c)],some [aa j,aa y,.d (aj .sub g)]]⟩ (by omega) (by simp[aE,aD,dF,m,Ld])
 rw[sG]at h;simp only[UF]at h;have ha:=DC ((dF c g c.length).map (Gl.enc .sub)) rest .sub (FG _) (by rw[dK,Kg];omega);have N:=l [some [aa j,aa w,.d (aj .sub c)],some [aa j,aa y,.d (aj .sub g)]];simp only[bp,ea]at N;have C:((dF c g c.length).map (Gl.enc .sub)).map DV.clr=(dF c g c.length).map (Gl.enc .sub):=by rw[eN,qui]
 generalize (dF c g c.length).map (Gl.enc .sub)=R1 at*
 simp[fU,Di,h1,K,Y,J,m,hx,hn,o];rw[h];simp[Z,ha,N,C]
end
theorem C2(f:Int)(p:T)(ps ts r:List T)(more rest:List Gl)(u:List Bd)(k:Nat)(Q Q' e:ah)(m:k<Q.length)(o:Q'.length=Q.length)(l:more.length+1+rest.length<=1099511627776)(n:ps.length<=1099511627776)
 (a:∀e,al XV 318 [.ptr k 0,.d (bp .sub (more++(ce f ps r::rest))),.d (binds .sub u)] (Q++e)=some (.d (.tup []),Q'++e)):
 al XV 327 [.d (aj .sub r),.d (bp .sub more),.d (binds .sub u),.ptr Q.length 0,.ptr (Q.length+1) 0,.ptr (Q.length+2) 0]
  (Q++some [.ptr k 0]::some [ar true,aa f,.d (aj .sub (p::ps)),.d (aj .sub ts)]::some [.d (bp .sub rest)]::e)=
 some (.d (.tup []),Q'++some [.ptr k 0]::some [ar true,aa f,.d (aj .sub (p::ps)),.d (aj .sub ts)]::some [.d (bp .sub rest)]::e):=by
 rw[aJ 327 xh rfl];have h:=a (some [.ptr k 0]::some [ar true,aa f,.d (aj .sub (p::ps)),.d (aj .sub ts)]::some [.d (bp .sub rest)]::e);have hc:=Zj .sub .sub .sub .sub (by simp) (by simp) (by simp) more [ce f ps r] rest [] (by simp) (by simp;omega);simp only[cP,dj]at hc;have i:List.take ps.length (ps.map (T.enc .sub))=ps.map (T.enc .sub):=eU (by simp);have c:¬(Q.length+(e.length+1+1+1)<=Q.length):=by omega
 have b:¬(Q.length+(e.length+1+1+1)<=Q.length+1):=by omega
 have g:¬(Q.length+(e.length+1+1+1)<=Q.length+2):=by omega
 simp only[bp,bo,cv]at hc;simp only[bp,ea,bo]at h;have j:(ce f ps r).enc .sub= .agg [.bool true,.int .i64 f,aj .sub ps,aj .sub r]:=rfl;rw[j]at hc;simp[xh,qTw,i,c,b,g,hc,h,splice];exact eU (by simp;omega)
section
variable (s:List SymL) (f:Int) (ts:List T) (rest:List Gl) (u:List Bd) (k:Nat) (Q Q':ah)
theorem YN(g:k<Q.length)(h:Q'.length=Q.length)(a:ts.length=0->∀e,al XV 318 [.ptr k 0,.d (bp .sub rest),.d (binds .sub u)] (Q++e)=some (.d (.tup []),Q'++e))(b:ts.length≠0->Q'=Q):
 al XV 321 [.ptr k 0,.d ((Gl.mk true f [] ts).enc .sub),.d (bp .sub rest),.d (binds .sub u)] Q=some (.d (.tup []),Q'):=by
 rw[aJ 321 gp rfl]
 by_cases c:ts.length=0
 ·have hc:ts=[]:=kp.1 c
  have i:=a c [some [.ptr k 0],some [ar true,aa f,.d (aj .sub []),.d (aj .sub [])],some [.d (bp .sub rest)]];subst hc;simp[gp,i,g,h]
 ·have hc:((ts.length:Int)==0)=false:=by simpa using c
  rw[b c];simp[gp,hc,g]
theorem UJ(p:T)(ps:List T)(j:Nat)(J:p.f= -1)(hb:dm u p.v=some j)(I:small u)(o:k<Q.length)(H:Q'.length=Q.length)(M:rest.length<=1000000000)(O:ps.length<=1000000000)
 (y:ts.length<=1099511627776) (F:∀x,x∈ts->x.inner<=1099511627776)
 (l:∀r,takeN ts (partsOf f (az u j).t)= .inl r->∀e,al XV 318 [.ptr k 0,.d (bp .sub (ce f ps r::rest)),.d (binds .sub u)] (Q++e)=some (.d (.tup []),Q'++e)) (D:∀r,takeN ts (partsOf f (az u j).t)= .inr r->Q'=Q):
 al XV 321 [.ptr k 0,.d ((Gl.mk true f (p::ps) ts).enc .sub),.d (bp .sub rest),.d (binds .sub u)] Q=some (.d (.tup []),Q'):=by
 obtain⟨N,q,C⟩:=p;simp only[T.qaP,T.qb7]at J hb l;subst J;have hj:=(eT _ _ _ _ (show aO (fun i=>(az u i).v==q) u.length 0=some j from hb)).2.1;rw[aJ 321 gp rfl];have h1:=gH (.node (-1) q C);simp only[T.qaP,BEq.rfl]at h1;have n:=rm u q I.1;rw[hb]at n;simp only at n;have hw:=I.2 j (by omega);generalize (az u j).t=w at*
 obtain⟨wf,g,b⟩:=w;have G:∀x,x∈partsOf f (.node wf g b)->x.inner<=1099511627776:=fun x hx=>by
  unfold partsOf at hx;split at hx
  ·simp only[T.inner]at hw
   simp only[T.qaC]at hx;have:=T.qaI hx;omega
  ·simp at hx;subst hx;exact hw
 have z:(partsOf f (.node wf g b)).length<=1099511627776:=by
  unfold partsOf;split
  ·have K:=T.qdX (.node wf g b)
   simp only[T.qaC]at K⊢
   omega
  ·simp
 have a:=ZM ts (partsOf f (.node wf g b)) y z F G;have h:(((ps.length:Int)+1)==0)=false:=by simp;omega
 cases hc:takeN ts (partsOf f (.node wf g b))with
 |inl r=>
  rw[hc]at a;have m:=C2 f (.node (-1) q C) ps ts r [] rest u k Q Q' [some [aa (-1),aa q,.d (aj .sub C)],some [aa wf,aa g,.d (aj .sub b)]] o H (by simp;omega) (by omega) (by simpa using l r hc);simp only[bp,cv]at m
  by_cases c:wf=f
  ·have ep:partsOf f (.node wf g b)=b:=by unfold partsOf;rw[ap (show(T.node wf g b).f=f from c)];rfl
   rw[ep]at a;subst c;simp only at a;simp[gp,h1,n,a,m,o,H,h,splice,cut]
  ·have ep:partsOf f (.node wf g b)=[.node wf g b]:=by unfold partsOf;rw[ak (show¬(T.node wf g b).f=f from c)]
   rw[ep]at a;have c2:(wf==f)=false:=by simpa using c
   simp only[aj,bo,cv]at a;simp[gp,h1,n,c2,a,m,o,H,h,splice,cut]
 |inr r=>
  rw[hc]at a;rw[D r hc]
  by_cases c:wf=f
  ·have ep:partsOf f (.node wf g b)=b:=by unfold partsOf;rw[ap (show(T.node wf g b).f=f from c)];rfl
   rw[ep]at a;subst c;simp only at a;simp[gp,h1,n,a,o,h,splice,cut]
  ·have ep:partsOf f (.node wf g b)=[.node wf g b]:=by unfold partsOf;rw[ak (show¬(T.node wf g b).f=f from c)]
   rw[ep]at a;have c2:(wf==f)=false:=by simpa using c
   simp only[aj,bo,cv]at a;simp[gp,h1,n,c2,a,o,h,splice,cut]
end
theorem Gn{α:Type}{B:List α}{N:Nat}(h:B.length=N)(a b c d e v:α)(r:List α):(B++a::b::c::d::e::r).set (N+4) v=B++a::b::c::d::v::r:=by subst h;rw[mJ _ _ (by omega),show B.length+4-B.length=4 by omega];rfl
theorem F5{α:Type}{B:List α}{N:Nat}(h:B.length=N)(a b c d:α)(r:List α):(B++a::b::c::d::r).take (N+4)=B++[a,b,c,d]:=by
 subst h;rw[show B++a::b::c::d::r=(B++[a,b,c,d])++r by simp,ED (by simp)]
theorem M0(f:Int)(p:T)(ps ts:List T)(rest:List Gl)(u:List Bd)(k:Nat)(m:Nat->ah)(N:Nat)(q:∀i,(m i).length=N)(K:p.f≠-1)(M:k<N)(W:rest.length<=1000000000)(V:ps.length<=1000000000)(S:ts.length<=1000000000)
 (x:∀i,i<ts.length->∀e,al XV 318 [.ptr k 0,.d (bp .sub (bZ p (ae ts i)::ce f ps (dM ts i)::rest)),.d (binds .sub u)] (m i++e)=some (.d (.tup []),m (i+1)++e)):
 al XV 321 [.ptr k 0,.d ((Gl.mk true f (p::ps) ts).enc .sub),.d (bp .sub rest),.d (binds .sub u)] (m 0)=some (.d (.tup []),m ts.length):=by
 obtain⟨c,j,g⟩:=p;simp only[T.qaP]at K;rw[aJ 321 gp rfl];have h1:=gH (.node c j g);have hb:(c== -1)=false:=by simpa using K
 simp only[T.qaP,hb]at h1;have h:=cg (X:=XV) (T:=XV.lin 321) (L:=N+4) (live:=[3,5,8,9,43,44,45]) (b:=vT) (n:=ts.length) (γ:=Nat)
  (st:=fun(_:Unit) i=>⟨[(3,.d (binds .sub u)),(5,.ptr (N+1) 0),(8,.ptr (N+3) 0),(9,.fn 327 [.ptr N 0,.ptr (N+1) 0,.ptr (N+2) 0]),(43,.d (aj .sub ts)),(44,aa ts.length),(45,aa i)],
   m i++[some [.ptr k 0],some [ar true,aa f,.d (aj .sub (.node c j g::ps)),.d (aj .sub ts)],some [.d (bp .sub rest)],some [aa c,aa j,.d (aj .sub g)]]⟩) (step:=jQ)
  (F:=fun _=>(.exit 0,⟨[(3,.d (binds .sub u)),(5,.ptr (N+1) 0),(8,.ptr (N+3) 0),(9,.fn 327 [.ptr N 0,.ptr (N+1) 0,.ptr (N+2) 0]),(43,.d (aj .sub ts)),(44,aa ts.length),(45,aa ts.length),(46,ar false)],
   m ts.length++[some [.ptr k 0],some [ar true,aa f,.d (aj .sub (.node c j g::ps)),.d (aj .sub ts)],some [.d (bp .sub rest)],some [aa c,aa j,.d (aj .sub g)]]⟩)) (R:=fun _=>(.ret,⟨[],[]⟩))
  (fun a=>⟨by simp,by simp[vT]⟩)
  (fun a i hi=>by
   have hw:=bH (n:=i) (by omega);have w:=q i;have o:=q (i+1);have P:=x i hi;have H:=K2 .sub (by simp) ts i [] hi (by omega);have J:=bc hi;generalize O:ae ts i=t at*
   obtain⟨z,y,C⟩:=t;have l:=C2 f (.node c j g) ps ts (dM ts i) [bZ (.node c j g) (.node z y C)] rest u k (m i) (m (i+1)) [some [aa c,aa j,.d (aj .sub g)],some [aa z,aa y,.d (aj .sub C)]] (by omega) (by omega) (by simp;omega) (by omega) P;rw[w]at l;have G:bp .sub [bZ (.node c j g) (.node z y C)]= .sl .sub [.agg [.bool false,.int .i64 0,.sl .sub [(T.node c j g).enc .sub],.sl .sub [(T.node z y C).enc .sub]]]:=rfl;rw[G]at l;unfold dM at l;simp only[aj,ea,List.map_take,List.map_drop]at l;unfold jQ;refine⟨_,by simp[vT,X3,hi,hw,cut,J,H,l,Gn w,w,o,splice];rfl,?_⟩;simp[aE,aD,F5 o,o])
  ts.length () 0 ⟨[(3,.d (binds .sub u)),(5,.ptr (N+1) 0),(8,.ptr (N+3) 0),(9,.fn 327 [.ptr N 0,.ptr (N+1) 0,.ptr (N+2) 0]),(43,.d (aj .sub ts)),(44,aa ts.length),(45,aa 0)],
   m 0++[some [.ptr k 0],some [ar true,aa f,.d (aj .sub (.node c j g::ps)),.d (aj .sub ts)],some [.d (bp .sub rest)],some [aa c,aa j,.d (aj .sub g)]]⟩ (by omega) (by simp[aE,aD,F5 (q 0),q 0])
 rw[sG]at h;simp only[CR]at h;have w:=q 0;have I:=q ts.length;have D:(((ps.length:Int)+1)==0)=false:=by simp;omega
 simp[gp,h1,D,M,w,splice,cut];rw[h];simp[I]
theorem Yv(ts:List T)(m:Nat)(u:List Bd)(N:Nat)(Bx:ah)(g:Bx.length=N+5)(D:ts.length<=30)(hm:m<1099511627776):
 bV XV (XV.lin 321) (N+5) [3,4,5,8,9,17,18,19,109,110,111] ow ⟨[(3,.d (binds .sub u)),(4,.ptr N 0),(5,.ptr (N+1) 0),(8,.ptr (N+3) 0),(9,.fn 327 [.ptr N 0,.ptr (N+1) 0,.ptr (N+2) 0]),(17,aa m),(18,.d (.sl U [])),(19,.d (.sl U [])),(109,.d (aj .sub ts)),(110,aa ts.length),(111,aa 0)],Bx⟩=
  some (.exit 4,⟨[(3,.d (binds .sub u)),(4,.ptr N 0),(5,.ptr (N+1) 0),(8,.ptr (N+3) 0),(9,.fn 327 [.ptr N 0,.ptr (N+1) 0,.ptr (N+2) 0]),(17,aa m),(18,.d (.sl U ((bQ ts m ts.length).map (T.enc .sub)))),(19,.d (.sl U ((cq ts m ts.length).map (T.enc .sub)))),(109,.d (aj .sub ts)),(110,aa ts.length),(111,aa ts.length),(112,ar false)],Bx⟩):=by
 have h:=cg (X:=XV) (T:=XV.lin 321) (L:=N+5) (live:=[3,4,5,8,9,17,18,19,109,110,111]) (b:=ow) (n:=ts.length) (γ:=Nat)
  (st:=fun(_:Unit) i=>⟨[(3,.d (binds .sub u)),(4,.ptr N 0),(5,.ptr (N+1) 0),(8,.ptr (N+3) 0),(9,.fn 327 [.ptr N 0,.ptr (N+1) 0,.ptr (N+2) 0]),(17,aa m),(18,.d (.sl U ((bQ ts m i).map (T.enc .sub)))),(19,.d (.sl U ((cq ts m i).map (T.enc .sub)))),(109,.d (aj .sub ts)),(110,aa ts.length),(111,aa i)],Bx⟩) (step:=jQ)
  (F:=fun _=>(.exit 4,⟨[(3,.d (binds .sub u)),(4,.ptr N 0),(5,.ptr (N+1) 0),(8,.ptr (N+3) 0),(9,.fn 327 [.ptr N 0,.ptr (N+1) 0,.ptr (N+2) 0]),(17,aa m),(18,.d (.sl U ((bQ ts m ts.length).map (T.enc .sub)))),(19,.d (.sl U ((cq ts m ts.length).map (T.enc .sub)))),(109,.d (aj .sub ts)),(110,aa ts.length),(111,aa ts.length),(112,ar false)],Bx⟩)) (R:=fun _=>(.ret,⟨[],[]⟩))
  (fun a=>⟨by simp,by simp[ow]⟩)
  (fun a i hi=>by
   have hw:=bH (n:=i) (by omega);have h1:=HO ts m i;have H:=Gz ts m i;have C:=G0 (bQ ts m i) [ae ts i] U (by simp;omega);have z:=G0 (cq ts m i) [ae ts i] U (by simp;omega);simp only[bo,cv,ea]at C z;have j:=Yu m i (by omega);have y:m/2^i<4611686018427387904:=Nat.lt_of_le_of_lt (Nat.div_le_self _ _) (by omega);have c:=and_one (m/2^i) y;have e:=Y3 m i;generalize m/2^i=q at j c e;generalize q%2=r at c e;have l:=bc hi;have w:bQ ts m (i+1)=if m.testBit i then bQ ts m i++[ae ts i]else bQ ts m i:=rfl
   have o:cq ts m (i+1)=if m.testBit i then cq ts m i else cq ts m i++[ae ts i]:=rfl
   generalize ae ts i=t at*
   obtain⟨G,I,J⟩:=t;have tB:∀(x:Option (List AV)) (r:ah),(Bx++x::r).take (N+5)=Bx:=fun x r=>by rw[<-g];simp
   unfold jQ
   by_cases hb:m.testBit i=true
   ·exact⟨_,by simp[ow,hi,hw,cut,l,C,j,c,e,hb,g,splice];rfl,by simp[aE,aD,w,o,hb,g,tB]⟩
   ·exact⟨_,by simp[ow,hi,hw,cut,l,z,j,c,e,hb,g,splice];rfl,by simp[aE,aD,w,o,hb,g,tB]⟩)
  ts.length () 0 ⟨[(3,.d (binds .sub u)),(4,.ptr N 0),(5,.ptr (N+1) 0),(8,.ptr (N+3) 0),(9,.fn 327 [.ptr N 0,.ptr (N+1) 0,.ptr (N+2) 0]),(17,aa m),(18,.d (.sl U [])),(19,.d (.sl U [])),(109,.d (aj .sub ts)),(110,aa ts.length),(111,aa 0)],Bx⟩ (by omega) (by simp[aE,aD,bQ,cq,g];rw[<-g];simp)
 rw[sG]at h;exact h
theorem Gw(n:Nat)(hn:n<=40):cR .shl .i64 1 (n:Int)=some (.int .i64 ((2^n:Nat):Int)):=by
 unfold cR;have a:¬((n:Int)<0):=by omega
 have hb:IntKind.i64.bits=64:=rfl;have hm:min n 64=n:=by omega
 have b:2^n<=2^40:=tw (by omega) hn;simp only[ak a,xM,hb,hm,aB,DV.int.injEq,jP,Int.one_mul];rw[show((2:Int)^n)=((2^n:Nat):Int)by rw[Int.natCast_pow];rfl,IntKind.wrap_i64];generalize 2^n=q at*
 omega
theorem FH{α:Type}{B:List α}{N:Nat}(h:B.length=N)(a b c d f:α)(r:List α):(B++a::b::c::d::f::r).take (N+5)=B++[a,b,c,d,f]:=by
 subst h;rw[show B++a::b::c::d::f::r=(B++[a,b,c,d,f])++r by simp,ED (by simp)]
def rD(D:Nat->Bool)(_:Unit)(i:Nat):Unit⊕Nat:=if D i then .inr i else .inl ()
theorem qjU(s:List SymL)(hs:s.length<=1099511627776)(f:Int)(a:Int)(c ps ts:List T)(rest:List Gl)(u:List Bd)(k:Nat)(b:Nat->ah)(D:Nat->Bool)(N:Nat)(O:∀i,(b i).length=N)(Y:k<N)(hl:rest.length<=1000000000)(Z:ps.length<=1000000000)(C:ts.length<=12)(V:u.length<=1099511627776)
 (X:∀i e,al XV 319 [.ptr k 0] (b i++e)=some (ar (D i),b i++e)) (tl:Nat->List AV) (o:∀i,(b i)[k]?=some (some (.d (sg s)::tl i))) (K:∀m,bh (bQ ts m ts.length)<=1099511627776)
 (i:Nat) (hi:i+1<2^ts.length) (I:D i=false)
 (j:∀e,al XV 318 [.ptr k 0,.d (bp .sub (ce f ps (cq ts (i+1) ts.length)::rest)),.d (binds .sub (cM u a (dp s f (bQ ts (i+1) ts.length))))] (b i++e)=some (.d (.tup []),b (i+1)++e)):
 ∃e,aH XV (XV.lin 321) nH ⟨[(3,.d (binds .sub u)),(4,.ptr N 0),(5,.ptr (N+1) 0),(8,.ptr (N+3) 0),(9,.fn 327 [.ptr N 0,.ptr (N+1) 0,.ptr (N+2) 0]),(17,aa (i+1:Nat))],
  b i++[some [.ptr k 0],some [ar true,aa f,.d (aj .sub (.node (-1) a c::ps)),.d (aj .sub ts)],some [.d (bp .sub rest)],some [aa (-1),aa a,.d (aj .sub c)],some [aa 0,aa 0,.d (aj .sub [])]]⟩=
  some (.normal,⟨[(3,.d (binds .sub u)),(4,.ptr N 0),(5,.ptr (N+1) 0),(8,.ptr (N+3) 0),(9,.fn 327 [.ptr N 0,.ptr (N+1) 0,.ptr (N+2) 0]),(17,aa (i+1+1:Nat))],
   b (i+1)++some [.ptr k 0]::some [ar true,aa f,.d (aj .sub (.node (-1) a c::ps)),.d (aj .sub ts)]::some [.d (bp .sub rest)]::some [aa (-1),aa a,.d (aj .sub c)]::some [aa 0,aa 0,.d (aj .sub [])]::e⟩):=by
 have G:2^ts.length<=2^12:=tw (by omega) C;have H:=Gw ts.length (by omega);have J:((i+1:Nat):Int)<((2^ts.length:Nat):Int):=by omega
 have hw:=bH (n:=i+1) (by omega);have q:=O i;have x:=O (i+1);have l:=Yv ts (i+1) u N (b i++[some [.ptr k 0],some [ar true,aa f,.d (aj .sub (.node (-1) a c::ps)),.d (aj .sub ts)],some [.d (bp .sub rest)],some [aa (-1),aa a,.d (aj .sub c)],some [aa 0,aa 0,.d (aj .sub [])]]) (by simp[q]) (by omega) (by omega);have hd:=X i [some [.ptr k 0],some [ar true,aa f,.d (aj .sub (.node (-1) a c::ps)),.d (aj .sub ts)],some [.d (bp .sub rest)],some [aa (-1),aa a,.d (aj .sub c)],some [aa 0,aa 0,.d (aj .sub [])]];rw[I]at hd;have F:=LU s hs f (bQ ts (i+1) ts.length) (K _);have z:=JB .sub .sub (by simp) (by simp) u a (dp s f (bQ ts (i+1) ts.length)) [] V;have g:=C2 f (.node (-1) a c) ps ts (cq ts (i+1) ts.length) [] rest (cM u a (dp s f (bQ ts (i+1) ts.length))) k (b i) (b (i+1)) [some [aa (-1),aa a,.d (aj .sub c)],some [aa 0,aa 0,.d (aj .sub [])]] (by omega) (by omega) (by simp;omega) (by omega) (by simpa using j);rw[q]at g;have hg:∀e,(b i++e)[k]?=some (some (.d (sg s)::tl i)):=fun e=>by rw[bY (by omega)];exact o i
 have hx:∀h,(b i)[k]'h=some (.d (sg s)::tl i):=fun h=>by have:=o i;rw[eh h]at this;simpa using this
 have y:∀e h,(b i++e)[k]'h=some (.d (sg s)::tl i):=fun e h=>by rw[List.getElem_append_left (by omega)];exact hx _
 have w:k<N+5:=by omega
 have R:¬(N+5<=N):=by omega
 have S:¬(N+5<=N+1):=by omega
 have W:¬(N+5<=N+3):=by omega
 have P:¬(N+5<=k):=by omega
 simp only[CR]at l⊢
 refine⟨[],?_⟩;generalize cM u a (dp s f (bQ ts (i+1) ts.length))=u2 at*
 generalize dp s f (bQ ts (i+1) ts.length)=mk at*
 generalize bQ ts (i+1) ts.length=on at*
 generalize cq ts (i+1) ts.length=off at*
 generalize ((2^ts.length:Nat):Int)=M at*
 generalize ((i+1:Nat):Int)=m at*
 generalize ((i+1+1:Nat):Int)=m2 at*
 simp only[bp,cv]at g;simp[nH,H,J,hd,q];rw[l];simp[VP,y,w,R,S,W,P,q,x,F,z,g,hw]
theorem SA(s:List SymL)(hs:s.length<=1099511627776)(f:Int)(g:Int)(l ps ts:List T)(rest:List Gl)(u:List Bd)(k:Nat)(c:Nat->ah)(D:Nat->Bool)(N:Nat)(o:∀i,(c i).length=N)(Y:k<N)(hl:rest.length<=1000000000)(hp:ps.length<=1000000000)(S:ts.length<=12)(Z:u.length<=1099511627776)
 (hD:∀i e,al XV 319 [.ptr k 0] (c i++e)=some (ar (D i),c i++e)) (tl:Nat->List AV) (V:∀i,(c i)[k]?=some (some (.d (sg s)::tl i))) (W:∀m,bh (bQ ts m ts.length)<=1099511627776)
 (hb:dm u g=none) (O:∀i,D i=true->D (i+1)=true) (I:∀i,D i=true->c (i+1)=c i)
 (y:∀i,i+1<2^ts.length->D i=false->∀e,al XV 318 [.ptr k 0,.d (bp .sub (ce f ps (cq ts (i+1) ts.length)::rest)),.d (binds .sub (cM u g (dp s f (bQ ts (i+1) ts.length))))] (c i++e)=some (.d (.tup []),c (i+1)++e)):
 al XV 321 [.ptr k 0,.d ((Gl.mk true f (.node (-1) g l::ps) ts).enc .sub),.d (bp .sub rest),.d (binds .sub u)] (c 0)=some (.d (.tup []),c (2^ts.length-1)):=by
 rw[aJ 321 gp rfl];have h1:=gH (.node (-1) g l);simp only[T.qaP,BEq.rfl]at h1;have J:=rm u g Z;rw[hb]at J;simp only at J;have G:=Gw ts.length (by omega);have h:=cg (X:=XV) (T:=XV.lin 321) (L:=N+5) (live:=[3,4,5,8,9,17]) (b:=nH) (n:=2^ts.length-1) (γ:=Nat)
  (st:=fun(_:Unit) i=>⟨[(3,.d (binds .sub u)),(4,.ptr N 0),(5,.ptr (N+1) 0),(8,.ptr (N+3) 0),(9,.fn 327 [.ptr N 0,.ptr (N+1) 0,.ptr (N+2) 0]),(17,aa (i+1:Nat))],c i++[some [.ptr k 0],some [ar true,aa f,.d (aj .sub (.node (-1) g l::ps)),.d (aj .sub ts)],some [.d (bp .sub rest)],some [aa (-1),aa g,.d (aj .sub l)],some [aa 0,aa 0,.d (aj .sub [])]]⟩) (step:=rD D)
  (F:=fun _=>(.exit 2,⟨[(3,.d (binds .sub u)),(4,.ptr N 0),(5,.ptr (N+1) 0),(8,.ptr (N+3) 0),(9,.fn 327 [.ptr N 0,.ptr (N+1) 0,.ptr (N+2) 0]),(17,aa (2^ts.length-1+1:Nat)),(103,ar false)],c (2^ts.length-1)++[some [.ptr k 0],some [ar true,aa f,.d (aj .sub (.node (-1) g l::ps)),.d (aj .sub ts)],some [.d (bp .sub rest)],some [aa (-1),aa g,.d (aj .sub l)],some [aa 0,aa 0,.d (aj .sub [])]]⟩)) (R:=fun i=>(.exit 2,⟨[(3,.d (binds .sub u)),(4,.ptr N 0),(5,.ptr (N+1) 0),(8,.ptr (N+3) 0),(9,.fn 327 [.ptr N 0,.ptr (N+1) 0,.ptr (N+2) 0]),(17,aa (i+1:Nat)),(103,ar false)],c i++[some [.ptr k 0],some [ar true,aa f,.d (aj .sub (.node (-1) g l::ps)),.d (aj .sub ts)],some [.d (bp .sub rest)],some [aa (-1),aa g,.d (aj .sub l)],some [aa 0,aa 0,.d (aj .sub [])]]⟩))
  (fun a=>⟨by simp,by
   have w:¬((2^ts.length-1+1:Nat):Int)<((2^ts.length:Nat):Int):=by omega
   have x:=o (2^ts.length-1);generalize ((2^ts.length:Nat):Int)=M at*
   generalize ((2^ts.length-1+1:Nat):Int)=m at*
   generalize c (2^ts.length-1)=Q at*
   simp[nH,G,w,x]⟩)
  (fun a i hi=>by
   have x:=o i;have z:=o (i+1);unfold rD;cases hd0:D i with
   |true=>
    have hd:=hD i [some [.ptr k 0],some [ar true,aa f,.d (aj .sub (.node (-1) g l::ps)),.d (aj .sub ts)],some [.d (bp .sub rest)],some [aa (-1),aa g,.d (aj .sub l)],some [aa 0,aa 0,.d (aj .sub [])]];rw[hd0]at hd;have w:(i:Int)+1<((2^ts.length:Nat):Int):=by omega
    generalize ((2^ts.length:Nat):Int)=M at*
    exact⟨by simp,by simp[nH,G,w,hd,x]⟩
   |false=>
    obtain⟨e,he⟩:=qjU s hs f g l ps ts rest u k c D N o Y hl hp S Z hD tl V W i (by omega) hd0 (y i (by omega) hd0);refine⟨_,he,?_⟩;simp[aE,aD,FH z,z])
  (2^ts.length-1) () 0 ⟨[(3,.d (binds .sub u)),(4,.ptr N 0),(5,.ptr (N+1) 0),(8,.ptr (N+3) 0),(9,.fn 327 [.ptr N 0,.ptr (N+1) 0,.ptr (N+2) 0]),(17,aa 1)],c 0++[some [.ptr k 0],some [ar true,aa f,.d (aj .sub (.node (-1) g l::ps)),.d (aj .sub ts)],some [.d (bp .sub rest)],some [aa (-1),aa g,.d (aj .sub l)],some [aa 0,aa 0,.d (aj .sub [])]]⟩ (by omega) (by simp[aE,aD,FH (o 0),o 0])
 have H:∀n i,match runN (rD D) n () i with| .inl _=>True| .inr j=>c j=c (i+n):=by
  intro n
  induction n with
  |zero=>intro i;trivial
  |succ n ih=>
   intro i;simp only[runN,rD];cases hd0:D i with
   |true=>
    simp only[if_true];have:∀m,D (i+m)=true/\c (i+m)=c i:=fun m=>by
     induction m with
     |zero=>exact⟨hd0,rfl⟩
     |succ m q=>exact⟨O _ q.1,by rw[<-Nat.add_assoc,I _ q.1,q.2]⟩
    exact(this (n+1)).2.symm
   |false=>
    simp only[bI,if_false];have:=ih (i+1);rwa[show i+1+n=i+(n+1)by omega]at this
 have P:=H (2^ts.length-1) 0;have x:=o 0;have K:(((ps.length:Int)+1)==0)=false:=by simp;omega
 have C:=o (2^ts.length-1);simp only[CR]at h;simp[gp,h1,J,K,Y,x,Gn x,splice,cut];rw[h];cases hrn:runN (rD D) (2^ts.length-1) () 0 with
 |inl a=>simp[C]
 |inr j=>
  rw[hrn]at P;simp only[eQ]at P;simp[P,C]
mutual
def T.nf(s:List SymL):T->Prop
 | .node f v ks=>T.nfs s ks/\(bA s f=true->(∀k,k∈ks->k.f≠f)/\bW ks)
def T.nfs(s:List SymL):List T->Prop
 | []=>True
 |t::r=>t.nf s/\T.nfs s r
end
theorem T.qjd(s:List SymL):∀l:List T,T.nfs s l↔∀t,t∈l->t.nf s
 | []=>by simp[T.nfs]
 |t::r=>by simp[T.nfs,T.qjd s r]
theorem M7(s:List SymL)(f:Int)(l:List T)(t:T):t∈flatK s f l↔∃k,k∈l/\t∈dk s f k:=by unfold flatK;simp
theorem x7(s:List SymL)(f:Int):∀l:List T,(∀k,k∈l->k.f≠f)->flatK s f l=l
 | [],_=>rfl
 |k::l,h=>by
  rw[og,x7 s f l (fun x hx=>h x (by simp[hx]))];have a:(k.f==f)=false:=by simpa using h k (by simp)
  simp[dk,a]
mutual
theorem C0(s:List SymL):∀t:T,(t.norm s).nf s
 | .node f v ks=>by
  have d:=Fa s ks;rw[T.qjd]at d;simp only[T.norm,T.nf]
  by_cases hb:bA s f=true
  ·simp only[hb,if_true]
   have i:∀e,e∈flatK s f (T.norms s ks)->e.nf s/\e.f≠f:=fun e he=>by
    obtain⟨k,h1,a⟩:=(M7 s f _ e).1 he;have c:=d k h1;unfold dk at a
    by_cases b:k.f=f
    ·have:(bA s f&&k.f==f)=true:=by simp[hb,b]
     rw[ap this]at a;obtain⟨j,v',g⟩:=k;simp only[T.qaP]at b;subst b;simp only[T.nf,T.qaC]at c a;exact⟨(T.qjd s g).1 c.1 e a,(c.2 hb).1 e a⟩
    ·have:(bA s f&&k.f==f)=false:=by simp[b]
     rw[this]at a;simp at a;subst a
     exact⟨c,b⟩
   refine⟨?_,fun _=>⟨fun e he=>(i e ((jX _).mem_iff.1 he)).2,Gg _⟩⟩;rw[T.qjd];exact fun e he=>(i e ((jX _).mem_iff.1 he)).1
  ·simp only[hb,bI,if_false]
   refine⟨?_,fun h=>absurd h id⟩;rw[T.qjd,rG s f hb];exact d
theorem Fa(s:List SymL):∀l:List T,T.nfs s (T.norms s l)
 | []=>by simp[T.norms,T.nfs]
 |t::r=>by simp only[T.norms,T.nfs];exact⟨C0 s t,Fa s r⟩
end
mutual
theorem nC(s:List SymL):∀t:T,t.nf s->t.norm s=t
 | .node f v ks,h=>by
  simp only[T.nf]at h;simp only[T.norm,Iz s ks h.1]
  by_cases hb:bA s f=true
  ·obtain⟨h1,a⟩:=h.2 hb
   simp only[hb,if_true];rw[x7 s f ks h1,<-vk (iU ks) a]
  ·simp only[hb,bI,if_false]
   rw[rG s f hb]
theorem Iz(s:List SymL):∀l:List T,T.nfs s l->T.norms s l=l
 | [],_=>by simp[T.norms]
 |t::r,h=>by simp only[T.norms];rw[nC s t h.1,Iz s r h.2]
end
theorem Fy:∀l:List T,(∀i,0<i->i<l.length->¬T.cmp (ae l i) (ae l (i-1))<0)->bW l
 | [],_=>mr
 | [a],_=>qc _ _
 |a::b::r,h=>by
  have g:=Fy (b::r) (fun i d hi=>by
   have:=h (i+1) (by omega) (by simpa using hi);have e:∀j,ae (a::b::r) (j+1)=ae (b::r) j:=fun j=>by simp[ae]
   rw[e i,show i+1-1=(i-1)+1 by omega,e (i-1)]at this;exact this)
  have d:=h 1 (by omega) (by simp);simp only[ae,lH,d9,eE,mq]at d;have c:c8 a b:=oW d;refine gC.2 ⟨fun y hy=> ?_,g⟩;rcases br.1 hy with rfl|hy
  ·exact c
  ·exact pt c ((gC.1 g).1 y hy)
theorem Dc{l:List SymL}{f:Int}(h:bA l f=true):(aR l f.toNat).ac=true:=by
 unfold bA at h;simp only[aF]at h;exact h.2
theorem C9(q:Nat->Bool)(n:Nat)(h:(aO q n 0).isNone=true):∀i,i<n->q i=false:=fun i hi=>by
 have:=(m0 q n 0).2 (by simpa using h) i (by omega) (by omega);exact this
mutual
theorem mu(l:List SymL):∀t:T,T.form l t=true->t.nf l
 | .node f v ks,h=>by
  simp only[T.form]at h;simp only[T.nf]
  by_cases d:f= -1
  ·rw[ap d]at h
   have c:ks=[]:=by
    simp only[aF,ba]at h;exact mc h.2
   subst c;exact⟨trivial,fun _=>⟨fun k c=>by simp at c,mr⟩⟩
  ·rw[ak d]at h
   split at h
   ·simp at h
   ·have e:=C9 _ _ h
    have b:∀i,i<ks.length->T.form l (ae ks i)=true/\da l f ks i=false:=fun i hi=>by
     have:=e i hi;rw[T.qko l ks i hi]at this;simpa using this
    refine⟨EZ l ks (fun i hi=>(b i hi).1),fun hb=>⟨fun k c=> ?_,Fy ks fun i g hi=> ?_⟩⟩
    ·obtain⟨i,hi,rfl⟩:=jl c
     have a:=(b i hi).2;rw[bc hi];unfold da at a;rw[ap (Dc hb)]at a;intro he;rw[ap he]at a;simp at a
    ·have a:=(b i hi).2
     unfold da at a;rw[ap (Dc hb)]at a;split at a
     ·simp at a
     ·rw[ak (by omega)]at a
      simpa using a
theorem EZ(l:List SymL):∀ks:List T,(∀i,i<ks.length->T.form l (ae ks i)=true)->T.nfs l ks
 | [],_=>trivial
 |t::r,h=>⟨mu l t (by have:=h 0 (by simp);simpa[ae]using this),EZ l r fun i hi=>by have:=h (i+1) (by simpa using hi);simpa[ae]using this⟩
end
theorem CF{s:List SymL}{f:Int}(h:bA s f=true):dL s f=true:=by
 unfold bA at h;simp only[aF]at h;exact h.1
theorem Ku(s:List SymL)(f:Int)(ks:List T)(hb:bA s f=true)(a:2<=ks.length):dp s f ks= .node f 0 (dX (flatK s f (ks.map (T.norm s)))):=by
 unfold dp;rw[ak (fun h=>by omega),ak (fun h=>by omega),ap (CF hb)];simp only[T.norm,hb,if_true,T.norms_map]
def cd(s:List SymL):List Gl->List Bd->List (List Gl×List Bd)
 | [],_=>[]
 |⟨true,f,ps,ts⟩::rest,u=>(match ps with
  | []=>if ts.length=0 then [(rest,u)]else []
  |p::ps=>if p.f= -1 then(match dm u p.v with
   |some j=>(match takeN ts (partsOf f (az u j).t)with
    | .inl r=>[(ce f ps r::rest,u)]
    | .inr _=>[])
   |none=>(List.range (2^ts.length-1)).map fun m=>(ce f ps (cq ts (m+1) ts.length)::rest,cM u p.v (dp s f (bQ ts (m+1) ts.length))))
   else(List.range ts.length).map fun i=>(bZ p (ae ts i)::ce f ps (dM ts i)::rest,u))
 |⟨false,f,ps,ts⟩::rest,u=>(if(ae ps 0).f= -1 then(match dm u (ae ps 0).v with
  |none=>[(rest,cM u (ae ps 0).v (ae ts 0))]
  |some j=>if T.cmp (az u j).t (ae ts 0)==0 then [(rest,u)]else [])
  else if(ae ps 0).f≠(ae ts 0).f then []
  else if bA s (ae ps 0).f=true then [(ce (ae ps 0).f (ae ps 0).kids (ae ts 0).kids::rest,u)]
  else if(ae ps 0).kids.length≠(ae ts 0).kids.length then []
  else [(dF (ae ps 0).kids (ae ts 0).kids (ae ps 0).kids.length++rest,u)])
theorem eI(s:List SymL)(f:Int)(p t:T)(rest:List Gl)(u:List Bd):cd s (⟨false,f,[p],[t]⟩::rest) u=
 (if p.f= -1 then(match dm u p.v with
  |none=>[(rest,cM u p.v t)]
  |some j=>if T.cmp (az u j).t t==0 then [(rest,u)]else [])
 else if p.f≠t.f then []
 else if bA s p.f=true then [(ce p.f p.kids t.kids::rest,u)]
 else if p.kids.length≠t.kids.length then []
 else [(dF p.kids t.kids p.kids.length++rest,u)]):=rfl
theorem xq(s:List SymL)(n:Nat)(u:List Bd):cQ s (n+1) [] u=[none,some u]:=rfl
theorem xk(s:List SymL)(n:Nat)(g:Gl)(rest:List Gl)(u:List Bd):cQ s (n+1) (g::rest) u=none::(cd s (g::rest) u).flatMap fun c=>cQ s n c.1 c.2:=by
 obtain⟨m,f,ps,ts⟩:=g;cases m with
 |true=>
  cases ps with
  |nil=>
   by_cases c:ts.length=0
   ·simp[cQ,cd,c]
   ·simp[cQ,cd,c]
  |cons p ps=>
   simp only[cQ,cd]
   by_cases c:p.f= -1
   ·rw[ap c,ap c]
    cases dm u p.v with
    |none=>simp only[sn]
    |some j=>
     simp only;cases takeN ts (partsOf f (az u j).t)<;>simp
   ·rw[ak c,ak c]
    simp only[sn]
 |false=>
  simp only[cQ,cd]
  by_cases c:(ae ps 0).f= -1
  ·rw[ap c,ap c]
   cases dm u (ae ps 0).v with
   |none=>simp
   |some j=>
    simp only;split<;>simp
  ·rw[ak c,ak c]
   split
   ·simp
   ·split
    ·simp
    ·split
     ·simp
     ·simp[dF]
def Gl.good(s:List SymL)(g:Gl):Prop:=
 bh g.ts<=1000/\(∀x,x∈g.ts->fg x=false/\T.form s x=true)/\(∀x,x∈g.ps->T.form s x=true)/\(g.many=true->g.ts.length<=12/\bA s g.f=true/\(∀x,x∈g.ts->x.f≠g.f)/\∀x,x∈g.ps->x.f≠g.f)/\(g.many=false->∃p t,g.ps=[p]/\g.ts=[t])
structure Inv(s:List SymL)(gl:List Gl)(u:List Bd):Prop where
 g:∀g,g∈gl->g.good s
 b:∀b,b∈u->b.t.inner<=1000/\b.t.nf s
 m:u.length+eY gl<=1000000
theorem fG(g:Gl)(l:List Gl):eY (g::l)=jc g+eY l:=rfl
theorem CI(a b:List Gl):eY (a++b)=eY a+eY b:=by unfold eY;rw[ea,List.sum_append]
theorem lQ(f:Int)(ps ts:List T):jc (ce f ps ts)=1+3*bh ps:=rfl
theorem rQ(p t:T):jc (bZ p t)=3*p.inner+2:=rfl
theorem K4:∀l:List Gl,l.length<=eY l
 | []=>aU _
 |g::l=>by
  have h:=K4 l;rw[fG];have:1<=jc g:=by unfold jc;split<;>omega
  simp only[cB];omega
theorem Inv.small{s:List SymL}{gl:List Gl}{u:List Bd}(h:Inv s gl u):small u:=
 ⟨by have:=h.m;omega,fun i hi=>by have:=(h.b _ (pm hi)).1;omega⟩
theorem CL{s:List SymL}{f v:Int}{ks:List T}(h:T.form s (.node f v ks)=true)(a:f≠-1):fD s f v ks.length=false/\∀k,k∈ks->T.form s k=true:=by
 cases hb:fD s f v ks.length with
 |true=>simp[T.form,a,hb]at h
 |false=>
  refine⟨rfl,fun k b=> ?_⟩;rw[JX s f v ks a hb]at h;obtain⟨i,hi,rfl⟩:=jl b;rw[bc hi];cases hq:T.form s (ae ks i)with
  |true=>rfl
  |false=>
   have:=(y9 (fun i=> !T.form s (ae ks i)||da s f ks i) ks.length 0).2 ⟨i,cE _,by omega,by simp[hq]⟩;rw[Iq]at h;rw[h]at this;cases this
theorem ND{f v:Int}{ks:List T}(h:fg (.node f v ks)=false):ks.length<=12/\∀k,k∈ks->fg k=false:=by
 simp only[fg,iR,j9,FE,List.any_eq_false]at h;exact⟨by omega,fun k a=>by simpa using h.2 k a⟩
theorem Jt{s:List SymL}{p:T}(h:T.form s p=true)(a:p.f≠-1):fD s p.f p.v p.kids.length=false/\∀k,k∈p.kids->T.form s k=true:=by
 obtain⟨f,v,ks⟩:=p;exact CL h a
theorem Sg{t:T}(h:fg t=false):t.kids.length<=12/\∀k,k∈t.kids->fg k=false:=by
 obtain⟨f,v,ks⟩:=t;exact ND h
theorem D4{s:List SymL}{t:T}(h:t.nf s)(hb:bA s t.f=true):(∀k,k∈t.kids->k.f≠t.f)/\bW t.kids:=by
 obtain⟨f,v,ks⟩:=t;simp only[T.nf]at h;exact h.2 hb
theorem J8(s:List SymL)(f:Int)(ks:List T)(hb:bA s f=true):(dp s f ks).nf s:=by
 unfold dp;split
 ·simp only[T.nf,T.nfs,jP]
  exact fun _=>⟨fun k a=>by(cases a),mr⟩
 ·split
  ·exact C0 s _
  ·rw[ap (CF hb)];exact C0 s _
theorem pV{a b:List T}(h:a.Sublist b):bh a<=bh b:=by
 induction h with
 |slnil=>exact aU _
 |cons x _ c=>rw[dN];omega
 |cons_cons x _ c=>rw[dN,dN];omega
theorem I1(l:List T)(j:Nat):(dM l j).Sublist l:=by
 unfold dM;rw[<-List.eraseIdx_eq_take_drop_succ];exact List.eraseIdx_sublist l j
theorem HF:∀(xs l r:List T),takeN l xs= .inl r->r.Sublist l
 | [],l,r,h=>by simp only[takeN,v8]at h;subst h;exact bX _
 |x::xs,l,r,h=>by
  unfold takeN at h;cases hf:aO (i7 l x) l.length 0 with
  |none=>rw[hf]at h;cases h
  |some j=>rw[hf]at h;exact(HF xs _ r h).trans (I1 l j)
theorem qU(l:List T)(i:Nat)(h:i<l.length):l.take (i+1)=l.take i++[ae l i]:=by
 rw[Bz,Bp h];rfl
theorem Cs(l:List T)(m:Nat):∀i,i<=l.length->(bQ l m i).Sublist (l.take i)
 |0,_=>jG _
 |i+1,h=>by
  rw[qU l i h];unfold bQ;split
  ·exact(Cs l m i (by omega)).append (bX _)
  ·exact(Cs l m i (by omega)).trans (n_ _ _)
theorem DN(l:List T)(m:Nat):∀i,i<=l.length->(cq l m i).Sublist (l.take i)
 |0,_=>jG _
 |i+1,h=>by
  rw[qU l i h];unfold cq;split
  ·exact(DN l m i (by omega)).trans (n_ _ _)
  ·exact(DN l m i (by omega)).append (bX _)
theorem Dq(l:List T)(m:Nat):(bQ l m l.length).Sublist l:=by have:=Cs l m l.length (aU _);rwa[fR]at this
theorem O9(l:List T)(m:Nat):(cq l m l.length).Sublist l:=by have:=DN l m l.length (aU _);rwa[fR]at this
theorem qH3{s:List SymL}{f:Int}{p:T}{ps ts r:List T}(h:(Gl.mk true f (p::ps) ts).good s)(a:r.Sublist ts):(ce f ps r).good s:=
 ⟨cN (pV a) h.1,fun x hx=>h.2.1 x (a.subset hx),fun x hx=>h.2.2.1 x (dH _ hx),fun _=>⟨cN a.length_le (h.2.2.2.1 rfl).1,(h.2.2.2.1 rfl).2.1,fun x hx=>(h.2.2.2.1 rfl).2.2.1 x (a.subset hx),fun x hx=>(h.2.2.2.1 rfl).2.2.2 x (dH _ hx)⟩,fun e=>by(cases e)⟩
theorem Kl(u:List Bd)(v:Int)(t:T):(cM u v t).length=u.length+1:=by
 unfold cM;have:fe u v<=u.length:=BR;simp;omega
theorem Ay{u:List Bd}{v:Int}{t:T}{b:Bd}(h:b∈cM u v t):b=⟨v,t⟩\/b∈u:=by
 unfold cM at h;rcases bl.1 h with h|h
 ·exact .inr (qk h)
 ·rcases br.1 h with h|h
  ·exact .inl h
  ·exact .inr (pR h)
theorem La(ps ts:List T):∀n,n<=ps.length->eY (dF ps ts n)+n=3*bh (ps.take n)
 |0,_=>by simp[dF,eY,bh,T.inners]
 |n+1,h=>by
  rw[Jo,CI,qU ps n h,BJ,fG,rQ];have:=La ps ts n (by omega);have e:bh [ae ps n]=(ae ps n).inner+1:=by rw[dN];simp[bh,T.inners]
  have a:eY []=0:=rfl;omega
theorem l9{s:List SymL}{gl:List Gl}{u:List Bd}(h:Inv s gl u)(c:List Gl×List Bd)(hc:c∈cd s gl u):Inv s c.1 c.2/\eY c.1<eY gl:=by
 match gl,h,hc with
 | [],h,hc=>simp[cd]at hc
 |⟨true,f,ps,ts⟩::rest,h,hc=>
  have hm:=h.m;have d:=h.g _ (ed ..);have q:∀g,g∈rest->g.good s:=fun g d=>h.g g (dH _ d)
  rw[fG]at hm⊢
  cases ps with
  |nil=>
   have e:jc ⟨true,f,[],ts⟩=1:=rfl;simp only[cd]at hc;split at hc
   ·rw[bC]at hc;subst hc
    exact⟨⟨q,h.b,by simp only;omega⟩,by simp only;omega⟩
   ·cases hc
  |cons p ps=>
   have e:jc ⟨true,f,p::ps,ts⟩=1+3*(p.inner+1+bh ps):=by rw[<-dN];rfl
   simp only[cd]at hc;have l:∀r:List T,r.Sublist ts->∀g,g∈ce f ps r::rest->g.good s:=fun r I g a=>by
    rcases br.1 a with rfl|a
    ·exact qH3 d I
    ·exact q g a
   split at hc
   ·split at hc
    ·rename_i j hj
     split at hc
     ·rename_i r D
      rw[bC]at hc;subst hc
      simp only[fG,lQ];exact⟨⟨l r (HF _ _ _ D),h.b,by simp only[fG,lQ];omega⟩,by omega⟩
     ·cases hc
    ·obtain⟨m,_,rfl⟩:=bP.1 hc
     simp only[fG,lQ];refine⟨⟨l _ (O9 ts (m+1)),fun b hb=> ?_,?_⟩,by omega⟩
     ·rcases Ay hb with rfl|hb
      ·have h1:=Sp s f (bQ ts (m+1) ts.length)
       have K:=pV (Dq ts (m+1));have N:=d.1;simp only at N⊢
       exact⟨by omega,J8 s f _ (d.2.2.2.1 rfl).2.1⟩
      ·exact h.b b hb
     ·simp only[fG,lQ,Kl];omega
   ·obtain⟨i,hi,rfl⟩:=bP.1 hc
    have hi:=eW.1 hi;simp only[fG,lQ,rQ];refine⟨⟨fun g a=> ?_,h.b,?_⟩,by omega⟩
    ·rcases br.1 a with rfl|a
     ·have h1:=iY (bS hi)
      have K:=d.1;have N:(ae ts i).inner+1<=bh ts:=by
       have:=pV (K_.2 (bS hi));rw[dN]at this;omega
      refine⟨?_,fun x hx=> ?_,fun x hx=> ?_,fun e=>by(cases e),fun _=>⟨_,_,rfl,rfl⟩⟩
      ·simp only[bZ,dN]
       have:bh []=0:=rfl;simp only at K;omega
      ·simp only[bZ,bC]at hx;subst hx;exact d.2.1 _ (bS hi)
      ·simp only[bZ,bC]at hx;subst hx;exact d.2.2.1 _ (ed ..)
     ·exact l _ (I1 ts i) g a
    ·simp only[fG,lQ,rQ];omega
 |⟨false,f,ps,ts⟩::rest,h,hc=>
  have hm:=h.m;have d:=h.g _ (ed ..);have q:∀g,g∈rest->g.good s:=fun g d=>h.g g (dH _ d)
  rw[fG]at hm⊢
  obtain⟨p,t,O,J⟩:=d.2.2.2.2 rfl;simp only at O J;subst O J;have e:jc ⟨false,f,[p],[t]⟩=3*p.inner+2:=rfl;have F:t.inner<=1000:=by have:=d.1;simp only[dN]at this;omega
  rw[eI]at hc
  by_cases C:p.f= -1
  ·rw[ap C]at hc
   split at hc
   ·rw[bC]at hc;subst hc
    refine⟨⟨q,fun b hb=> ?_,?_⟩,by simp only;omega⟩
    ·rcases Ay hb with rfl|hb
     ·exact⟨F,mu s _ (d.2.1 _ (bC.2 rfl)).2⟩
     ·exact h.b b hb
    ·simp only[Kl];omega
   ·split at hc
    ·rw[bC]at hc;subst hc
     exact⟨⟨q,h.b,by simp only;omega⟩,by simp only;omega⟩
    ·cases hc
  ·rw[ak C]at hc
   by_cases o:p.f=t.f
   case neg=>rw[ap o]at hc;cases hc
   case pos=>
    rw[ak (fun h=>h o)]at hc;have y:=Jt (d.2.2.1 _ (bC.2 rfl)) C;have z:=Jt (d.2.1 _ (bC.2 rfl)).2 (by rw[<-o];exact C);have w:=Sg (d.2.1 _ (bC.2 rfl)).1;have G:=mu s _ (d.2.2.1 _ (bC.2 rfl));have H:=mu s _ (d.2.1 _ (bC.2 rfl)).2;have P:p.inner=bh p.kids:=T.qdX p;have M:t.inner=bh t.kids:=T.qdX t
    by_cases n:bA s p.f=true
    ·rw[ap n,bC]at hc;subst hc
     simp only[fG,lQ];refine⟨⟨fun g a=> ?_,h.b,?_⟩,by omega⟩
     ·rcases br.1 a with rfl|a
      ·refine⟨by simp only[ce];omega,fun x hx=>⟨w.2 x hx,z.2 x hx⟩,y.2,fun _=>⟨w.1,n,?_,?_⟩,fun e=>by(cases e)⟩
       ·rw[o]at n⊢
        exact(D4 H n).1
       ·exact(D4 G n).1
      ·exact q g a
     ·simp only[fG,lQ];omega
    ·rw[ak n]at hc
     by_cases hlen:p.kids.length=t.kids.length
     case neg=>rw[ap hlen]at hc;cases hc
     case pos=>
      rw[ak (fun h=>h hlen),bC]at hc;subst hc
      have hw:=La p.kids t.kids p.kids.length (aU _);rw[fR]at hw;simp only[CI];refine⟨⟨fun g a=> ?_,h.b,?_⟩,by omega⟩
      ·rcases bl.1 a with a|a
       ·unfold dF at a
        obtain⟨i,hi,rfl⟩:=bP.1 a;have hi:=eW.1 hi;have hit:i<t.kids.length:=by omega
        refine⟨?_,fun x hx=> ?_,fun x hx=> ?_,fun e=>by(cases e),fun _=>⟨_,_,rfl,rfl⟩⟩
        ·have h1:=pV (K_.2 (bS hit))
         simp only[bZ];omega
        ·simp only[bZ,bC]at hx;subst hx
         exact⟨w.2 _ (bS hit),z.2 _ (bS hit)⟩
        ·simp only[bZ,bC]at hx;subst hx
         exact y.2 _ (bS hi)
       ·exact q g a
      ·simp only[CI];omega
theorem wQ{s:List SymL}{P:List Gl->List Bd->Prop}(b:∀gl u c,P gl u->c∈cd s gl u->P c.1 c.2):∀(n:Nat) (gl:List Gl) (u w:List Bd),P gl u->some w∈cQ s n gl u->P [] w
 |0,gl,u,w,_,h=>by simp[cQ]at h
 |n+1,[],u,w,a,h=>by
  rw[xq]at h;simp at h;subst h;exact a
 |n+1,g::rest,u,w,a,h=>by
  rw[xk]at h;simp only[br,qv,reduceCtorEq,false_or]at h;obtain⟨c,hc,hw⟩:=h;exact wQ b n c.1 c.2 w (b _ _ c a hc) hw
theorem Kd{s:List SymL}(n:Nat){gl:List Gl}{u w:List Bd}(h:Inv s gl u)(hw:some w∈cQ s n gl u):small w:=
 (wQ (P:=Inv s) (fun gl u c a hc=>(l9 a c hc).1) n gl u w h hw).small
structure MS.good(S:MS):Prop where
 o:S.over=decide (20000<S.steps)
 n:S.steps<=20001
 l:S.ways.length<=61
 w:∀w,w∈S.ways->small w
theorem MS.good.ev{S:MS}(h:S.good)(e:Option (List Bd))(he:∀w,e=some w->small w):(S.ev e).good:=by
 have a:=S.qLm e h.l;unfold MS.ev at a⊢
 split
 ·exact h
 ·rename_i hd
  rw[ak hd]at a;cases e with
  |none=>
   refine⟨rfl,?_,h.l,h.w⟩;have h1:=h.o;unfold MS.done at hd;simp only[ci,ba,not_or]at hd;have c:¬20000<S.steps:=fun b=>hd.1 (by rw[h1];simpa using b)
   simp only;omega
  |some u=>
   simp only at a⊢
   split
   ·exact h
   ·rename_i hh
    rw[ak hh]at a;refine⟨h.o,h.n,a,fun w hw=> ?_⟩;simp only[bl,bC]at hw;rcases hw with hw|hw
    ·exact h.w w hw
    ·exact he w (by rw[hw])
theorem MS.good.run:∀(es:List (Option (List Bd))) {S:MS},S.good->(∀w,some w∈es->small w)->(S.run es).good
 | [],S,h,_=>h
 |e::es,S,h,he=>MS.good.run es (S:=S.ev e) (h.ev e fun w hw=>he w (by rw[hw];exact ed ..)) fun w hw=>he w (dH _ hw)
theorem D_(pre r e:ah)(x:Option (List AV)):(pre++x::r)++e=pre++x::(r++e):=by simp
theorem EP(pre r:ah)(x:Option (List AV)):(pre++x::r)[pre.length]?=some x:=by simp
theorem FS{α:Type}(F:Nat->List α)(n:Nat):(List.range (n+1)).flatMap F=(List.range n).flatMap F++F n:=by
 rw[List.range_succ,List.flatMap_append];simp
theorem LC(s:List SymL)(hs:s.length<=1099511627776):∀(n:Nat) (gl:List Gl) (u:List Bd) (S:MS) (pre r:ah),Inv s gl u->eY gl<n->S.good->
 al XV 318 [.ptr pre.length 0,.d (bp .sub gl),.d (binds .sub u)] (pre++some (mB s S)::r)=some (.d (.tup []),pre++some (mB s (S.run (cQ s n gl u)))::r)
 |0,gl,u,S,pre,r,hi,hn,W=>absurd hn (y8 _)
 |n+1,gl,u,S,pre,r,hi,hn,W=>by
  by_cases hd:S.done=true
  ·rw[S.qim hd];exact W5 s S gl u pre r hd
  have hd:S.done=false:=by simpa using hd
  by_cases P:20000<S.steps+1
  ·have h:=Xy s S gl u pre r hd P W.n
   have h2:S.step.done=true:=by unfold MS.step MS.done;simp[P]
   have he:∃es,cQ s (n+1) gl u=none::es:=by
    cases gl with
    |nil=>exact⟨_,xq ..⟩
    |cons g rest=>exact⟨_,xk ..⟩
   obtain⟨es,he⟩:=he;rw[he,MS.qkm,MS.qpH S hd,S.step.qim h2];exact h
  have P:S.steps+1<=20000:=by omega
  have z:=hi.small;have J:=hd;unfold MS.done at J;simp only[iR,j9]at J;have Z:S.step.done=false:=by
   unfold MS.step MS.done;simp only[iR,j9];exact⟨by omega,J.2⟩
  have l:S.step.good:=by rw[<-MS.qpH S hd];exact W.ev none fun _ h=>by cases h
  match gl,hi,hn with
  | [],hi,hn=>
   rw[xq,MS.qkm,MS.qpH S hd,MS.qkm,MS.qFi _ Z];exact NG s S u pre r hd P W.w z
  |g::rest,hi,hn=>
   have I:∀(c:List Gl×List Bd),c∈cd s (g::rest) u->∀(S':MS) (a:ah),S'.good->∀e,al XV 318 [.ptr pre.length 0,.d (bp .sub c.1),.d (binds .sub c.2)] ((pre++some (mB s S')::a)++e)=some (.d (.tup []),(pre++some (mB s (S'.run (cQ s n c.1 c.2)))::a)++e):=fun c hc S' a N e=>by
    rw[D_,D_];exact LC s hs n c.1 c.2 S' pre (a++e) (l9 hi c hc).1 (by have:=(l9 hi c hc).2;omega) N
   have IG:∀(c:List Gl×List Bd),c∈cd s (g::rest) u->∀(S':MS),S'.good->(S'.run (cQ s n c.1 c.2)).good:=fun c hc S' N=>
    MS.good.run _ N fun w hw=>Kd n (l9 hi c hc).1 hw
   have G:=hi.g _ (ed ..);have hm:=hi.m;rw[fG]at hm;have h4:=K4 rest;have hlen:∀(S':MS) (a:ah),(pre++some (mB s S')::a).length=pre.length+a.length+1:=fun S' a=>by simp;omega
   rw[xk,MS.qkm,MS.qpH S hd];obtain⟨mn,f,ps,ts⟩:=g;cases mn with
   |true=>
    have V:=(G.2.2.2.1 rfl).1;have h3:=G.1;simp only at V h3;refine qDS s S _ f ps ts rest u pre r hd P fun a=> ?_
    have C:pre.length<(pre++some (mB s S.step)::a).length:=by rw[hlen];omega
    cases ps with
    |nil=>
     refine YN f ts rest u _ _ _ C (by simp only[hlen]) (fun c=> ?_) (fun c=> ?_)
     ·have:=I (rest,u) (by simp[cd,c]) S.step a l
      simpa[cd,c]using this
     ·simp[cd,c,MS.run]
    |cons p ps=>
     have K:ps.length<=1000000000:=by
      have e:jc ⟨true,f,p::ps,ts⟩=1+3*(p.inner+1+bh ps):=by rw[<-dN];rfl
      have:=jv ps;omega
     by_cases c:p.f= -1
     ·cases hb:dm u p.v with
      |some j=>
       refine UJ f ts rest u _ _ _ p ps j c hb z C (by simp only[hlen]) (by omega) K (by omega) (fun x hx=>by have:=iY hx;omega) (fun r0 D=> ?_) (fun r0 D=> ?_)
       ·have:=I (ce f ps r0::rest,u) (by simp[cd,c,hb,D]) S.step a l
        simpa[cd,c,hb,D]using this
       ·simp[cd,c,hb,D,MS.run]
      |none=>
       obtain⟨pf,R,Y⟩:=p;simp only[T.qaP,T.qb7]at c hb;subst c;have y:cd s (⟨true,f,.node (-1) R Y::ps,ts⟩::rest) u=(List.range (2^ts.length-1)).map fun m=>(ce f ps (cq ts (m+1) ts.length)::rest,cM u R (dp s f (bQ ts (m+1) ts.length))):=by simp[cd,hb]
       have b:∀i,i<2^ts.length-1->(ce f ps (cq ts (i+1) ts.length)::rest,cM u R (dp s f (bQ ts (i+1) ts.length)))∈cd s (⟨true,f,.node (-1) R Y::ps,ts⟩::rest) u:=fun i hi=>by
        rw[y];exact bP.2 ⟨i,eW.2 hi,rfl⟩
       rw[y,sn];obtain⟨F,H⟩:∃F:Nat->List (Option (List Bd)),F=fun m=>cQ s n (ce f ps (cq ts (m+1) ts.length)::rest) (cM u R (dp s f (bQ ts (m+1) ts.length))):=⟨_,rfl⟩
       have o:∀i,S.step.run ((List.range (i+1)).flatMap F)=(S.step.run ((List.range i).flatMap F)).run (F i):=fun i=>by rw[FS,MS.qn4]
       have O:∀i,i<=2^ts.length-1->(S.step.run ((List.range i).flatMap F)).good:=fun i=>by
        induction i with
        |zero=>intro _;exact l
        |succ i X=>
         intro hle;rw[o,H];exact IG _ (b i (by omega)) _ (by have:=X (by omega);rwa[H]at this)
       have hx:=SA s hs f R Y ps ts rest u pre.length (fun i=>pre++some (mB s (S.step.run ((List.range i).flatMap F)))::a) (fun i=>(S.step.run ((List.range i).flatMap F)).done) (pre.length+a.length+1)
        (fun i=>hlen _ _) (by omega) (by omega) K V z.1 (fun i e=>by simp only[D_];exact mh s _ pre (a++e)) (fun i=>(mB s (S.step.run ((List.range i).flatMap F))).tail) (fun i=>by simp only[EP];rfl)
        (fun m=>cN (pV (Dq ts m)) (by omega)) hb (fun i h=>by show(S.step.run ((List.range (i+1)).flatMap F)).done=true;rw[o,MS.qim _ h];exact h) (fun i h=>by show pre++some (mB s (S.step.run ((List.range (i+1)).flatMap F)))::a=pre++some (mB s (S.step.run ((List.range i).flatMap F)))::a;rw[o,MS.qim _ h])
        (fun i h1 _ e=>by
         have:=I _ (b i (by omega)) (S.step.run ((List.range i).flatMap F)) a (O i (by omega)) e;simp only[o];rw[H]at this⊢
         exact this)
       rw[H]at hx;exact hx
     ·have y:cd s (⟨true,f,p::ps,ts⟩::rest) u=(List.range ts.length).map fun i=>(bZ p (ae ts i)::ce f ps (dM ts i)::rest,u):=by simp[cd,c]
      have b:∀i,i<ts.length->(bZ p (ae ts i)::ce f ps (dM ts i)::rest,u)∈cd s (⟨true,f,p::ps,ts⟩::rest) u:=fun i hi=>by
       rw[y];exact bP.2 ⟨i,eW.2 hi,rfl⟩
      rw[y,sn];obtain⟨F,H⟩:∃F:Nat->List (Option (List Bd)),F=fun i=>cQ s n (bZ p (ae ts i)::ce f ps (dM ts i)::rest) u:=⟨_,rfl⟩
      have o:∀i,S.step.run ((List.range (i+1)).flatMap F)=(S.step.run ((List.range i).flatMap F)).run (F i):=fun i=>by rw[FS,MS.qn4]
      have O:∀i,i<=ts.length->(S.step.run ((List.range i).flatMap F)).good:=fun i=>by
       induction i with
       |zero=>intro _;exact l
       |succ i X=>
        intro hle;rw[o,H];exact IG _ (b i (by omega)) _ (by have:=X (by omega);rwa[H]at this)
      have hx:=M0 f p ps ts rest u pre.length (fun i=>pre++some (mB s (S.step.run ((List.range i).flatMap F)))::a) (pre.length+a.length+1)
       (fun i=>hlen _ _) c (by omega) (by omega) K (by omega)
       (fun i h1 e=>by
        have:=I _ (b i h1) (S.step.run ((List.range i).flatMap F)) a (O i (by omega)) e;simp only[o];rw[H]at this⊢
        exact this)
      rw[H]at hx;exact hx
   |false=>
    obtain⟨p,t,hp,ht⟩:=G.2.2.2.2 rfl;simp only at hp ht;subst hp ht;have h5:t.inner<=1000:=by have:=G.1;simp only[dN]at this;omega
    have x1:p.inner<=1000000:=by
     have e:jc ⟨false,f,[p],[t]⟩=3*p.inner+2:=rfl;omega
    refine Wz s S _ f p t rest u pre r hd P fun a=> ?_
    have C:pre.length<(pre++some (mB s S.step)::a).length:=by rw[hlen];omega
    have M:(pre++some (mB s S.step)::a)[pre.length]?=some (some (.d (sg s)::(mB s S.step).tail)):=by rw[EP];rfl
    by_cases c:p.f= -1
    ·cases hb:dm u p.v with
     |none=>
      refine Wa s p t rest u _ _ _ hs c hb (z.1) C (by simp only[hlen]) ?_;have:=I (rest,cM u p.v t) (by simp[eI,c,hb]) S.step a l;simpa[eI,c,hb]using this
     |some j=>
      refine Sk p t rest u _ _ _ j c hb z (by omega) C (by simp only[hlen]) (fun h0=> ?_) (fun h0=> ?_)
      ·have h1:=h0
       rw[eJ]at h1;have:=I (rest,u) (by simp[eI,c,hb,h1]) S.step a l;simpa[eI,c,hb,h1]using this
      ·have h1:=h0
       rw[Cm]at h1;simp[eI,c,hb,h1,MS.run]
    ·by_cases c2:p.f=t.f
     ·cases hbl:bA s p.f with
      |true=>
       refine ZA s p t rest u _ _ _ (mB s S.step).tail hs c c2 hbl C (by simp only[hlen]) M (by omega) ?_;have:=I (ce p.f p.kids t.kids::rest,u) (by rw[c2]at c hbl;simp[eI,c,c2,hbl]) S.step a l;rw[c2]at c hbl this⊢
       simpa[eI,c,c2,hbl]using this
      |false=>
       by_cases c3:p.kids.length=t.kids.length
       ·refine Rk s p t rest u _ _ _ (mB s S.step).tail hs c c2 hbl C (by simp only[hlen]) M c3 (by omega) (by have:=T.qdX p;omega) ?_
        have:=I (dF p.kids t.kids p.kids.length++rest,u) (by rw[c2]at c hbl;simp[eI,c,c2,hbl,c3]) S.step a l;have q:cd s (⟨false,f,[p],[t]⟩::rest) u=[(dF p.kids t.kids p.kids.length++rest,u)]:=by rw[c2]at c hbl;simp[eI,c,c2,hbl,c3]
        rw[q];simpa using this
       ·have q:cd s (⟨false,f,[p],[t]⟩::rest) u=[]:=by rw[c2]at c hbl;simp[eI,c,c2,hbl,c3]
        rw[q];exact Ry s p t rest u _ _ (mB s S.step).tail hs c c2 hbl C M c3
     ·have q:cd s (⟨false,f,[p],[t]⟩::rest) u=[]:=by simp[eI,c,c2]
      rw[q];exact O7 p t rest u _ _ c c2 C
section
variable (s:List SymL) (ws:List (List Bd)) (fuel:Int) (f:Int) (p t:T) (rest:List Gl) (u:List Bd) (pre r:ah) (S':List AV)
end
section
variable (s:List SymL) (ws:List (List Bd)) (fuel:Int) (f:Int) (p t:T) (rest:List Gl) (u:List Bd) (pre r:ah) (S':List AV)
end
section
variable (s:List SymL) (f:Int) (ts:List T) (rest:List Gl) (u:List Bd) (k:Nat) (Q Q':ah)
end
structure RS(S:MS)(ws:List (List Bd))(fuel:Int)(b:Nat):Prop where
 lo: -(b:Int)<=fuel
 hi:fuel<=20000
 l:ws.length<=61
 w:∀w,w∈ws->small w
 nd:S.done=false->ws=S.ways/\fuel=20000-(S.steps:Int)
 d:S.done=true->fuel<0\/60<ws.length
theorem RS.mono{S:MS}{ws:List (List Bd)}{fuel:Int}{b c:Nat}(h:RS S ws fuel b)(a:b<=c):RS S ws fuel c:=
 ⟨by have:=h.lo;omega,h.hi,h.l,h.w,h.nd,h.d⟩
mutual
def T.nodes:T->List T
 | .node f v ks=> .node f v ks::T.nodess ks
def T.nodess:List T->List T
 | []=>[]
 |t::r=>t.nodes++T.nodess r
end
mutual
theorem uW{σ:Type}(e:T->σ->σ):∀(t:T) (s:σ),T.fold e t s=t.nodes.foldl (fun s x=>e x s) s
 | .node f v ks,s=>by simp only[T.fold,T.nodes,rX];exact Gx e ks _
theorem Gx{σ:Type}(e:T->σ->σ):∀(l:List T) (s:σ),T.folds e l s=(T.nodess l).foldl (fun s x=>e x s) s
 | [],s=>by simp[T.folds,T.nodess]
 |t::r,s=>by simp only[T.folds,T.nodess,List.foldl_append];rw[uW e t s];exact Gx e r _
end
mutual
theorem H6:∀t:T,t.nodes.length=t.inner+1
 | .node f v ks=>by simp only[T.nodes,T.inner,cB];rw[Hk ks]
theorem Hk:∀l:List T,(T.nodess l).length=l.length+T.inners l
 | []=>rfl
 |t::r=>by simp only[T.nodess,T.inners,dz,cB];rw[H6 t,Hk r];omega
end
theorem ZD(l:List Int)(n x:Int):x∈cL l n↔x=n\/x∈l:=by
 unfold cL;split
 ·rename_i h
  rw[ut]at h;constructor
  ·exact fun hx=> .inr hx
  ·rintro(rfl|hx)
   ·exact h
   ·exact hx
 ·have e:l=l.take (fL l n)++l.drop (fL l n):=(du _ _).symm
  constructor
  ·intro hx
   simp only[bl,br]at hx;rcases hx with hx|hx|hx
   ·exact .inr (qk hx)
   ·exact .inl hx
   ·exact .inr (pR hx)
  ·intro hx
   simp only[bl,br];rcases hx with hx|hx
   ·exact .inr (.inl hx)
   ·rw[e]at hx
    rcases bl.1 hx with h|h
    ·exact .inl h
    ·exact .inr (.inr h)
theorem TS(l:List Int)(n:Int)(h:l.Pairwise (·<·)):(cL l n).Pairwise (·<·):=by
 unfold cL;split
 ·exact h
 ·rename_i hc
  have d:∀x,x∈l->x≠n:=fun x hx he=>hc (by rw[ut];exact he▸hx)
  have e:l=l.take (fL l n)++l.drop (fL l n):=(du _ _).symm;have g:=h;rw[e,iE]at g;obtain⟨o,p2,p3⟩:=g;have lo:∀x,x∈l.take (fL l n)->x<n:=fun x hx=>by
   obtain⟨i,hi,rfl⟩:=jl hx;rw[sk]at hi;have hn:=GQ (p:=fun x=>decide (x>n)) (xs:=l) (i:=i) (by unfold fL at hi;omega);rw[List.getElem_take];have hm:=d _ (il (by omega:i<l.length));simp at hn;omega
  have hi:∀x,x∈l.drop (fL l n)->n<x:=fun x hx=>by
   have c:fL l n<l.length:=by
    rcases dZ (fL l n) l.length with h1|h1
    ·exact h1
    ·rw[mY h1]at hx;simp at hx
   have j:=List.findIdx_getElem (p:=fun x=>decide (x>n)) (xs:=l) (w:=c);rw[cW c]at hx p2;have m:n<l[fL l n]:=of_decide_eq_true j;rcases br.1 hx with rfl|hx
   ·exact m
   ·have:=(gC.1 p2).1 x hx;omega
  rw[iE];refine⟨o,gC.2 ⟨hi,p2⟩,fun a ha b hb=> ?_⟩;rcases br.1 hb with hb|hb
  ·subst hb;exact lo a ha
  ·exact p3 a ha b hb
theorem Gy:∀(l:List T) (s:List Int),s.Pairwise (·<·)->(l.foldl (fun s x=>eV x s) s).Pairwise (·<·)
 | [],s,h=>h
 |x::l,s,h=>by
  rw[rX];refine Gy l _ ?_;unfold eV;split
  ·exact TS _ _ h
  ·exact h
theorem Jg:∀(l:List T) (s:List Int) (n:Int),n∈l.foldl (fun s x=>eV x s) s↔n∈s\/∃x,x∈l/\x.f= -1/\x.v=n
 | [],s,n=>by simp
 |x::l,s,n=>by
  rw[rX,Jg l];unfold eV
  by_cases h:x.f= -1
  ·rw[ap h,ZD]
   constructor
   ·rintro((rfl|h1)|⟨y,h1,a⟩)
    ·exact .inr ⟨x,by simp,h,rfl⟩
    ·exact .inl h1
    ·exact .inr ⟨y,by simp[h1],a⟩
   ·rintro(h1|⟨y,h1,a,b⟩)
    ·exact .inl (.inr h1)
    ·rcases br.1 h1 with rfl|h1
     ·exact .inl (.inl b.symm)
     ·exact .inr ⟨y,h1,a,b⟩
  ·rw[ak h]
   constructor
   ·rintro(h1|⟨y,h1,a⟩)
    ·exact .inl h1
    ·exact .inr ⟨y,by simp[h1],a⟩
   ·rintro(h1|⟨y,h1,a,b⟩)
    ·exact .inl h1
    ·rcases br.1 h1 with rfl|h1
     ·exact absurd a h
     ·exact .inr ⟨y,h1,a,b⟩
theorem uR(t:T):(eB t).Pairwise (·<·):=by unfold eB;rw[uW];exact Gy _ _ mr
theorem vI(t:T)(n:Int):n∈eB t↔∃x,x∈t.nodes/\x.f= -1/\x.v=n:=by unfold eB;rw[uW,Jg];simp
theorem pM{l:List SymL}{f:Int}(h:bA l f=true):f≠-1:=by
 unfold bA at h;simp only[aF]at h;have:=(kG h.1).1;omega
mutual
def T.full(l:List SymL):T->Prop
 | .node f v ks=>(bA l f=true->ks≠[])/\T.fulls l ks
def T.fulls(l:List SymL):List T->Prop
 | []=>True
 |t::r=>t.full l/\T.fulls l r
end
mutual
theorem Hc(l:List SymL):∀t:T,T.form l t=true->t.full l/\∀x,x∈t.nodes->x.f= -1->x.kids=[]
 | .node f v ks,h=>by
  simp only[T.form]at h
  by_cases c:f= -1
  ·rw[ap c]at h
   have e:ks=[]:=by
    simp only[aF,ba]at h;exact mc h.2
   subst e;refine⟨⟨fun hb=>absurd c (pM hb),trivial⟩,fun x hx _=> ?_⟩;simp only[T.nodes,T.nodess,br,kU,lT]at hx;subst hx;rfl
  ·rw[ak c]at h
   split at h
   ·simp at h
   ·rename_i hh
    have g:=C9 _ _ h;have d:∀i,i<ks.length->T.form l (ae ks i)=true:=fun i hi=>by
     have:=g i hi;rw[T.qko l ks i hi]at this;simp at this;exact this.1
    obtain⟨h1,j⟩:=E9 l ks d;refine⟨⟨fun hb hn=>hh ?_,h1⟩,fun x hx b=> ?_⟩
    ·subst hn
     have a:=hb;unfold bA at a;simp only[aF]at a;unfold fD;rw[ap a.1];split
     ·rw[ap a.2];simp
     ·rfl
    ·simp only[T.nodes,br]at hx
     rcases hx with rfl|hx
     ·exact absurd b c
     ·exact j x hx b
theorem E9(l:List SymL):∀ks:List T,(∀i,i<ks.length->T.form l (ae ks i)=true)->T.fulls l ks/\∀x,x∈T.nodess ks->x.f= -1->x.kids=[]
 | [],_=>⟨trivial,fun x hx=>by simp[T.nodess]at hx⟩
 |t::r,h=>by
  obtain⟨h1,c⟩:=Hc l t (by have:=h 0 (by simp);simpa[ae]using this);obtain⟨d,b⟩:=E9 l r fun i hi=>by have:=h (i+1) (by simpa using hi);simpa[ae]using this
  refine⟨⟨h1,d⟩,fun x hx a=> ?_⟩;simp only[T.nodess,bl]at hx;rcases hx with hx|hx
  ·exact c x hx a
  ·exact b x hx a
end
theorem SY{l:List SymL}{u:List Bd}(h:jB l u=true):∀i,i<u.length->dA l (az u i).t=true:=fun i hi=>by
 have h1:=C9 _ _ h i hi;unfold fS at h1;simp only[iR]at h1;have a:=h1.1;unfold fK at a;simp only[iR]at a;simpa using a.2
end Go.Proofs.YtpcoohnjllclnaaGreat.VS
