/- Contracts of the program's functions on the evaluator without names, and plain lemmas: part 5. -/
import Derived.Test.YtpcoohnjllclnaaGreatXP4
set_option linter.unusedSimpArgs false
set_option linter.unusedVariables false
namespace Go.Proofs.YtpcoohnjllclnaaGreat.VS
theorem CG(a:al)(c:bR)(g:Tag)(d:∀y,y∈a->y.cells.length=4)(h:(a.length+c.length)*64<=140737488355328):cK 4 64 (.sl U a) (.sl g (c.map (Gl.enc .sub)))=some (.sl U (a++c.map (Gl.enc .sub))):=by
 have j:(c.map (Gl.enc .sub)).all (fun e=>decide (e.cells.length=4/\e.cells.all DV.isCell=true))=true:=by rw[bB];intro y b;obtain⟨z,_,rfl⟩:=cw.1 b;simp[DV.isCell]
 have i:a.all (fun e=>decide (e.cells.length=4))=true:=by rw[bB];intro y b;simpa using d y b
 unfold cK;simp only;rw[aw j];cases c with
 |nil=>simp
 |cons x r=>simp only[bA,gW,bL,if_false];rw[aw ⟨by simpa using h,trivial,i⟩]
section
variable (s:aF) (p t:T) (rest:bR) (u:aB) (k:Nat) (Q Q':ar)
theorem Qe(e:p.f≠-1)(g:p.f≠t.f)(o:k<Q.length):
 ap XV 322 [.ptr k 0,.d (p.enc .sub),.d (t.enc .sub),.d (bD .sub rest),.d (binds .sub u)] Q=some (.d (.tup []),Q):=by
 obtain⟨a,i,l⟩:=p;obtain⟨j,m,n⟩:=t;simp only[T.qaO]at e g;rw[aN 322 gN rfl];have c:=jl (.node a i l);have h:(a== -1)=false:=by simpa using e
 simp only[T.qaO,h]at c;have b:(a !=j)=true:=by simpa using g
 simp[gN,c,b]
theorem VG(tl:aA)(H:s.length<=1099511627776)(y:p.f≠-1)(q:p.f=t.f)(g:bI s p.f=true)(h:k<Q.length)(F:Q'.length=Q.length)(b:Q[k]?=some (some (.d (sg s)::tl)))(J:rest.length<=1000000000)
 (a:∀e,ap XV 318 [.ptr k 0,.d (bD .sub (bX p.f p.kids t.kids::rest)),.d (binds .sub u)] (Q++e)=some (.d (.tup []),Q'++e)):
 ap XV 322 [.ptr k 0,.d (p.enc .sub),.d (t.enc .sub),.d (bD .sub rest),.d (binds .sub u)] Q=some (.d (.tup []),Q'):=by
 obtain⟨c,m,l⟩:=p;obtain⟨K,I,o⟩:=t;simp only[T.qaO,T.qaD]at y q g a;subst q;rw[aN 322 gN rfl];have x:=jl (.node c m l);have C:(c== -1)=false:=by simpa using y
 simp only[T.qaO,C]at x;have n:=rN s H c;rw[g]at n;have j:k<Q.length+2:=by omega
 have w:=a [some [aa c,aa m,.d (ai .sub l)],some [aa c,aa I,.d (ai .sub o)]];have M:∀e,(Q++e)[k]?=some (some (.d (sg s)::tl)):=fun e=>by rw[cf h];exact b
 have D:Q[k]=some (.d (sg s)::tl):=by rw[eJ h]at b;simpa using b
 have G:¬(Q.length+2<=k):=by omega
 have i:¬(Q.length+2<=Q.length):=by omega
 have z:=CG [(bX c l o).enc .sub] rest .sub (by simp) (by simp;omega);simp only[bA,bX,bD]at w z;simp[gN,D2,x,n,h,j,F,D,G,i,z,Lt,w,splice]
end
theorem KY(l:ah)(i:Nat)(h:i<l.length):List.drop i (List.take (i+1) (l.map (T.enc .sub)))=[(aj l i).enc .sub]:=by
 have a:i<(l.map (T.enc .sub)).length:=by simpa using h
 rw[List.drop_take,show i+1-i=1 by omega,dl a];simp[bg h]
variable{α:Type}
theorem Je(Q:List α)(x y:α):(Q++[x,y]).take (Q.length+2)=Q++[x,y]:=dE (by simp)
def c9(ps ts:ah)(n:Nat):bR:=(List.range n).map fun i=>ci (aj ps i) (aj ts i)
theorem G3(ps ts:ah)(n:Nat):c9 ps ts (n+1)=c9 ps ts n++[ci (aj ps n) (aj ts n)]:=by unfold c9;rw[FP,c6];rfl
theorem H7(ps ts:ah)(n:Nat):(c9 ps ts n).length=n:=by unfold c9;simp
theorem Nb(l:bR):∀y,y∈l.map (Gl.enc .sub)->y.cells.length=4:=fun y a=>by obtain⟨z,_,rfl⟩:=cw.1 a;rfl
section
variable (s:aF) (p t:T) (rest:bR) (u:aB) (k:Nat) (Q Q':ar)
theorem TP(tl:aA)(y:s.length<=1099511627776)(j:p.f≠-1)(n:p.f=t.f)(b:bI s p.f=false)(m:k<Q.length)(a:Q[k]?=some (some (.d (sg s)::tl)))(h:p.kids.length≠t.kids.length):
 ap XV 322 [.ptr k 0,.d (p.enc .sub),.d (t.enc .sub),.d (bD .sub rest),.d (binds .sub u)] Q=some (.d (.tup []),Q):=by
 obtain⟨c,q,o⟩:=p;obtain⟨F,G,D⟩:=t;simp only[T.qaO,T.qaD]at j n b h;subst n;rw[aN 322 gN rfl];have l:=jl (.node c q o);have z:(c== -1)=false:=by simpa using j
 simp only[T.qaO,z]at l;have i:=rN s y c;rw[b]at i;have g:k<Q.length+2:=by omega
 have C:Q[k]=some (.d (sg s)::tl):=by rw[eJ m]at a;simpa using a
 have w:¬(Q.length+2<=k):=by omega
 have e:¬(Q.length+2<=Q.length):=by omega
 have x:((o.length:Int) !=D.length)=true:=by simp;omega
 simp[gN,D2,l,i,x,m,g,C,w,e]
theorem PC(tl:aA)(hs:s.length<=1099511627776)(S:p.f≠-1)(O:p.f=t.f)(x:bI s p.f=false)(M:k<Q.length)(hQ:Q'.length=Q.length)(o:Q[k]?=some (some (.d (sg s)::tl)))(Z:p.kids.length=t.kids.length)
 (hl:rest.length<=1000000000) (D:p.kids.length<=1000000000)
 (l:∀e,ap XV 318 [.ptr k 0,.d (bD .sub (c9 p.kids t.kids p.kids.length++rest)),.d (binds .sub u)] (Q++e)=some (.d (.tup []),Q'++e)):
 ap XV 322 [.ptr k 0,.d (p.enc .sub),.d (t.enc .sub),.d (bD .sub rest),.d (binds .sub u)] Q=some (.d (.tup []),Q'):=by
 obtain⟨j,q,c⟩:=p;obtain⟨tf,z,g⟩:=t;simp only[T.qaO,T.qaD]at S O x l Z D;subst O;rw[aN 322 gN rfl];have V:=jl (.node j q c);have W:(j== -1)=false:=by simpa using S
 simp only[T.qaO,W]at V;have K:=rN s hs j;rw[x]at K;have m:k<Q.length+2:=by omega
 have Y:Q[k]=some (.d (sg s)::tl):=by rw[eJ M]at o;simpa using o
 have hn:¬(Q.length+2<=k):=by omega
 have w:¬(Q.length+2<=Q.length):=by omega
 have h5:((c.length:Int) !=g.length)=false:=by simp;omega
 have J:¬(Q.length+2<=Q.length+1):=by omega
 have h:=cd (X:=XV) (T:=XV.lin 322) (L:=Q.length+2) (live:=[0,3,4,6,7,12,77,78]) (b:=y_) (n:=c.length) (γ:=Nat) (st:=fun(_:Unit) i=>⟨[(0,.ptr k 0),(3,.d (bD .sub rest)),(4,.d (binds .sub u)),(6,.ptr Q.length 0),(7,.ptr (Q.length+1) 0),(12,.d (.sl U ((c9 c g i).map (Gl.enc .sub)))),(77,aa c.length),(78,aa i)],Q++[some [aa j,aa q,.d (ai .sub c)],some [aa j,aa z,.d (ai .sub g)]]⟩) (step:=eC)
  (F:=fun _=>(.exit 1,⟨[(0,.ptr k 0),(3,.d (bD .sub rest)),(4,.d (binds .sub u)),(6,.ptr Q.length 0),(7,.ptr (Q.length+1) 0),(12,.d (.sl U ((c9 c g c.length).map (Gl.enc .sub)))),(77,aa c.length),(78,aa c.length),(79,ax false)],Q++[some [aa j,aa q,.d (ai .sub c)],some [aa j,aa z,.d (ai .sub g)]]⟩)) (R:=fun _=>(.ret,⟨[],[]⟩))
  (fun a=>⟨by simp,by simp[y_]⟩)
  (fun a i hi=>by
   have hw:=bE (n:=i) (by omega);have G:i<g.length:=by omega
   have o1:=KY c i hi;have o2:=KY g i G;have y:=CG ((c9 c g i).map (Gl.enc .sub)) [ci (aj c i) (aj g i)] U (Nb _) (by rw[eo,H7];simp;omega);rw[<-List.map_append,<-G3]at y;generalize C:(c9 c g (i+1)).map (Gl.enc .sub)=R2 at y;generalize (c9 c g i).map (Gl.enc .sub)=R1 at*
   have I:cK 4 64 (.sl U R1) (.sl U [.agg [.bool false,.int .i64 0,.sl .sub [(aj c i).enc .sub],.sl .sub [(aj g i).enc .sub]]])=some (.sl U R2):=y;have h4:i+1<=c.length:=by omega
   have h6:i+1<=g.length:=by omega
   have h7:(0:Int)<=(i:Int)+1:=by omega
   unfold eC;exact⟨_,by simp[y_,Wr,hi,hw,o1,o2,I,splice,h4,h6,h7,w,J];rfl,by simp[aJ,aG,Je,m,C]⟩)
  c.length () 0 ⟨[(0,.ptr k 0),(3,.d (bD .sub rest)),(4,.d (binds .sub u)),(6,.ptr Q.length 0),(7,.ptr (Q.length+1) 0),(12,.d (.sl U [])),(77,aa c.length),(78,aa 0)],Q++[some [aa j,aa q,.d (ai .sub c)],some [aa j,aa z,.d (ai .sub g)]]⟩ (by omega) (by simp[aJ,aG,c9,m,Je])
 rw[jQ]at h;simp only[qQr]at h;have y:=CG ((c9 c g c.length).map (Gl.enc .sub)) rest .sub (Nb _) (by rw[eo,H7];omega);have P:=l [some [aa j,aa q,.d (ai .sub c)],some [aa j,aa z,.d (ai .sub g)]];simp only[bD,c6]at P;have H:((c9 c g c.length).map (Gl.enc .sub)).map DV.clr=(c9 c g c.length).map (Gl.enc .sub):=by rw[et,Vz]
 generalize (c9 c g c.length).map (Gl.enc .sub)=R1 at*
 simp[gN,D2,V,K,h5,M,m,Y,hn,w];rw[h];simp[hQ,y,P,H]
end
theorem Dc(f:Int)(p:T)(ps ts r:ah)(more rest:bR)(u:aB)(k:Nat)(Q Q' e:ar)(m:k<Q.length)(o:Q'.length=Q.length)(l:more.length+1+rest.length<=1099511627776)(n:ps.length<=1099511627776)
 (a:∀e,ap XV 318 [.ptr k 0,.d (bD .sub (more++(bX f ps r::rest))),.d (binds .sub u)] (Q++e)=some (.d (.tup []),Q'++e)):
 ap XV 327 [.d (ai .sub r),.d (bD .sub more),.d (binds .sub u),.ptr Q.length 0,.ptr (Q.length+1) 0,.ptr (Q.length+2) 0]
  (Q++some [.ptr k 0]::some [ax true,aa f,.d (ai .sub (p::ps)),.d (ai .sub ts)]::some [.d (bD .sub rest)]::e)=
 some (.d (.tup []),Q'++some [.ptr k 0]::some [ax true,aa f,.d (ai .sub (p::ps)),.d (ai .sub ts)]::some [.d (bD .sub rest)]::e):=by
 rw[aN 327 vT rfl];have h:=a (some [.ptr k 0]::some [ax true,aa f,.d (ai .sub (p::ps)),.d (ai .sub ts)]::some [.d (bD .sub rest)]::e);have hc:=YN .sub .sub .sub .sub (by simp) (by simp) (by simp) more [bX f ps r] rest [] (by simp) (by simp;omega);simp only[dk,dG]at hc;have j:List.take ps.length (ps.map (T.enc .sub))=ps.map (T.enc .sub):=dE (by simp);have c:¬(Q.length+(e.length+1+1+1)<=Q.length):=by omega
 have b:¬(Q.length+(e.length+1+1+1)<=Q.length+1):=by omega
 have g:¬(Q.length+(e.length+1+1+1)<=Q.length+2):=by omega
 simp only[bD,bA,cM]at hc;simp only[bD,c6,bA]at h;have i:(bX f ps r).enc .sub= .agg [.bool true,.int .i64 f,ai .sub ps,ai .sub r]:=rfl;rw[i]at hc;simp[vT,Vn,j,c,b,g,hc,h,splice];exact dE (by simp;omega)
section
variable (s:aF) (f:Int) (ts:ah) (rest:bR) (u:aB) (k:Nat) (Q Q':ar)
theorem XN(g:k<Q.length)(i:Q'.length=Q.length)(a:ts.length=0->∀e,ap XV 318 [.ptr k 0,.d (bD .sub rest),.d (binds .sub u)] (Q++e)=some (.d (.tup []),Q'++e))(b:ts.length≠0->Q'=Q):
 ap XV 321 [.ptr k 0,.d ((Gl.mk true f [] ts).enc .sub),.d (bD .sub rest),.d (binds .sub u)] Q=some (.d (.tup []),Q'):=by
 rw[aN 321 gZ rfl]
 by_cases c:ts.length=0
 ·have hc:ts=[]:=jX.1 c
  have h:=a c [some [.ptr k 0],some [ax true,aa f,.d (ai .sub []),.d (ai .sub [])],some [.d (bD .sub rest)]];subst hc;simp[gZ,h,g,i]
 ·have hc:((ts.length:Int)==0)=false:=by simpa using c
  rw[b c];simp[gZ,hc,g]
theorem Zs(p:T)(ps:ah)(j:Nat)(R:p.f= -1)(F:cW u p.v=some j)(P:small u)(y:k<Q.length)(H:Q'.length=Q.length)(W:rest.length<=1000000000)(Y:ps.length<=1000000000)
 (D:ts.length<=1099511627776) (I:∀x,x∈ts->x.inner<=1099511627776)
 (l:∀r,takeN ts (partsOf f (aH u j).t)= .inl r->∀e,ap XV 318 [.ptr k 0,.d (bD .sub (bX f ps r::rest)),.d (binds .sub u)] (Q++e)=some (.d (.tup []),Q'++e)) (C:∀r,takeN ts (partsOf f (aH u j).t)= .inr r->Q'=Q):
 ap XV 321 [.ptr k 0,.d ((Gl.mk true f (p::ps) ts).enc .sub),.d (bD .sub rest),.d (binds .sub u)] Q=some (.d (.tup []),Q'):=by
 obtain⟨V,q,M⟩:=p;simp only[T.qaO,T.qbT]at R F l;subst R;have X:=(eQ _ _ _ _ (show a8 (fun i=>(aH u i).v==q) u.length 0=some j from F)).2.1;rw[aN 321 gZ rfl];have z:=jl (.node (-1) q M);simp only[T.qaO,BEq.rfl]at z;have n:=ue u q P.1;rw[F]at n;simp only at n;have O:=P.2 j (by omega);generalize (aH u j).t=w at*
 obtain⟨wf,g,b⟩:=w;have J:∀x,x∈partsOf f (.node wf g b)->x.inner<=1099511627776:=fun x o=>by
  unfold partsOf at o;split at o
  ·simp only[T.inner]at O
   simp only[T.qaD]at o;have:=T.qaF o;omega
  ·simp at o;subst o;exact O
 have G:(partsOf f (.node wf g b)).length<=1099511627776:=by
  unfold partsOf;split
  ·have S:=T.qdz (.node wf g b)
   simp only[T.qaD]at S⊢
   omega
  ·simp
 have a:=Yy ts (partsOf f (.node wf g b)) D G I J;have h:(((ps.length:Int)+1)==0)=false:=by simp;omega
 cases hc:takeN ts (partsOf f (.node wf g b))with
 |inl r=>
  rw[hc]at a;have m:=Dc f (.node (-1) q M) ps ts r [] rest u k Q Q' [some [aa (-1),aa q,.d (ai .sub M)],some [aa wf,aa g,.d (ai .sub b)]] y H (by simp;omega) (by omega) (by simpa using l r hc);simp only[bD,cM]at m
  by_cases c:wf=f
  ·have ep:partsOf f (.node wf g b)=b:=by unfold partsOf;rw[aw (show(T.node wf g b).f=f from c)];rfl
   rw[ep]at a;subst c;simp only at a;simp[gZ,z,n,a,m,y,H,h,splice,cut]
  ·have ep:partsOf f (.node wf g b)=[.node wf g b]:=by unfold partsOf;rw[au (show¬(T.node wf g b).f=f from c)]
   rw[ep]at a;have K:(wf==f)=false:=by simpa using c
   simp only[ai,bA,cM]at a;simp[gZ,z,n,K,a,m,y,H,h,splice,cut]
 |inr r=>
  rw[hc]at a;rw[C r hc]
  by_cases c:wf=f
  ·have ep:partsOf f (.node wf g b)=b:=by unfold partsOf;rw[aw (show(T.node wf g b).f=f from c)];rfl
   rw[ep]at a;subst c;simp only at a;simp[gZ,z,n,a,y,h,splice,cut]
  ·have ep:partsOf f (.node wf g b)=[.node wf g b]:=by unfold partsOf;rw[au (show¬(T.node wf g b).f=f from c)]
   rw[ep]at a;have K:(wf==f)=false:=by simpa using c
   simp only[ai,bA,cM]at a;simp[gZ,z,n,K,a,y,h,splice,cut]
end
variable{N:Nat}
theorem Jz{B:List α}(h:B.length=N)(a b c d e v:α)(r:List α):(B++a::b::c::d::e::r).set (N+4) v=B++a::b::c::d::v::r:=by subst h;rw[kv _ _ (by omega),show B.length+4-B.length=4 by omega];rfl
theorem Jw{B:List α}(h:B.length=N)(a b c d:α)(r:List α):(B++a::b::c::d::r).take (N+4)=B++[a,b,c,d]:=by subst h;rw[show B++a::b::c::d::r=(B++[a,b,c,d])++r by simp,rh (by simp)]
theorem Xs(f:Int)(p:T)(ps ts:ah)(rest:bR)(u:aB)(k:Nat)(m:Nat->ar)(N:Nat)(q:∀i,(m i).length=N)(M:p.f≠-1)(P:k<N)(hl:rest.length<=1000000000)(Z:ps.length<=1000000000)(O:ts.length<=1000000000)
 (w:∀i,i<ts.length->∀e,ap XV 318 [.ptr k 0,.d (bD .sub (ci p (aj ts i)::bX f ps (cV ts i)::rest)),.d (binds .sub u)] (m i++e)=some (.d (.tup []),m (i+1)++e)):
 ap XV 321 [.ptr k 0,.d ((Gl.mk true f (p::ps) ts).enc .sub),.d (bD .sub rest),.d (binds .sub u)] (m 0)=some (.d (.tup []),m ts.length):=by
 obtain⟨c,g,j⟩:=p;simp only[T.qaO]at M;rw[aN 321 gZ rfl];have K:=jl (.node c g j);have W:(c== -1)=false:=by simpa using M
 simp only[T.qaO,W]at K;have h:=cd (X:=XV) (T:=XV.lin 321) (L:=N+4) (live:=[3,5,8,9,43,44,45]) (b:=ya) (n:=ts.length) (γ:=Nat)
  (st:=fun(_:Unit) i=>⟨[(3,.d (binds .sub u)),(5,.ptr (N+1) 0),(8,.ptr (N+3) 0),(9,.fn 327 [.ptr N 0,.ptr (N+1) 0,.ptr (N+2) 0]),(43,.d (ai .sub ts)),(44,aa ts.length),(45,aa i)],
   m i++[some [.ptr k 0],some [ax true,aa f,.d (ai .sub (.node c g j::ps)),.d (ai .sub ts)],some [.d (bD .sub rest)],some [aa c,aa g,.d (ai .sub j)]]⟩) (step:=eC)
  (F:=fun _=>(.exit 0,⟨[(3,.d (binds .sub u)),(5,.ptr (N+1) 0),(8,.ptr (N+3) 0),(9,.fn 327 [.ptr N 0,.ptr (N+1) 0,.ptr (N+2) 0]),(43,.d (ai .sub ts)),(44,aa ts.length),(45,aa ts.length),(46,ax false)],
   m ts.length++[some [.ptr k 0],some [ax true,aa f,.d (ai .sub (.node c g j::ps)),.d (ai .sub ts)],some [.d (bD .sub rest)],some [aa c,aa g,.d (ai .sub j)]]⟩)) (R:=fun _=>(.ret,⟨[],[]⟩))
  (fun a=>⟨by simp,by simp[ya]⟩)
  (fun a i hi=>by
   have Y:=bE (n:=i) (by omega);have x:=q i;have o:=q (i+1);have V:=w i hi;have G:=Ij .sub (by simp) ts i [] hi (by omega);have H:=bg hi;generalize S:aj ts i=t at*
   obtain⟨z,C,y⟩:=t;have l:=Dc f (.node c g j) ps ts (cV ts i) [ci (.node c g j) (.node z C y)] rest u k (m i) (m (i+1)) [some [aa c,aa g,.d (ai .sub j)],some [aa z,aa C,.d (ai .sub y)]] (by omega) (by omega) (by simp;omega) (by omega) V;rw[x]at l;have D:bD .sub [ci (.node c g j) (.node z C y)]= .sl .sub [.agg [.bool false,.int .i64 0,.sl .sub [(T.node c g j).enc .sub],.sl .sub [(T.node z C y).enc .sub]]]:=rfl;rw[D]at l;unfold cV at l;simp only[ai,c6,B_,List.map_drop]at l;unfold eC;refine⟨_,by simp[ya,Tn,hi,Y,cut,H,G,l,Jz x,x,o,splice];rfl,?_⟩;simp[aJ,aG,Jw o,o])
  ts.length () 0 ⟨[(3,.d (binds .sub u)),(5,.ptr (N+1) 0),(8,.ptr (N+3) 0),(9,.fn 327 [.ptr N 0,.ptr (N+1) 0,.ptr (N+2) 0]),(43,.d (ai .sub ts)),(44,aa ts.length),(45,aa 0)],
   m 0++[some [.ptr k 0],some [ax true,aa f,.d (ai .sub (.node c g j::ps)),.d (ai .sub ts)],some [.d (bD .sub rest)],some [aa c,aa g,.d (ai .sub j)]]⟩ (by omega) (by simp[aJ,aG,Jw (q 0),q 0])
 rw[jQ]at h;simp only[D1]at h;have x:=q 0;have I:=q ts.length;have J:(((ps.length:Int)+1)==0)=false:=by simp;omega
 simp[gZ,K,J,P,x,splice,cut];rw[h];simp[I]
theorem Y_(ts:ah)(m:Nat)(u:aB)(N:Nat)(Bx:ar)(j:Bx.length=N+5)(J:ts.length<=30)(M:m<1099511627776):
 cj XV (XV.lin 321) (N+5) [3,4,5,8,9,17,18,19,109,110,111] pg ⟨[(3,.d (binds .sub u)),(4,.ptr N 0),(5,.ptr (N+1) 0),(8,.ptr (N+3) 0),(9,.fn 327 [.ptr N 0,.ptr (N+1) 0,.ptr (N+2) 0]),(17,aa m),(18,.d (.sl U [])),(19,.d (.sl U [])),(109,.d (ai .sub ts)),(110,aa ts.length),(111,aa 0)],Bx⟩=
  some (.exit 4,⟨[(3,.d (binds .sub u)),(4,.ptr N 0),(5,.ptr (N+1) 0),(8,.ptr (N+3) 0),(9,.fn 327 [.ptr N 0,.ptr (N+1) 0,.ptr (N+2) 0]),(17,aa m),(18,.d (.sl U ((bJ ts m ts.length).map (T.enc .sub)))),(19,.d (.sl U ((cp ts m ts.length).map (T.enc .sub)))),(109,.d (ai .sub ts)),(110,aa ts.length),(111,aa ts.length),(112,ax false)],Bx⟩):=by
 have h:=cd (X:=XV) (T:=XV.lin 321) (L:=N+5) (live:=[3,4,5,8,9,17,18,19,109,110,111]) (b:=pg) (n:=ts.length) (γ:=Nat)
  (st:=fun(_:Unit) i=>⟨[(3,.d (binds .sub u)),(4,.ptr N 0),(5,.ptr (N+1) 0),(8,.ptr (N+3) 0),(9,.fn 327 [.ptr N 0,.ptr (N+1) 0,.ptr (N+2) 0]),(17,aa m),(18,.d (.sl U ((bJ ts m i).map (T.enc .sub)))),(19,.d (.sl U ((cp ts m i).map (T.enc .sub)))),(109,.d (ai .sub ts)),(110,aa ts.length),(111,aa i)],Bx⟩) (step:=eC)
  (F:=fun _=>(.exit 4,⟨[(3,.d (binds .sub u)),(4,.ptr N 0),(5,.ptr (N+1) 0),(8,.ptr (N+3) 0),(9,.fn 327 [.ptr N 0,.ptr (N+1) 0,.ptr (N+2) 0]),(17,aa m),(18,.d (.sl U ((bJ ts m ts.length).map (T.enc .sub)))),(19,.d (.sl U ((cp ts m ts.length).map (T.enc .sub)))),(109,.d (ai .sub ts)),(110,aa ts.length),(111,aa ts.length),(112,ax false)],Bx⟩)) (R:=fun _=>(.ret,⟨[],[]⟩))
  (fun a=>⟨by simp,by simp[pg]⟩)
  (fun a i hi=>by
   have C:=bE (n:=i) (by omega);have K:=Fw ts m i;have H:=Cw ts m i;have D:=qB (bJ ts m i) [aj ts i] U (by simp;omega);have G:=qB (cp ts m i) [aj ts i] U (by simp;omega);simp only[bA,cM,c6]at D G;have g:=Hd m i (by omega);have z:m/2^i<4611686018427387904:=Nat.lt_of_le_of_lt (Nat.div_le_self _ _) (by omega);have e:=and_one (m/2^i) z;have c:=Hh m i;generalize m/2^i=q at g e c;generalize q%2=r at e c;have l:=bg hi;have o:bJ ts m (i+1)=if m.testBit i then bJ ts m i++[aj ts i]else bJ ts m i:=rfl
   have w:cp ts m (i+1)=if m.testBit i then cp ts m i else cp ts m i++[aj ts i]:=rfl
   generalize aj ts i=t at*
   obtain⟨I,O,P⟩:=t;have tB:∀(x:Option aA) (r:ar),(Bx++x::r).take (N+5)=Bx:=fun x r=>by rw[<-j];simp
   unfold eC
   by_cases y:m.testBit i=true
   ·exact⟨_,by simp[pg,hi,C,cut,l,D,g,e,c,y,j,splice];rfl,by simp[aJ,aG,o,w,y,j,tB]⟩
   ·exact⟨_,by simp[pg,hi,C,cut,l,G,g,e,c,y,j,splice];rfl,by simp[aJ,aG,o,w,y,j,tB]⟩)
  ts.length () 0 ⟨[(3,.d (binds .sub u)),(4,.ptr N 0),(5,.ptr (N+1) 0),(8,.ptr (N+3) 0),(9,.fn 327 [.ptr N 0,.ptr (N+1) 0,.ptr (N+2) 0]),(17,aa m),(18,.d (.sl U [])),(19,.d (.sl U [])),(109,.d (ai .sub ts)),(110,aa ts.length),(111,aa 0)],Bx⟩ (by omega) (by simp[aJ,aG,bJ,cp,j];rw[<-j];simp)
 rw[jQ]at h;exact h
theorem Fa(n:Nat)(b:n<=40):dm .shl .i64 1 (n:Int)=some (.int .i64 ((2^n:Nat):Int)):=by
 unfold dm;have d:¬((n:Int)<0):=by omega
 have a:IntKind.i64.bits=64:=rfl;have c:min n 64=n:=by omega
 have e:2^n<=2^40:=oD (by omega) b;simp only[au d,AO,a,c,aL,DV.int.injEq,j6,Int.one_mul];rw[show((2:Int)^n)=((2^n:Nat):Int)by rw[Int.natCast_pow];rfl,IntKind.wrap_i64];generalize 2^n=q at*
 omega
theorem LS{B:List α}(h:B.length=N)(a b c d f:α)(r:List α):(B++a::b::c::d::f::r).take (N+5)=B++[a,b,c,d,f]:=by subst h;rw[show B++a::b::c::d::f::r=(B++[a,b,c,d,f])++r by simp,rh (by simp)]
def tE(D:Nat->Bool)(_:Unit)(i:Nat):Unit⊕Nat:=if D i then .inr i else .inl ()
theorem RY(s:aF)(hs:s.length<=1099511627776)(f:Int)(a:Int)(c ps ts:ah)(rest:bR)(u:aB)(k:Nat)(b:Nat->ar)(D:Nat->Bool)(N:Nat)(O:∀i,(b i).length=N)(hk:k<N)(hl:rest.length<=1000000000)(hp:ps.length<=1000000000)(x:ts.length<=12)(V:u.length<=1099511627776)
 (Y:∀i e,ap XV 319 [.ptr k 0] (b i++e)=some (ax (D i),b i++e)) (tl:Nat->aA) (j:∀i,(b i)[k]?=some (some (.d (sg s)::tl i))) (C:∀m,bw (bJ ts m ts.length)<=1099511627776)
 (i:Nat) (hi:i+1<2^ts.length) (y:D i=false)
 (o:∀e,ap XV 318 [.ptr k 0,.d (bD .sub (bX f ps (cp ts (i+1) ts.length)::rest)),.d (binds .sub (cC u a (cU s f (bJ ts (i+1) ts.length))))] (b i++e)=some (.d (.tup []),b (i+1)++e)):
 ∃e,aO XV (XV.lin 321) pR ⟨[(3,.d (binds .sub u)),(4,.ptr N 0),(5,.ptr (N+1) 0),(8,.ptr (N+3) 0),(9,.fn 327 [.ptr N 0,.ptr (N+1) 0,.ptr (N+2) 0]),(17,aa (i+1:Nat))],
  b i++[some [.ptr k 0],some [ax true,aa f,.d (ai .sub (.node (-1) a c::ps)),.d (ai .sub ts)],some [.d (bD .sub rest)],some [aa (-1),aa a,.d (ai .sub c)],some [aa 0,aa 0,.d (ai .sub [])]]⟩=
  some (.normal,⟨[(3,.d (binds .sub u)),(4,.ptr N 0),(5,.ptr (N+1) 0),(8,.ptr (N+3) 0),(9,.fn 327 [.ptr N 0,.ptr (N+1) 0,.ptr (N+2) 0]),(17,aa (i+1+1:Nat))],
   b (i+1)++some [.ptr k 0]::some [ax true,aa f,.d (ai .sub (.node (-1) a c::ps)),.d (ai .sub ts)]::some [.d (bD .sub rest)]::some [aa (-1),aa a,.d (ai .sub c)]::some [aa 0,aa 0,.d (ai .sub [])]::e⟩):=by
 have z:2^ts.length<=2^12:=oD (by omega) x;have w:=Fa ts.length (by omega);have J:((i+1:Nat):Int)<((2^ts.length:Nat):Int):=by omega
 have hw:=bE (n:=i+1) (by omega);have q:=O i;have K:=O (i+1);have l:=Y_ ts (i+1) u N (b i++[some [.ptr k 0],some [ax true,aa f,.d (ai .sub (.node (-1) a c::ps)),.d (ai .sub ts)],some [.d (bD .sub rest)],some [aa (-1),aa a,.d (ai .sub c)],some [aa 0,aa 0,.d (ai .sub [])]]) (by simp[q]) (by omega) (by omega);have P:=Y i [some [.ptr k 0],some [ax true,aa f,.d (ai .sub (.node (-1) a c::ps)),.d (ai .sub ts)],some [.d (bD .sub rest)],some [aa (-1),aa a,.d (ai .sub c)],some [aa 0,aa 0,.d (ai .sub [])]];rw[y]at P;have H:=O1 s hs f (bJ ts (i+1) ts.length) (C _);have G:=LI .sub .sub (by simp) (by simp) u a (cU s f (bJ ts (i+1) ts.length)) [] V;have g:=Dc f (.node (-1) a c) ps ts (cp ts (i+1) ts.length) [] rest (cC u a (cU s f (bJ ts (i+1) ts.length))) k (b i) (b (i+1)) [some [aa (-1),aa a,.d (ai .sub c)],some [aa 0,aa 0,.d (ai .sub [])]] (by omega) (by omega) (by simp;omega) (by omega) (by simpa using o);rw[q]at g;have hg:∀e,(b i++e)[k]?=some (some (.d (sg s)::tl i)):=fun e=>by rw[cf (by omega)];exact j i
 have Z:∀h,(b i)[k]'h=some (.d (sg s)::tl i):=fun h=>by have:=j i;rw[eJ h]at this;simpa using this
 have F:∀e h,(b i++e)[k]'h=some (.d (sg s)::tl i):=fun e h=>by rw[xp (by omega)];exact Z _
 have I:k<N+5:=by omega
 have S:¬(N+5<=N):=by omega
 have X:¬(N+5<=N+1):=by omega
 have W:¬(N+5<=N+3):=by omega
 have R:¬(N+5<=k):=by omega
 simp only[D1]at l⊢
 refine⟨[],?_⟩;generalize cC u a (cU s f (bJ ts (i+1) ts.length))=u2 at*
 generalize cU s f (bJ ts (i+1) ts.length)=mk at*
 generalize bJ ts (i+1) ts.length=on at*
 generalize cp ts (i+1) ts.length=off at*
 generalize ((2^ts.length:Nat):Int)=M at*
 generalize ((i+1:Nat):Int)=m at*
 generalize ((i+1+1:Nat):Int)=m2 at*
 simp only[bD,cM]at g;simp[pR,w,J,P,q];rw[l];simp[UB,F,I,S,X,W,R,q,K,H,G,g,hw]
theorem Si(s:aF)(hs:s.length<=1099511627776)(f:Int)(g:Int)(l ps ts:ah)(rest:bR)(u:aB)(k:Nat)(c:Nat->ar)(D:Nat->Bool)(N:Nat)(o:∀i,(c i).length=N)(Y:k<N)(hl:rest.length<=1000000000)(hp:ps.length<=1000000000)(J:ts.length<=12)(Z:u.length<=1099511627776)
 (hD:∀i e,ap XV 319 [.ptr k 0] (c i++e)=some (ax (D i),c i++e)) (tl:Nat->aA) (I:∀i,(c i)[k]?=some (some (.d (sg s)::tl i))) (S:∀m,bw (bJ ts m ts.length)<=1099511627776)
 (hb:cW u g=none) (P:∀i,D i=true->D (i+1)=true) (O:∀i,D i=true->c (i+1)=c i)
 (C:∀i,i+1<2^ts.length->D i=false->∀e,ap XV 318 [.ptr k 0,.d (bD .sub (bX f ps (cp ts (i+1) ts.length)::rest)),.d (binds .sub (cC u g (cU s f (bJ ts (i+1) ts.length))))] (c i++e)=some (.d (.tup []),c (i+1)++e)):
 ap XV 321 [.ptr k 0,.d ((Gl.mk true f (.node (-1) g l::ps) ts).enc .sub),.d (bD .sub rest),.d (binds .sub u)] (c 0)=some (.d (.tup []),c (2^ts.length-1)):=by
 rw[aN 321 gZ rfl];have h1:=jl (.node (-1) g l);simp only[T.qaO,BEq.rfl]at h1;have V:=ue u g Z;rw[hb]at V;simp only at V;have z:=Fa ts.length (by omega);have h:=cd (X:=XV) (T:=XV.lin 321) (L:=N+5) (live:=[3,4,5,8,9,17]) (b:=pR) (n:=2^ts.length-1) (γ:=Nat)
  (st:=fun(_:Unit) i=>⟨[(3,.d (binds .sub u)),(4,.ptr N 0),(5,.ptr (N+1) 0),(8,.ptr (N+3) 0),(9,.fn 327 [.ptr N 0,.ptr (N+1) 0,.ptr (N+2) 0]),(17,aa (i+1:Nat))],c i++[some [.ptr k 0],some [ax true,aa f,.d (ai .sub (.node (-1) g l::ps)),.d (ai .sub ts)],some [.d (bD .sub rest)],some [aa (-1),aa g,.d (ai .sub l)],some [aa 0,aa 0,.d (ai .sub [])]]⟩) (step:=tE D)
  (F:=fun _=>(.exit 2,⟨[(3,.d (binds .sub u)),(4,.ptr N 0),(5,.ptr (N+1) 0),(8,.ptr (N+3) 0),(9,.fn 327 [.ptr N 0,.ptr (N+1) 0,.ptr (N+2) 0]),(17,aa (2^ts.length-1+1:Nat)),(103,ax false)],c (2^ts.length-1)++[some [.ptr k 0],some [ax true,aa f,.d (ai .sub (.node (-1) g l::ps)),.d (ai .sub ts)],some [.d (bD .sub rest)],some [aa (-1),aa g,.d (ai .sub l)],some [aa 0,aa 0,.d (ai .sub [])]]⟩)) (R:=fun i=>(.exit 2,⟨[(3,.d (binds .sub u)),(4,.ptr N 0),(5,.ptr (N+1) 0),(8,.ptr (N+3) 0),(9,.fn 327 [.ptr N 0,.ptr (N+1) 0,.ptr (N+2) 0]),(17,aa (i+1:Nat)),(103,ax false)],c i++[some [.ptr k 0],some [ax true,aa f,.d (ai .sub (.node (-1) g l::ps)),.d (ai .sub ts)],some [.d (bD .sub rest)],some [aa (-1),aa g,.d (ai .sub l)],some [aa 0,aa 0,.d (ai .sub [])]]⟩))
  (fun a=>⟨by simp,by
   have w:¬((2^ts.length-1+1:Nat):Int)<((2^ts.length:Nat):Int):=by omega
   have x:=o (2^ts.length-1);generalize ((2^ts.length:Nat):Int)=M at*
   generalize ((2^ts.length-1+1:Nat):Int)=m at*
   generalize c (2^ts.length-1)=Q at*
   simp[pR,z,w,x]⟩)
  (fun a i hi=>by
   have x:=o i;have H:=o (i+1);unfold tE;cases hd0:D i with
   |true=>
    have hd:=hD i [some [.ptr k 0],some [ax true,aa f,.d (ai .sub (.node (-1) g l::ps)),.d (ai .sub ts)],some [.d (bD .sub rest)],some [aa (-1),aa g,.d (ai .sub l)],some [aa 0,aa 0,.d (ai .sub [])]];rw[hd0]at hd;have w:(i:Int)+1<((2^ts.length:Nat):Int):=by omega
    generalize ((2^ts.length:Nat):Int)=M at*
    exact⟨by simp,by simp[pR,z,w,hd,x]⟩
   |false=>obtain⟨e,he⟩:=RY s hs f g l ps ts rest u k c D N o Y hl hp J Z hD tl I S i (by omega) hd0 (C i (by omega) hd0);refine⟨_,he,?_⟩;simp[aJ,aG,LS H,H])
  (2^ts.length-1) () 0 ⟨[(3,.d (binds .sub u)),(4,.ptr N 0),(5,.ptr (N+1) 0),(8,.ptr (N+3) 0),(9,.fn 327 [.ptr N 0,.ptr (N+1) 0,.ptr (N+2) 0]),(17,aa 1)],c 0++[some [.ptr k 0],some [ax true,aa f,.d (ai .sub (.node (-1) g l::ps)),.d (ai .sub ts)],some [.d (bD .sub rest)],some [aa (-1),aa g,.d (ai .sub l)],some [aa 0,aa 0,.d (ai .sub [])]]⟩ (by omega) (by simp[aJ,aG,LS (o 0),o 0])
 have G:∀n i,match runN (tE D) n () i with| .inl _=>True| .inr j=>c j=c (i+n):=by
  intro n
  induction n with
  |zero=>intro i;trivial
  |succ n ih=>
   intro i;simp only[runN,tE];cases hd0:D i with
   |true=>
    simp only[if_true];have:∀m,D (i+m)=true/\c (i+m)=c i:=fun m=>by
     induction m with
     |zero=>exact⟨hd0,rfl⟩
     |succ m q=>exact⟨P _ q.1,by rw[<-Nat.add_assoc,O _ q.1,q.2]⟩
    exact(this (n+1)).2.symm
   |false=>simp only[bL,if_false];have:=ih (i+1);rwa[show i+1+n=i+(n+1)by omega]at this
 have K:=G (2^ts.length-1) 0;have x:=o 0;have W:(((ps.length:Int)+1)==0)=false:=by simp;omega
 have y:=o (2^ts.length-1);simp only[D1]at h;simp[gZ,h1,V,W,Y,x,Jz x,splice,cut];rw[h];cases hrn:runN (tE D) (2^ts.length-1) () 0 with
 |inl a=>simp[y]
 |inr j=>rw[hrn]at K;simp only[fR]at K;simp[K,y]
mutual
def T.nf(s:aF):T->Prop
 | .node f v ks=>T.nfs s ks/\(bI s f=true->(∀k,k∈ks->k.f≠f)/\ck ks)
def T.nfs(s:aF):ah->Prop
 | []=>True
 |t::r=>t.nf s/\T.nfs s r
end
theorem T.qmN(s:aF):∀l:ah,T.nfs s l↔∀t,t∈l->t.nf s
 | []=>by simp[T.nfs]
 |t::r=>by simp[T.nfs,T.qmN s r]
theorem ZF(s:aF)(f:Int)(l:ah)(t:T):t∈flatK s f l↔∃k,k∈l/\t∈eh s f k:=by unfold flatK;simp
theorem FG(s:aF)(f:Int):∀l:ah,(∀k,k∈l->k.f≠f)->flatK s f l=l
 | [],_=>rfl
 |k::l,h=>by
  rw[r9,FG s f l (fun x b=>h x (by simp[b]))];have a:(k.f==f)=false:=by simpa using h k (by simp)
  simp[eh,a]
mutual
theorem Gp(s:aF):∀t:T,(t.norm s).nf s
 | .node f v ks=>by
  have j:=HA s ks;rw[T.qmN]at j;simp only[T.norm,T.nf]
  by_cases c:bI s f=true
  ·simp only[c,if_true]
   have l:∀e,e∈flatK s f (T.norms s ks)->e.nf s/\e.f≠f:=fun e d=>by
    obtain⟨k,m,a⟩:=(ZF s f _ e).1 d;have g:=j k m;unfold eh at a
    by_cases b:k.f=f
    ·have:(bI s f&&k.f==f)=true:=by simp[c,b]
     rw[aw this]at a;obtain⟨n,v',i⟩:=k;simp only[T.qaO]at b;subst b;simp only[T.nf,T.qaD]at g a;exact⟨(T.qmN s i).1 g.1 e a,(g.2 c).1 e a⟩
    ·have:(bI s f&&k.f==f)=false:=by simp[b]
     rw[this]at a;simp at a;subst a
     exact⟨g,b⟩
   refine⟨?_,fun _=>⟨fun e d=>(l e ((lR _).mem_iff.1 d)).2,Ks _⟩⟩;rw[T.qmN];exact fun e d=>(l e ((lR _).mem_iff.1 d)).1
  ·simp only[c,bL,if_false]
   refine⟨?_,fun h=>absurd h id⟩;rw[T.qmN,uf s f c];exact j
theorem HA(s:aF):∀l:ah,T.nfs s (T.norms s l)
 | []=>by simp[T.norms,T.nfs]
 |t::r=>by simp only[T.norms,T.nfs];exact⟨Gp s t,HA s r⟩
end
mutual
theorem AP(s:aF):∀t:T,t.nf s->t.norm s=t
 | .node f v ks,h=>by
  simp only[T.nf]at h;simp only[T.norm,Ie s ks h.1]
  by_cases a:bI s f=true
  ·obtain⟨c,b⟩:=h.2 a
   simp only[a,if_true];rw[FG s f ks c,<-Cb (jW ks) b]
  ·simp only[a,bL,if_false]
   rw[uf s f a]
theorem Ie(s:aF):∀l:ah,T.nfs s l->T.norms s l=l
 | [],_=>by simp[T.norms]
 |t::r,h=>by simp only[T.norms];rw[AP s t h.1,Ie s r h.2]
end
theorem K6:∀l:ah,(∀i,0<i->i<l.length->¬T.cmp (aj l i) (aj l (i-1))<0)->ck l
 | [],_=>ns
 | [a],_=>rZ _ _
 |a::b::r,h=>by
  have m:=K6 (b::r) (fun i g hi=>by
   have:=h (i+1) (by omega) (by simpa using hi);have e:∀j,aj (a::b::r) (j+1)=aj (b::r) j:=fun j=>by simp[aj]
   rw[e i,show i+1-1=(i-1)+1 by omega,e (i-1)]at this;exact this)
  have g:=h 1 (by omega) (by simp);simp only[aj,mP,eG,fy,nw]at g;have c:dD a b:=pM g;refine jc.2 ⟨fun y d=> ?_,m⟩;rcases bK.1 d with rfl|d
  ·exact c
  ·exact tw c ((jc.1 m).1 y d)
variable{f:Int}
theorem Ky{l:aF}(h:bI l f=true):(aZ l f.toNat).ac=true:=by unfold bI at h;simp only[aQ]at h;exact h.2
theorem G5(q:Nat->Bool)(n:Nat)(h:(a8 q n 0).isNone=true):∀i,i<n->q i=false:=fun i hi=>by have:=(sB q n 0).2 (by simpa using h) i (by omega) (by omega);exact this
mutual
theorem pL(l:aF):∀t:T,T.form l t=true->t.nf l
 | .node f v ks,h=>by
  simp only[T.form]at h;simp only[T.nf]
  by_cases e:f= -1
  ·rw[aw e]at h
   have c:ks=[]:=by simp only[aQ,bu]at h;exact nQ h.2
   subst c;exact⟨trivial,fun _=>⟨fun k c=>by simp at c,ns⟩⟩
  ·rw[au e]at h
   split at h
   ·simp at h
   ·have g:=G5 _ _ h
    have b:∀i,i<ks.length->T.form l (aj ks i)=true/\dL l f ks i=false:=fun i hi=>by have:=g i hi;rw[T.qkU l ks i hi]at this;simpa using this
    refine⟨Ja l ks (fun i hi=>(b i hi).1),fun d=>⟨fun k c=> ?_,K6 ks fun i m hi=> ?_⟩⟩
    ·obtain⟨i,hi,rfl⟩:=lU c
     have a:=(b i hi).2;rw[bg hi];unfold dL at a;rw[aw (Ky d)]at a;intro j;rw[aw j]at a;simp at a
    ·have a:=(b i hi).2
     unfold dL at a;rw[aw (Ky d)]at a;split at a
     ·simp at a
     ·rw[au (by omega)]at a
      simpa using a
theorem Ja(l:aF):∀ks:ah,(∀i,i<ks.length->T.form l (aj ks i)=true)->T.nfs l ks
 | [],_=>trivial
 |t::r,h=>⟨pL l t (by have:=h 0 (by simp);simpa[aj]using this),Ja l r fun i hi=>by have:=h (i+1) (by simpa using hi);simpa[aj]using this⟩
end
variable{s:aF}
theorem Fe(h:bI s f=true):dS s f=true:=by unfold bI at h;simp only[aQ]at h;exact h.1
theorem Pe(s:aF)(f:Int)(ks:ah)(a:bI s f=true)(b:2<=ks.length):cU s f ks= .node f 0 (eE (flatK s f (ks.map (T.norm s)))):=by unfold cU;rw[au (fun h=>by omega),au (fun h=>by omega),aw (Fe a)];simp only[T.norm,a,if_true,T.norms_map]
def b7(s:aF):bR->aB->List (bR×aB)
 | [],_=>[]
 |⟨true,f,ps,ts⟩::rest,u=>(match ps with
  | []=>if ts.length=0 then [(rest,u)]else []
  |p::ps=>if p.f= -1 then(match cW u p.v with
   |some j=>(match takeN ts (partsOf f (aH u j).t)with
    | .inl r=>[(bX f ps r::rest,u)]
    | .inr _=>[])
   |none=>(List.range (2^ts.length-1)).map fun m=>(bX f ps (cp ts (m+1) ts.length)::rest,cC u p.v (cU s f (bJ ts (m+1) ts.length))))
   else(List.range ts.length).map fun i=>(ci p (aj ts i)::bX f ps (cV ts i)::rest,u))
 |⟨false,f,ps,ts⟩::rest,u=>(if(aj ps 0).f= -1 then(match cW u (aj ps 0).v with
  |none=>[(rest,cC u (aj ps 0).v (aj ts 0))]
  |some j=>if T.cmp (aH u j).t (aj ts 0)==0 then [(rest,u)]else [])
  else if(aj ps 0).f≠(aj ts 0).f then []
  else if bI s (aj ps 0).f=true then [(bX (aj ps 0).f (aj ps 0).kids (aj ts 0).kids::rest,u)]
  else if(aj ps 0).kids.length≠(aj ts 0).kids.length then []
  else [(c9 (aj ps 0).kids (aj ts 0).kids (aj ps 0).kids.length++rest,u)])
theorem eP(s:aF)(f:Int)(p t:T)(rest:bR)(u:aB):b7 s (⟨false,f,[p],[t]⟩::rest) u=
 (if p.f= -1 then(match cW u p.v with
  |none=>[(rest,cC u p.v t)]
  |some j=>if T.cmp (aH u j).t t==0 then [(rest,u)]else [])
 else if p.f≠t.f then []
 else if bI s p.f=true then [(bX p.f p.kids t.kids::rest,u)]
 else if p.kids.length≠t.kids.length then []
 else [(c9 p.kids t.kids p.kids.length++rest,u)]):=rfl
theorem qP(s:aF)(n:Nat)(u:aB):cP s (n+1) [] u=[none,some u]:=rfl
theorem qX(s:aF)(n:Nat)(g:Gl)(rest:bR)(u:aB):cP s (n+1) (g::rest) u=none::(b7 s (g::rest) u).flatMap fun c=>cP s n c.1 c.2:=by
 obtain⟨m,f,ps,ts⟩:=g;cases m with
 |true=>
  cases ps with
  |nil=>
   by_cases c:ts.length=0
   ·simp[cP,b7,c]
   ·simp[cP,b7,c]
  |cons p ps=>
   simp only[cP,b7]
   by_cases c:p.f= -1
   ·rw[aw c,aw c]
    cases cW u p.v with
    |none=>simp only[nN]
    |some j=>simp only;cases takeN ts (partsOf f (aH u j).t)<;>simp
   ·rw[au c,au c]
    simp only[nN]
 |false=>
  simp only[cP,b7]
  by_cases c:(aj ps 0).f= -1
  ·rw[aw c,aw c]
   cases cW u (aj ps 0).v with
   |none=>simp
   |some j=>simp only;split<;>simp
  ·rw[au c,au c]
   split
   ·simp
   ·split
    ·simp
    ·split
     ·simp
     ·simp[c9]
def Gl.good(s:aF)(g:Gl):Prop:=bw g.ts<=1000/\(∀x,x∈g.ts->dX x=false/\T.form s x=true)/\(∀x,x∈g.ps->T.form s x=true)/\(g.many=true->g.ts.length<=12/\bI s g.f=true/\(∀x,x∈g.ts->x.f≠g.f)/\∀x,x∈g.ps->x.f≠g.f)/\(g.many=false->∃p t,g.ps=[p]/\g.ts=[t])
structure Inv(s:aF)(gl:bR)(u:aB):Prop where
 g:∀g,g∈gl->g.good s
 b:∀b,b∈u->b.t.inner<=1000/\b.t.nf s
 m:u.length+fN gl<=1000000
theorem gk(g:Gl)(l:bR):fN (g::l)=ir g+fN l:=rfl
theorem DU(a b:bR):fN (a++b)=fN a+fN b:=by unfold fN;rw[c6,List.sum_append]
theorem mj(f:Int)(ps ts:ah):ir (bX f ps ts)=1+3*bw ps:=rfl
theorem tG(p t:T):ir (ci p t)=3*p.inner+2:=rfl
theorem CX:∀l:bR,l.length<=fN l
 | []=>bf _
 |g::l=>by
  have h:=CX l;rw[gk];have:1<=ir g:=by unfold ir;split<;>omega
  simp only[de];omega
variable{u:aB}{gl:bR}
theorem Inv.small(h:Inv s gl u):small u:=⟨by have:=h.m;omega,fun i hi=>by have:=(h.b _ (uv hi)).1;omega⟩
variable{ks:ah}{v:Int}
theorem KG(h:T.form s (.node f v ks)=true)(a:f≠-1):fp s f v ks.length=false/\∀k,k∈ks->T.form s k=true:=by
 cases hb:fp s f v ks.length with
 |true=>simp[T.form,a,hb]at h
 |false=>
  refine⟨rfl,fun k b=> ?_⟩;rw[JZ s f v ks a hb]at h;obtain⟨i,hi,rfl⟩:=lU b;rw[bg hi];cases hq:T.form s (aj ks i)with
  |true=>rfl
  |false=>have:=(MZ (fun i=> !T.form s (aj ks i)||dL s f ks i) ks.length 0).2 ⟨i,db _,by omega,by simp[hq]⟩;rw[Mh]at h;rw[h]at this;cases this
theorem Zn{w:Int}{n m:Nat}(a:fp s f v n=false)(b:fp s f w m=false)(c:bI s f=false):n=m:=by
 unfold fp at a b;unfold bI at c
 by_cases d:dS s f=true
 ·rw[d,fh]at c
  rw[aw d]at a b
  by_cases g:v=0
  ·by_cases e:w=0
   ·simp[c,g]at a
    simp[c,e]at b;omega
   ·simp[e]at b
  ·simp[g]at a
 ·simp[d]at a
theorem qCA(h:dX (.node f v ks)=false):ks.length<=12/\∀k,k∈ks->dX k=false:=by simp only[dX,kC,jN,GK,List.any_eq_false]at h;exact⟨by omega,fun k a=>by simpa using h.2 k a⟩
theorem Bl{p:T}(h:T.form s p=true)(a:p.f≠-1):fp s p.f p.v p.kids.length=false/\∀k,k∈p.kids->T.form s k=true:=by obtain⟨f,v,ks⟩:=p;exact KG h a
variable{t:T}
theorem qy9(h:dX t=false):t.kids.length<=12/\∀k,k∈t.kids->dX k=false:=by obtain⟨f,v,ks⟩:=t;exact qCA h
theorem FC(h:t.nf s)(a:bI s t.f=true):(∀k,k∈t.kids->k.f≠t.f)/\ck t.kids:=by obtain⟨f,v,ks⟩:=t;simp only[T.nf]at h;exact h.2 a
theorem JM(s:aF)(f:Int)(ks:ah)(a:bI s f=true):(cU s f ks).nf s:=by
 unfold cU;split
 ·simp only[T.nf,T.nfs,j6]
  exact fun _=>⟨fun k b=>by(cases b),ns⟩
 ·split
  ·exact Gp s _
  ·rw[aw (Fe a)];exact Gp s _
theorem pU{a b:ah}(h:a.Sublist b):bw a<=bw b:=by
 induction h with
 |slnil=>exact bf _
 |cons x _ c=>rw[dZ];omega
 |cons_cons x _ c=>rw[dZ,dZ];omega
theorem Kz(l:ah)(j:Nat):(cV l j).Sublist l:=by unfold cV;rw[<-List.eraseIdx_eq_take_drop_succ];exact List.eraseIdx_sublist l j
theorem H6:∀(xs l r:ah),takeN l xs= .inl r->r.Sublist l
 | [],l,r,h=>by simp only[takeN,qh]at h;subst h;exact co _
 |x::xs,l,r,h=>by
  unfold takeN at h;cases hf:a8 (eS l x) l.length 0 with
  |none=>rw[hf]at h;cases h
  |some j=>rw[hf]at h;exact(H6 xs _ r h).trans (Kz l j)
theorem yi(l:ah)(i:Nat)(h:i<l.length):l.take (i+1)=l.take i++[aj l i]:=by rw[NY,CY h];rfl
theorem Fh(l:ah)(m:Nat):∀i,i<=l.length->(bJ l m i).Sublist (l.take i)
 |0,_=>kE _
 |i+1,h=>by
  rw[yi l i h];unfold bJ;split
  ·exact(Fh l m i (by omega)).append (co _)
  ·exact(Fh l m i (by omega)).trans (pC _ _)
theorem CZ(l:ah)(m:Nat):∀i,i<=l.length->(cp l m i).Sublist (l.take i)
 |0,_=>kE _
 |i+1,h=>by
  rw[yi l i h];unfold cp;split
  ·exact(CZ l m i (by omega)).trans (pC _ _)
  ·exact(CZ l m i (by omega)).append (co _)
theorem BH(l:ah)(m:Nat):(bJ l m l.length).Sublist l:=by have:=Fh l m l.length (bf _);rwa[fG]at this
theorem Ui(l:ah)(m:Nat):(cp l m l.length).Sublist l:=by have:=CZ l m l.length (bf _);rwa[fG]at this
theorem Qm{p:T}{ps ts r:ah}(h:(Gl.mk true f (p::ps) ts).good s)(b:r.Sublist ts):(bX f ps r).good s:=⟨cT (pU b) h.1,fun x a=>h.2.1 x (b.subset a),fun x a=>h.2.2.1 x (em _ a),fun _=>⟨cT b.length_le (h.2.2.2.1 rfl).1,(h.2.2.2.1 rfl).2.1,fun x a=>(h.2.2.2.1 rfl).2.2.1 x (b.subset a),fun x a=>(h.2.2.2.1 rfl).2.2.2 x (em _ a)⟩,fun e=>by(cases e)⟩
theorem MV(u:aB)(v:Int)(t:T):(cC u v t).length=u.length+1:=by unfold cC;have:fD u v<=u.length:=rP;simp;omega
theorem Ci{b:Bd}(h:b∈cC u v t):b=⟨v,t⟩\/b∈u:=by
 unfold cC at h;rcases bC.1 h with h|h
 ·exact .inr (sF h)
 ·rcases bK.1 h with h|h
  ·exact .inl h
  ·exact .inr (sV h)
theorem LO(ps ts:ah):∀n,n<=ps.length->fN (c9 ps ts n)+n=3*bw (ps.take n)
 |0,_=>by simp[c9,fN,bw,T.inners]
 |n+1,h=>by
  rw[G3,DU,yi ps n h,GJ,gk,tG];have:=LO ps ts n (by omega);have e:bw [aj ps n]=(aj ps n).inner+1:=by rw[dZ];simp[bw,T.inners]
  have a:fN []=0:=rfl;omega
theorem ka(h:Inv s gl u)(c:bR×aB)(hc:c∈b7 s gl u):Inv s c.1 c.2/\fN c.1<fN gl:=by
 match gl,h,hc with
 | [],h,hc=>simp[b7]at hc
 |⟨true,f,ps,ts⟩::rest,h,hc=>
  have P:=h.m;have d:=h.g _ (fH ..);have C:∀g,g∈rest->g.good s:=fun g d=>h.g g (em _ d)
  rw[gk]at P⊢
  cases ps with
  |nil=>
   have e:ir ⟨true,f,[],ts⟩=1:=rfl;simp only[b7]at hc;split at hc
   ·rw[bO]at hc;subst hc
    exact⟨⟨C,h.b,by simp only;omega⟩,by simp only;omega⟩
   ·cases hc
  |cons p ps=>
   have e:ir ⟨true,f,p::ps,ts⟩=1+3*(p.inner+1+bw ps):=by rw[<-dZ];rfl
   simp only[b7]at hc;have l:∀r:ah,r.Sublist ts->∀g,g∈bX f ps r::rest->g.good s:=fun r O g a=>by
    rcases bK.1 a with rfl|a
    ·exact Qm d O
    ·exact C g a
   split at hc
   ·split at hc
    ·rename_i j hj
     split at hc
     ·rename_i r M
      rw[bO]at hc;subst hc
      simp only[gk,mj];exact⟨⟨l r (H6 _ _ _ M),h.b,by simp only[gk,mj];omega⟩,by omega⟩
     ·cases hc
    ·obtain⟨m,_,rfl⟩:=cw.1 hc
     simp only[gk,mj];refine⟨⟨l _ (Ui ts (m+1)),fun b y=> ?_,?_⟩,by omega⟩
     ·rcases Ci y with rfl|y
      ·have W:=Lq s f (bJ ts (m+1) ts.length)
       have R:=pU (BH ts (m+1));have S:=d.1;simp only at S⊢
       exact⟨by omega,JM s f _ (d.2.2.2.1 rfl).2.1⟩
      ·exact h.b b y
     ·simp only[gk,mj,MV];omega
   ·obtain⟨i,hi,rfl⟩:=cw.1 hc
    have hi:=f_.1 hi;simp only[gk,mj,tG];refine⟨⟨fun g a=> ?_,h.b,?_⟩,by omega⟩
    ·rcases bK.1 a with rfl|a
     ·have W:=fX (bV hi)
      have R:=d.1;have S:(aj ts i).inner+1<=bw ts:=by have:=pU (HV.2 (bV hi));rw[dZ]at this;omega
      refine⟨?_,fun x n=> ?_,fun x n=> ?_,fun e=>by(cases e),fun _=>⟨_,_,rfl,rfl⟩⟩
      ·simp only[ci,dZ]
       have:bw []=0:=rfl;simp only at R;omega
      ·simp only[ci,bO]at n;subst n;exact d.2.1 _ (bV hi)
      ·simp only[ci,bO]at n;subst n;exact d.2.2.1 _ (fH ..)
     ·exact l _ (Kz ts i) g a
    ·simp only[gk,mj,tG];omega
 |⟨false,f,ps,ts⟩::rest,h,hc=>
  have P:=h.m;have d:=h.g _ (fH ..);have C:∀g,g∈rest->g.good s:=fun g d=>h.g g (em _ d)
  rw[gk]at P⊢
  obtain⟨p,t,Y,V⟩:=d.2.2.2.2 rfl;simp only at Y V;subst Y V;have e:ir ⟨false,f,[p],[t]⟩=3*p.inner+2:=rfl;have K:t.inner<=1000:=by have:=d.1;simp only[dZ]at this;omega
  rw[eP]at hc
  by_cases H:p.f= -1
  ·rw[aw H]at hc
   split at hc
   ·rw[bO]at hc;subst hc
    refine⟨⟨C,fun b y=> ?_,?_⟩,by simp only;omega⟩
    ·rcases Ci y with rfl|y
     ·exact⟨K,pL s _ (d.2.1 _ (bO.2 rfl)).2⟩
     ·exact h.b b y
    ·simp only[MV];omega
   ·split at hc
    ·rw[bO]at hc;subst hc
     exact⟨⟨C,h.b,by simp only;omega⟩,by simp only;omega⟩
    ·cases hc
  ·rw[au H]at hc
   by_cases q:p.f=t.f
   case neg=>rw[aw q]at hc;cases hc
   case pos=>
    rw[au (fun h=>h q)]at hc;have G:=Bl (d.2.2.1 _ (bO.2 rfl)) H;have F:=Bl (d.2.1 _ (bO.2 rfl)).2 (by rw[<-q];exact H);have z:=qy9 (d.2.1 _ (bO.2 rfl)).1;have I:=pL s _ (d.2.2.1 _ (bO.2 rfl));have J:=pL s _ (d.2.1 _ (bO.2 rfl)).2;have Z:p.inner=bw p.kids:=T.qdz p;have X:t.inner=bw t.kids:=T.qdz t
    by_cases o:bI s p.f=true
    ·rw[aw o,bO]at hc;subst hc
     simp only[gk,mj];refine⟨⟨fun g a=> ?_,h.b,?_⟩,by omega⟩
     ·rcases bK.1 a with rfl|a
      ·refine⟨by simp only[bX];omega,fun x n=>⟨z.2 x n,F.2 x n⟩,G.2,fun _=>⟨z.1,o,?_,?_⟩,fun e=>by(cases e)⟩
       ·rw[q]at o⊢
        exact(FC J o).1
       ·exact(FC I o).1
      ·exact C g a
     ·simp only[gk,mj];omega
    ·rw[au o]at hc
     by_cases w:p.kids.length=t.kids.length
     case neg=>rw[aw w]at hc;cases hc
     case pos=>
      rw[au (fun h=>h w),bO]at hc;subst hc
      have hw:=LO p.kids t.kids p.kids.length (bf _);rw[fG]at hw;simp only[DU];refine⟨⟨fun g a=> ?_,h.b,?_⟩,by omega⟩
      ·rcases bC.1 a with a|a
       ·unfold c9 at a
        obtain⟨i,hi,rfl⟩:=cw.1 a;have hi:=f_.1 hi;have D:i<t.kids.length:=by omega
        refine⟨?_,fun x n=> ?_,fun x n=> ?_,fun e=>by(cases e),fun _=>⟨_,_,rfl,rfl⟩⟩
        ·have W:=pU (HV.2 (bV D))
         simp only[ci];omega
        ·simp only[ci,bO]at n;subst n
         exact⟨z.2 _ (bV D),F.2 _ (bV D)⟩
        ·simp only[ci,bO]at n;subst n
         exact G.2 _ (bV hi)
       ·exact C g a
      ·simp only[DU];omega
theorem rJ{P:bR->aB->Prop}(b:∀gl u c,P gl u->c∈b7 s gl u->P c.1 c.2):∀(n:Nat) (gl:bR) (u w:aB),P gl u->some w∈cP s n gl u->P [] w
 |0,gl,u,w,_,h=>by simp[cP]at h
 |n+1,[],u,w,a,h=>by rw[qP]at h;simp at h;subst h;exact a
 |n+1,g::rest,u,w,a,h=>by rw[qX]at h;simp only[bK,vS,reduceCtorEq,false_or]at h;obtain⟨c,hc,d⟩:=h;exact rJ b n c.1 c.2 w (b _ _ c a hc) d
theorem Gt(n:Nat){w:aB}(h:Inv s gl u)(a:some w∈cP s n gl u):small w:=(rJ (P:=Inv s) (fun gl u c b hc=>(ka b c hc).1) n gl u w h a).small
structure MS.good(S:MS):Prop where
 o:S.over=decide (20000<S.steps)
 n:S.steps<=20001
 l:S.ways.length<=61
 w:∀w,w∈S.ways->small w
theorem MS.good.ev{S:MS}(h:S.good)(e:Option aB)(i:∀w,e=some w->small w):(S.ev e).good:=by
 have b:=S.qOF e h.l;unfold MS.ev at b⊢
 split
 ·exact h
 ·rename_i c
  rw[au c]at b;cases e with
  |none=>
   refine⟨rfl,?_,h.l,h.w⟩;have g:=h.o;unfold MS.done at c;simp only[cI,bu,not_or]at c;have m:¬20000<S.steps:=fun j=>c.1 (by rw[g];simpa using j)
   simp only;omega
  |some u=>
   simp only at b⊢
   split
   ·exact h
   ·rename_i d
    rw[au d]at b;refine⟨h.o,h.n,b,fun w a=> ?_⟩;simp only[bC,bO]at a;rcases a with a|a
    ·exact h.w w a
    ·exact i w (by rw[a])
theorem MS.good.run:∀(a:List (Option aB)) {S:MS},S.good->(∀w,some w∈a->small w)->(S.run a).good
 | [],S,h,_=>h
 |e::a,S,h,c=>MS.good.run a (S:=S.ev e) (h.ev e fun w b=>c w (by rw[b];exact fH ..)) fun w b=>c w (em _ b)
theorem fm(pre r e:ar)(x:Option aA):(pre++x::r)++e=pre++x::(r++e):=by simp
theorem D3(pre r:ar)(x:Option aA):(pre++x::r)[pre.length]?=some x:=by simp
theorem uL(F:Nat->List α)(n:Nat):(List.range (n+1)).flatMap F=(List.range n).flatMap F++F n:=by rw[FP,List.flatMap_append];simp
theorem Jd(s:aF)(hs:s.length<=1099511627776):∀(n:Nat) (gl:bR) (u:aB) (S:MS) (pre r:ar),Inv s gl u->fN gl<n->S.good->
 ap XV 318 [.ptr pre.length 0,.d (bD .sub gl),.d (binds .sub u)] (pre++some (mB s S)::r)=some (.d (.tup []),pre++some (mB s (S.run (cP s n gl u)))::r)
 |0,gl,u,S,pre,r,hi,hn,hS=>absurd hn (BG _)
 |n+1,gl,u,S,pre,r,hi,hn,hS=>by
  by_cases z:S.done=true
  ·rw[S.qfT z];exact Pm s S gl u pre r z
  have z:S.done=false:=by simpa using z
  by_cases ho:20000<S.steps+1
  ·have h:=qGM s S gl u pre r z ho hS.n
   have h4:S.step.done=true:=by unfold MS.step MS.done;simp[ho]
   have he:∃es,cP s (n+1) gl u=none::es:=by
    cases gl with
    |nil=>exact⟨_,qP ..⟩
    |cons g rest=>exact⟨_,qX ..⟩
   obtain⟨es,he⟩:=he;rw[he,MS.qeF,MS.qgK S z,S.step.qfT h4];exact h
  have ho:S.steps+1<=20000:=by omega
  have G:=hi.small;have R:=z;unfold MS.done at R;simp only[kC,jN]at R;have x1:S.step.done=false:=by unfold MS.step MS.done;simp only[kC,jN];exact⟨by omega,R.2⟩
  have o:S.step.good:=by rw[<-MS.qgK S z];exact hS.ev none fun _ h=>by cases h
  match gl,hi,hn with
  | [],hi,hn=>rw[qP,MS.qeF,MS.qgK S z,MS.qeF,MS.qvq _ x1];exact Pz s S u pre r z ho hS.w G
  |g::rest,hi,hn=>
   have O:∀(c:bR×aB),c∈b7 s (g::rest) u->∀(S':MS) (b:ar),S'.good->∀e,ap XV 318 [.ptr pre.length 0,.d (bD .sub c.1),.d (binds .sub c.2)] ((pre++some (mB s S')::b)++e)=some (.d (.tup []),(pre++some (mB s (S'.run (cP s n c.1 c.2)))::b)++e):=fun c hc S' b Y e=>by rw[fm,fm];exact Jd s hs n c.1 c.2 S' pre (b++e) (ka hi c hc).1 (by have:=(ka hi c hc).2;omega) Y
   have IG:∀(c:bR×aB),c∈b7 s (g::rest) u->∀(S':MS),S'.good->(S'.run (cP s n c.1 c.2)).good:=fun c hc S' Y=>MS.good.run _ Y fun w hw=>Gt n (ka hi c hc).1 hw
   have M:=hi.g _ (fH ..);have hm:=hi.m;rw[gk]at hm;have a1:=CX rest;have a:∀(S':MS) (b:ar),(pre++some (mB s S')::b).length=pre.length+b.length+1:=fun S' b=>by simp;omega
   rw[qX,MS.qeF,MS.qgK S z];obtain⟨mn,f,ps,ts⟩:=g;cases mn with
   |true=>
    have h2:=(M.2.2.2.1 rfl).1;have h5:=M.1;simp only at h2 h5;refine qGN s S _ f ps ts rest u pre r z ho fun b=> ?_
    have H:pre.length<(pre++some (mB s S.step)::b).length:=by rw[a];omega
    cases ps with
    |nil=>
     refine XN f ts rest u _ _ _ H (by simp only[a]) (fun c=> ?_) (fun c=> ?_)
     ·have:=O (rest,u) (by simp[b7,c]) S.step b o
      simpa[b7,c]using this
     ·simp[b7,c,MS.run]
    |cons p ps=>
     have X:ps.length<=1000000000:=by
      have e:ir ⟨true,f,p::ps,ts⟩=1+3*(p.inner+1+bw ps):=by rw[<-dZ];rfl
      have:=ip ps;omega
     by_cases c:p.f= -1
     ·cases hb:cW u p.v with
      |some j=>
       refine Zs f ts rest u _ _ _ p ps j c hb G H (by simp only[a]) (by omega) X (by omega) (fun x W=>by have:=fX W;omega) (fun r0 I=> ?_) (fun r0 I=> ?_)
       ·have:=O (bX f ps r0::rest,u) (by simp[b7,c,hb,I]) S.step b o
        simpa[b7,c,hb,I]using this
       ·simp[b7,c,hb,I,MS.run]
      |none=>
       obtain⟨pf,Z,pk⟩:=p;simp only[T.qaO,T.qbT]at c hb;subst c;have D:b7 s (⟨true,f,.node (-1) Z pk::ps,ts⟩::rest) u=(List.range (2^ts.length-1)).map fun m=>(bX f ps (cp ts (m+1) ts.length)::rest,cC u Z (cU s f (bJ ts (m+1) ts.length))):=by simp[b7,hb]
       have l:∀i,i<2^ts.length-1->(bX f ps (cp ts (i+1) ts.length)::rest,cC u Z (cU s f (bJ ts (i+1) ts.length)))∈b7 s (⟨true,f,.node (-1) Z pk::ps,ts⟩::rest) u:=fun i hi=>by rw[D];exact cw.2 ⟨i,f_.2 hi,rfl⟩
       rw[D,nN];obtain⟨F,K⟩:∃F:Nat->List (Option aB),F=fun m=>cP s n (bX f ps (cp ts (m+1) ts.length)::rest) (cC u Z (cU s f (bJ ts (m+1) ts.length))):=⟨_,rfl⟩
       have q:∀i,S.step.run ((List.range (i+1)).flatMap F)=(S.step.run ((List.range i).flatMap F)).run (F i):=fun i=>by rw[uL,MS.qg6]
       have V:∀i,i<=2^ts.length-1->(S.step.run ((List.range i).flatMap F)).good:=fun i=>by
        induction i with
        |zero=>intro _;exact o
        |succ i ih=>intro h3;rw[q,K];exact IG _ (l i (by omega)) _ (by have:=ih (by omega);rwa[K]at this)
       have W:=Si s hs f Z pk ps ts rest u pre.length (fun i=>pre++some (mB s (S.step.run ((List.range i).flatMap F)))::b) (fun i=>(S.step.run ((List.range i).flatMap F)).done) (pre.length+b.length+1)
        (fun i=>a _ _) (by omega) (by omega) X h2 G.1 (fun i e=>by simp only[fm];exact nK s _ pre (b++e)) (fun i=>(mB s (S.step.run ((List.range i).flatMap F))).tail) (fun i=>by simp only[D3];rfl)
        (fun m=>cT (pU (BH ts m)) (by omega)) hb (fun i h=>by show(S.step.run ((List.range (i+1)).flatMap F)).done=true;rw[q,MS.qfT _ h];exact h) (fun i h=>by show pre++some (mB s (S.step.run ((List.range (i+1)).flatMap F)))::b=pre++some (mB s (S.step.run ((List.range i).flatMap F)))::b;rw[q,MS.qfT _ h])
        (fun i J _ e=>by
         have:=O _ (l i (by omega)) (S.step.run ((List.range i).flatMap F)) b (V i (by omega)) e;simp only[q];rw[K]at this⊢
         exact this)
       rw[K]at W;exact W
     ·have D:b7 s (⟨true,f,p::ps,ts⟩::rest) u=(List.range ts.length).map fun i=>(ci p (aj ts i)::bX f ps (cV ts i)::rest,u):=by simp[b7,c]
      have l:∀i,i<ts.length->(ci p (aj ts i)::bX f ps (cV ts i)::rest,u)∈b7 s (⟨true,f,p::ps,ts⟩::rest) u:=fun i hi=>by rw[D];exact cw.2 ⟨i,f_.2 hi,rfl⟩
      rw[D,nN];obtain⟨F,K⟩:∃F:Nat->List (Option aB),F=fun i=>cP s n (ci p (aj ts i)::bX f ps (cV ts i)::rest) u:=⟨_,rfl⟩
      have q:∀i,S.step.run ((List.range (i+1)).flatMap F)=(S.step.run ((List.range i).flatMap F)).run (F i):=fun i=>by rw[uL,MS.qg6]
      have V:∀i,i<=ts.length->(S.step.run ((List.range i).flatMap F)).good:=fun i=>by
       induction i with
       |zero=>intro _;exact o
       |succ i ih=>intro h3;rw[q,K];exact IG _ (l i (by omega)) _ (by have:=ih (by omega);rwa[K]at this)
      have W:=Xs f p ps ts rest u pre.length (fun i=>pre++some (mB s (S.step.run ((List.range i).flatMap F)))::b) (pre.length+b.length+1)
       (fun i=>a _ _) c (by omega) (by omega) X (by omega)
       (fun i J e=>by
        have:=O _ (l i J) (S.step.run ((List.range i).flatMap F)) b (V i (by omega)) e;simp only[q];rw[K]at this⊢
        exact this)
      rw[K]at W;exact W
   |false=>
    obtain⟨p,t,hp,ht⟩:=M.2.2.2.2 rfl;simp only at hp ht;subst hp ht;have x2:t.inner<=1000:=by have:=M.1;simp only[dZ]at this;omega
    have x3:p.inner<=1000000:=by have e:ir ⟨false,f,[p],[t]⟩=3*p.inner+2:=rfl;omega
    refine Z_ s S _ f p t rest u pre r z ho fun b=> ?_
    have H:pre.length<(pre++some (mB s S.step)::b).length:=by rw[a];omega
    have P:(pre++some (mB s S.step)::b)[pre.length]?=some (some (.d (sg s)::(mB s S.step).tail)):=by rw[D3];rfl
    by_cases c:p.f= -1
    ·cases hb:cW u p.v with
     |none=>refine PS s p t rest u _ _ _ hs c hb (G.1) H (by simp only[a]) ?_;have:=O (rest,cC u p.v t) (by simp[eP,c,hb]) S.step b o;simpa[eP,c,hb]using this
     |some j=>
      refine SF p t rest u _ _ _ j c hb G (by omega) H (by simp only[a]) (fun h0=> ?_) (fun h0=> ?_)
      ·have J:=h0
       rw[fa]at J;have:=O (rest,u) (by simp[eP,c,hb,J]) S.step b o;simpa[eP,c,hb,J]using this
      ·have J:=h0
       rw[A6]at J;simp[eP,c,hb,J,MS.run]
    ·by_cases y:p.f=t.f
     ·cases hbl:bI s p.f with
      |true=>
       refine VG s p t rest u _ _ _ (mB s S.step).tail hs c y hbl H (by simp only[a]) P (by omega) ?_;have:=O (bX p.f p.kids t.kids::rest,u) (by rw[y]at c hbl;simp[eP,c,y,hbl]) S.step b o;rw[y]at c hbl this⊢
       simpa[eP,c,y,hbl]using this
      |false=>
       by_cases c3:p.kids.length=t.kids.length
       ·refine PC s p t rest u _ _ _ (mB s S.step).tail hs c y hbl H (by simp only[a]) P c3 (by omega) (by have:=T.qdz p;omega) ?_
        have:=O (c9 p.kids t.kids p.kids.length++rest,u) (by rw[y]at c hbl;simp[eP,c,y,hbl,c3]) S.step b o;have C:b7 s (⟨false,f,[p],[t]⟩::rest) u=[(c9 p.kids t.kids p.kids.length++rest,u)]:=by rw[y]at c hbl;simp[eP,c,y,hbl,c3]
        rw[C];simpa using this
       ·have C:b7 s (⟨false,f,[p],[t]⟩::rest) u=[]:=by rw[y]at c hbl;simp[eP,c,y,hbl,c3]
        rw[C];exact TP s p t rest u _ _ (mB s S.step).tail hs c y hbl H P c3
     ·have C:b7 s (⟨false,f,[p],[t]⟩::rest) u=[]:=by simp[eP,c,y]
      rw[C];exact Qe p t rest u _ _ c y H
def rB(s:aF)(ws:List aB)(fuel:Int):aA:=[.d (sg s),.d (dI ws),aa fuel]
def Gl.encR(x:Gl):DV:= .agg [.int .i64 (if x.many then x.f else-1),ai .sub x.ps,ai .sub x.ts]
abbrev b8(l:bR):DV:= .sl .sub (l.map Gl.encR)
@[simp] theorem Gl.qSn(x:Gl):x.encR.cells=[.int .i64 (if x.many then x.f else-1),ai .sub x.ps,ai .sub x.ts]:=rfl
@[simp] theorem Gl.qR5(x:Gl):(AV.d x.encR).cells=[aa (if x.many then x.f else-1),.d (ai .sub x.ps),.d (ai .sub x.ts)]:=rfl
@[simp] theorem Gl.qR3(x:Gl):x.encR.isCell=false:=rfl
@[simp] theorem Gl.qYg(x:Gl):x.encR.clr=x.encR:=by simp[Gl.encR]
@[simp] theorem K5:DV.clr∘Gl.encR=Gl.encR:=funext fun w=>by simp
theorem Hf(s:aF)(ws:List aB)(fuel:Int)(gl:bR)(u:aB)(pre r:ar)(h:fuel-1<0\/60<ws.length)(j: -4611686018427387904<=fuel)(i:fuel<=20000):
 ap XV 310 [.ptr pre.length 0,.d (b8 gl),.d (binds .sub u)] (pre++some (rB s ws fuel)::r)=some (.d (.tup []),pre++some (rB s ws (fuel-1))::r):=by
 rw[aN 310 ey rfl];have e:pre.length<pre.length+(r.length+1):=by omega
 have a:¬(pre.length+(r.length+1)<=pre.length):=by omega
 have b:IntKind.i64.wrap (fuel-1)=fuel-1:=wrap_i64 (by omega) (by omega)
 by_cases c:fuel-1<0
 ·simp[ey,jm,i_,jg,iS,iI,iR,iO,iZ,jp,jo,i7,iK,je,rB,e,splice,b,c,a,mr]
 ·have g:(60:Int)<(ws.length:Int):=by omega
  simp[ey,jm,i_,jg,iS,iI,iR,iO,iZ,jp,jo,i7,iK,je,rB,e,splice,b,c,g,a,mr]
theorem U2(s:aF)(ws:List aB)(fuel:Int)(u:aB)(pre r:ar)(h:¬fuel-1<0)(m:ws.length<=60)(o:fuel<=20000)(n:∀w,w∈ws->small w)(j:small u):
 ap XV 310 [.ptr pre.length 0,.d (b8 []),.d (binds .sub u)] (pre++some (rB s ws fuel)::r)=some (.d (.tup []),pre++some (rB s (if hJ ws u then ws else ws++[u]) (fuel-1))::r):=by
 rw[aN 310 ey rfl];have i:pre.length<pre.length+(r.length+1):=by omega
 have c:¬(pre.length+(r.length+1)<=pre.length):=by omega
 have b:IntKind.i64.wrap (fuel-1)=fuel-1:=wrap_i64 (by omega) (by omega);have l:¬(60:Int)<(ws.length:Int):=by omega
 have a:=qKr ws u (by omega) n j;have e:=qF8 u j;have g:=LE ws U u (by omega);cases hh:hJ ws u with
 |true=>rw[hh]at a;simp[ey,jm,i_,jg,iS,iI,iR,iO,iZ,jp,jo,i7,iK,je,rB,i,splice,b,h,l,c,mr,a]
 |false=>rw[hh]at a;simp[ey,T6,jm,i_,jg,iS,iI,iR,iO,iZ,jp,jo,i7,iK,je,rB,i,splice,b,h,l,c,mr,a,e,g]
theorem qQ4(s:aF)(ws:List aB)(fuel:Int)(f:Int)(ps ts:ah)(rest:bR)(u:aB)(pre r:ar)(S':aA)(h:¬fuel-1<0)(l:ws.length<=60)(w:fuel<=20000)(n:0<=f)(o:rest.length<=1000000000)
 (a:∀i,ap XV 311 [.ptr pre.length 0,.d ((Gl.mk true f ps ts).encR),.d (b8 rest),.d (binds .sub u)] (pre++some (rB s ws (fuel-1))::i)=some (.d (.tup []),pre++some S'::i)):
 ap XV 310 [.ptr pre.length 0,.d (b8 (⟨true,f,ps,ts⟩::rest)),.d (binds .sub u)] (pre++some (rB s ws fuel)::r)=some (.d (.tup []),pre++some S'::r):=by
 rw[aN 310 ey rfl];have j:pre.length<pre.length+(r.length+1):=by omega
 have c:¬(pre.length+(r.length+1)<=pre.length):=by omega
 have b:IntKind.i64.wrap (fuel-1)=fuel-1:=wrap_i64 (by omega) (by omega);have q:¬(60:Int)<(ws.length:Int):=by omega
 have e:(((rest.length:Int)+1)==0)=false:=by simp;omega
 have g:=a (r++[some [aa f,.d (ai .sub ps),.d (ai .sub ts)]]);unfold rB at g;have hE:(Gl.mk true f ps ts).encR= .agg [.int .i64 f,ai .sub ps,ai .sub ts]:=rfl;rw[hE]at g;have m:List.take rest.length (rest.map Gl.encR)=rest.map Gl.encR:=dE (by simp);simp[ey,jm,i_,jg,iS,iI,iR,iO,iZ,jp,jo,i7,iK,je,rB,j,splice,b,h,q,c,oa,e,n,cut,m,g]
theorem t8(a:al)(c:bR)(g:Tag)(d:∀y,y∈a->y.cells.length=3)(h:(a.length+c.length)*56<=140737488355328):cK 3 56 (.sl U a) (.sl g (c.map Gl.encR))=some (.sl U (a++c.map Gl.encR)):=by
 have j:(c.map Gl.encR).all (fun e=>decide (e.cells.length=3/\e.cells.all DV.isCell=true))=true:=by rw[bB];intro y b;obtain⟨z,_,rfl⟩:=cw.1 b;simp[DV.isCell]
 have i:a.all (fun e=>decide (e.cells.length=3))=true:=by rw[bB];intro y b;simpa using d y b
 unfold cK;simp only;rw[aw j];cases c with
 |nil=>simp
 |cons x r=>simp only[bA,gW,bL,if_false];rw[aw ⟨by simpa using h,trivial,i⟩]
theorem mi{B:List α}(h:B.length=N)(a v:α)(r:List α):(B++a::r).set N v=B++v::r:=by subst h;simp
theorem lO{B:List α}(h:B.length=N)(a b v:α)(r:List α):(B++a::b::r).set (N+1) v=B++a::v::r:=by subst h;rw[kv _ _ (by omega),show B.length+1-B.length=1 by omega];rfl
theorem nF{B:List α}(h:B.length=N)(a b c v:α)(r:List α):(B++a::b::c::r).set (N+2) v=B++a::b::v::r:=by subst h;rw[kv _ _ (by omega),show B.length+2-B.length=2 by omega];rfl
section
variable (s:aF) (ws:List aB) (fuel:Int) (f:Int) (p t:T) (rest:bR) (u:aB) (pre r:ar) (S':aA)
theorem T3(h:¬fuel-1<0)(S:ws.length<=60)(h2:fuel<=20000)(O:p.f= -1)(K:cW u p.v=none)(W:u.length<=549755813888)(V:t.inner<=1099511627776)(Y:rest.length<=1000000000)
 (a:∀P,ap XV 310 [.ptr pre.length 0,.d (b8 rest),.d (binds .sub (cC u p.v t))] (pre++some (rB s ws (fuel-1))::P)=some (.d (.tup []),pre++some S'::P)):
 ap XV 310 [.ptr pre.length 0,.d (b8 (⟨false,f,[p],[t]⟩::rest)),.d (binds .sub u)] (pre++some (rB s ws fuel)::r)=some (.d (.tup []),pre++some S'::r):=by
 obtain⟨pf,c,y⟩:=p;obtain⟨i,j,g⟩:=t;simp only[T.qaO,T.qbT]at O K a;subst O;have hE:(Gl.mk false f [.node (-1) c y] [.node i j g]).encR= .agg [.int .i64 (-1),.sl .sub [(T.node (-1) c y).enc .sub],.sl .sub [(T.node i j g).enc .sub]]:=rfl;have l:=tU u c (by omega);rw[K]at l;obtain⟨xs,D,o⟩:=He u c (.node i j g) W V;rw[aN 310 ey rfl];have J:pre.length<pre.length+(r.length+1):=by omega
 have m:¬(pre.length+(r.length+1)<=pre.length):=by omega
 have C:IntKind.i64.wrap (fuel-1)=fuel-1:=wrap_i64 (by omega) (by omega);have Z:¬(60:Int)<(ws.length:Int):=by omega
 have F:(((rest.length:Int)+1)==0)=false:=by simp;omega
 have G:List.take rest.length (rest.map Gl.encR)=rest.map Gl.encR:=dE (by simp);simp[ey,rB,J,splice,C,h,Z,m,F];unfold rB at a;obtain⟨Q,w⟩:∃Q,pre++some [.d (sg s),.d (dI ws),aa (fuel-1)]::r=Q:=⟨_,rfl⟩;obtain⟨Q',b⟩:∃Q',pre++some S'::r=Q':=⟨_,rfl⟩;obtain⟨N,n⟩:∃N,pre.length+(r.length+1)=N:=⟨_,rfl⟩;obtain⟨k,q⟩:∃k,pre.length=k:=⟨_,rfl⟩;have x:Q.length=N:=by rw[<-w,<-n];simp
 have H:Q'.length=N:=by rw[<-b,<-n];simp
 have e2:N+1+1=N+2:=rfl;have R:¬(N+1<=N):=by omega
 have n3:¬(N+3<=N+1):=by omega
 have X:¬(N+3<=N+2):=by omega
 have a:∀e,ap XV 310 [.ptr k 0,.d (b8 rest),.d (binds .sub (cC u c (.node i j g)))] (Q++e)=some (.d (.tup []),Q'++e):=fun e=>by have:=a (r++e);rw[q]at this;rw[<-w,<-b,fm,fm];exact this
 have I:∀(Q e:ar),Q.length=N->(Q++e).take N=Q:=fun Q e h=>by rw[<-h];simp
 rw[<-fm,w,n,q,b];rw[n,q]at m;clear n q J w b;have M:=a [some [aa (-1),.d (.sl .sub [(T.node (-1) c y).enc .sub]),.d (.sl .sub [(T.node i j g).enc .sub])],some [aa (-1),aa c,.d (ai .sub y)],some [aa i,aa j,.d (ai .sub g)]];have z:xs.map (DV.clr∘DV.clr)=(cC u c (.node i j g)).map (Bd.enc .sub):=by rw[<-List.map_map,D,Bd.qeh]
 simp only[binds]at M;simp[jm,i_,jg,iS,oS,iI,iR,iO,iZ,jp,jo,i7,iK,je,hE,x,H,mi x,lO x,nF x,splice,e2,R,n3,X,cut,G,I,l,o,M,z]
theorem Wx(h:¬fuel-1<0)(X:ws.length<=60)(h2:fuel<=20000)(j:Nat)(S:p.f= -1)(C:cW u p.v=some j)(F:small u)(Y:t.inner<=1099511627776)(hc:(T.cmp (aH u j).t t==0)=true)(h1:rest.length<=1000000000)
 (a:∀V,ap XV 310 [.ptr pre.length 0,.d (b8 rest),.d (binds .sub u)] (pre++some (rB s ws (fuel-1))::V)=some (.d (.tup []),pre++some S'::V)):
 ap XV 310 [.ptr pre.length 0,.d (b8 (⟨false,f,[p],[t]⟩::rest)),.d (binds .sub u)] (pre++some (rB s ws fuel)::r)=some (.d (.tup []),pre++some S'::r):=by
 obtain⟨pf,c,H⟩:=p;obtain⟨o,q,n⟩:=t;simp only[T.qaO,T.qbT]at S C;subst S;have hE:(Gl.mk false f [.node (-1) c H] [.node o q n]).encR= .agg [.int .i64 (-1),.sl .sub [(T.node (-1) c H).enc .sub],.sl .sub [(T.node o q n).enc .sub]]:=rfl;have g:=tU u c F.1;rw[C]at g;have x:=vV u c F.1 F.2;have J:fB u c=(aH u j).t:=by unfold fB;rw[C]
 rw[J]at x;have hj:=(eQ _ _ _ _ (show a8 (fun i=>(aH u i).v==c) u.length 0=some j from C)).2.1;have y:=nI (aH u j).t (.node o q n) (F.2 j (by omega)) Y;rw[hc]at y;generalize (aH u j).t=w at*
 obtain⟨wf,wv,wk⟩:=w;rw[aN 310 ey rfl];have R:pre.length<pre.length+(r.length+1):=by omega
 have l:¬(pre.length+(r.length+1)<=pre.length):=by omega
 have I:IntKind.i64.wrap (fuel-1)=fuel-1:=wrap_i64 (by omega) (by omega);have hg:¬(60:Int)<(ws.length:Int):=by omega
 have K:(((rest.length:Int)+1)==0)=false:=by simp;omega
 have M:List.take rest.length (rest.map Gl.encR)=rest.map Gl.encR:=dE (by simp);simp[ey,rB,R,splice,I,h,hg,l,K];unfold rB at a;obtain⟨Q,D⟩:∃Q,pre++some [.d (sg s),.d (dI ws),aa (fuel-1)]::r=Q:=⟨_,rfl⟩;obtain⟨Q',b⟩:∃Q',pre++some S'::r=Q':=⟨_,rfl⟩;obtain⟨N,m⟩:∃N,pre.length+(r.length+1)=N:=⟨_,rfl⟩;obtain⟨k,z⟩:∃k,pre.length=k:=⟨_,rfl⟩;have G:Q.length=N:=by rw[<-D,<-m];simp
 have O:Q'.length=N:=by rw[<-b,<-m];simp
 have e2:N+1+1=N+2:=rfl;have W:¬(N+1<=N):=by omega
 have n3:¬(N+3<=N+1):=by omega
 have n4:¬(N+3<=N+2):=by omega
 have a:∀e,ap XV 310 [.ptr k 0,.d (b8 rest),.d (binds .sub u)] (Q++e)=some (.d (.tup []),Q'++e):=fun e=>by have:=a (r++e);rw[z]at this;rw[<-D,<-b,fm,fm];exact this
 have P:∀(Q e:ar),Q.length=N->(Q++e).take N=Q:=fun Q e h=>by rw[<-h];simp
 rw[<-fm,D,m,z,b];rw[m,z]at l;clear m z R D b;have Z:=a [some [aa (-1),.d (.sl .sub [(T.node (-1) c H).enc .sub]),.d (.sl .sub [(T.node o q n).enc .sub])],some [aa (-1),aa c,.d (ai .sub H)],some [aa o,aa q,.d (ai .sub n)]];simp[jm,i_,jg,iS,oS,iI,iR,iO,Mz,iZ,jp,jo,i7,iK,je,hE,G,O,mi G,lO G,nF G,splice,e2,W,n3,n4,cut,M,P,g,x,y,Z]
theorem qGp(h:¬fuel-1<0)(R:ws.length<=60)(h2:fuel<=20000)(j:Nat)(M:p.f= -1)(n:cW u p.v=some j)(o:small u)(S:t.inner<=1099511627776)(hc:(T.cmp (aH u j).t t==0)=false)(W:rest.length<=1000000000)
 :
 ap XV 310 [.ptr pre.length 0,.d (b8 (⟨false,f,[p],[t]⟩::rest)),.d (binds .sub u)] (pre++some (rB s ws fuel)::r)=some (.d (.tup []),pre++some (rB s ws (fuel-1))::r):=by
 obtain⟨pf,a,O⟩:=p;obtain⟨G,I,D⟩:=t;simp only[T.qaO,T.qbT]at M n;subst M;have hE:(Gl.mk false f [.node (-1) a O] [.node G I D]).encR= .agg [.int .i64 (-1),.sl .sub [(T.node (-1) a O).enc .sub],.sl .sub [(T.node G I D).enc .sub]]:=rfl;have b:=tU u a o.1;rw[n]at b;have g:=vV u a o.1 o.2;have y:fB u a=(aH u j).t:=by unfold fB;rw[n]
 rw[y]at g;have hj:=(eQ _ _ _ _ (show a8 (fun i=>(aH u i).v==a) u.length 0=some j from n)).2.1;have l:=nI (aH u j).t (.node G I D) (o.2 j (by omega)) S;rw[hc]at l;generalize (aH u j).t=w at*
 obtain⟨wf,wv,wk⟩:=w;rw[aN 310 ey rfl];have J:pre.length<pre.length+(r.length+1):=by omega
 have c:¬(pre.length+(r.length+1)<=pre.length):=by omega
 have x:IntKind.i64.wrap (fuel-1)=fuel-1:=wrap_i64 (by omega) (by omega);have X:¬(60:Int)<(ws.length:Int):=by omega
 have C:(((rest.length:Int)+1)==0)=false:=by simp;omega
 have F:List.take rest.length (rest.map Gl.encR)=rest.map Gl.encR:=dE (by simp);simp[ey,rB,J,splice,x,h,X,c,C];obtain⟨Q,K⟩:∃Q,pre++some [.d (sg s),.d (dI ws),aa (fuel-1)]::r=Q:=⟨_,rfl⟩;obtain⟨N,m⟩:∃N,pre.length+(r.length+1)=N:=⟨_,rfl⟩;obtain⟨k,z⟩:∃k,pre.length=k:=⟨_,rfl⟩;have q:Q.length=N:=by rw[<-K,<-m];simp
 have Z:N+1+1=N+2:=rfl;have P:¬(N+1<=N):=by omega
 have Y:¬(N+3<=N+1):=by omega
 have V:¬(N+3<=N+2):=by omega
 have H:∀(Q e:ar),Q.length=N->(Q++e).take N=Q:=fun Q e h=>by rw[<-h];simp
 rw[<-fm,K,m,z];rw[m,z]at c;clear m z J;simp[jm,i_,jg,iS,oS,iI,iR,iO,Mz,iZ,jp,jo,i7,iK,je,hE,q,mi q,lO q,nF q,splice,Z,P,Y,V,cut,F,H,b,g,l]
theorem Sl(h:¬fuel-1<0)(J:ws.length<=60)(S:fuel<=20000)(z:p.f≠-1)(F:p.f≠t.f)(K:rest.length<=1000000000)
 :
 ap XV 310 [.ptr pre.length 0,.d (b8 (⟨false,f,[p],[t]⟩::rest)),.d (binds .sub u)] (pre++some (rB s ws fuel)::r)=some (.d (.tup []),pre++some (rB s ws (fuel-1))::r):=by
 obtain⟨b,x,G⟩:=p;obtain⟨j,C,D⟩:=t;simp only[T.qaO]at z F;have l:(b== -1)=false:=by simpa using z
 have w:(b !=j)=true:=by simpa using F
 have hE:(Gl.mk false f [.node b x G] [.node j C D]).encR= .agg [.int .i64 (-1),.sl .sub [(T.node b x G).enc .sub],.sl .sub [(T.node j C D).enc .sub]]:=rfl;rw[aN 310 ey rfl];have y:pre.length<pre.length+(r.length+1):=by omega
 have a:¬(pre.length+(r.length+1)<=pre.length):=by omega
 have m:IntKind.i64.wrap (fuel-1)=fuel-1:=wrap_i64 (by omega) (by omega);have O:¬(60:Int)<(ws.length:Int):=by omega
 have q:(((rest.length:Int)+1)==0)=false:=by simp;omega
 have i:List.take rest.length (rest.map Gl.encR)=rest.map Gl.encR:=dE (by simp);simp[ey,rB,y,splice,m,h,O,a,q];obtain⟨Q,H⟩:∃Q,pre++some [.d (sg s),.d (dI ws),aa (fuel-1)]::r=Q:=⟨_,rfl⟩;obtain⟨N,c⟩:∃N,pre.length+(r.length+1)=N:=⟨_,rfl⟩;obtain⟨k,n⟩:∃k,pre.length=k:=⟨_,rfl⟩;have g:Q.length=N:=by rw[<-H,<-c];simp
 have R:N+1+1=N+2:=rfl;have I:¬(N+1<=N):=by omega
 have P:¬(N+3<=N+1):=by omega
 have M:¬(N+3<=N+2):=by omega
 have o:∀(Q e:ar),Q.length=N->(Q++e).take N=Q:=fun Q e h=>by rw[<-h];simp
 rw[<-fm,H,c,n];rw[c,n]at a;clear c n y;simp[jm,i_,jg,iS,oS,iI,iR,iO,iZ,jp,jo,i7,iK,je,hE,g,mi g,lO g,nF g,splice,R,I,P,M,cut,i,o,l,w]
theorem qKG(h:¬fuel-1<0)(Y:ws.length<=60)(h2:fuel<=20000)(hs:s.length<=1099511627776)(V:p.f≠-1)(S:p.f=t.f)(q:bI s p.f=true)(h1:rest.length<=1000000000)
 (a:∀W,ap XV 310 [.ptr pre.length 0,.d (b8 (bX p.f p.kids t.kids::rest)),.d (binds .sub u)] (pre++some (rB s ws (fuel-1))::W)=some (.d (.tup []),pre++some S'::W)):
 ap XV 310 [.ptr pre.length 0,.d (b8 (⟨false,f,[p],[t]⟩::rest)),.d (binds .sub u)] (pre++some (rB s ws fuel)::r)=some (.d (.tup []),pre++some S'::r):=by
 obtain⟨b,z,i⟩:=p;obtain⟨tf,D,g⟩:=t;simp only[T.qaO,T.qaD]at V S q a;subst S;have G:(b== -1)=false:=by simpa using V
 have hE:(Gl.mk false f [.node b z i] [.node b D g]).encR= .agg [.int .i64 (-1),.sl .sub [(T.node b z i).enc .sub],.sl .sub [(T.node b D g).enc .sub]]:=rfl;have j:=uO s hs b;rw[q]at j;rw[aN 310 ey rfl];have P:pre.length<pre.length+(r.length+1):=by omega
 have m:¬(pre.length+(r.length+1)<=pre.length):=by omega
 have H:IntKind.i64.wrap (fuel-1)=fuel-1:=wrap_i64 (by omega) (by omega);have hg:¬(60:Int)<(ws.length:Int):=by omega
 have I:(((rest.length:Int)+1)==0)=false:=by simp;omega
 have K:List.take rest.length (rest.map Gl.encR)=rest.map Gl.encR:=dE (by simp);simp[ey,rB,P,splice,H,h,hg,m,I];unfold rB at a;obtain⟨Q,w⟩:∃Q,pre++some [.d (sg s),.d (dI ws),aa (fuel-1)]::r=Q:=⟨_,rfl⟩;obtain⟨Q',c⟩:∃Q',pre++some S'::r=Q':=⟨_,rfl⟩;obtain⟨N,o⟩:∃N,pre.length+(r.length+1)=N:=⟨_,rfl⟩;obtain⟨k,n⟩:∃k,pre.length=k:=⟨_,rfl⟩;have C:Q.length=N:=by rw[<-w,<-o];simp
 have M:Q'.length=N:=by rw[<-c,<-o];simp
 have l:k<N+3:=by omega
 have e2:N+1+1=N+2:=rfl;have X:¬(N+1<=N):=by omega
 have n3:¬(N+3<=N+1):=by omega
 have n4:¬(N+3<=N+2):=by omega
 have n5:¬(N+3<=k):=by omega
 have a:∀e,ap XV 310 [.ptr k 0,.d (b8 (bX b i g::rest)),.d (binds .sub u)] (Q++e)=some (.d (.tup []),Q'++e):=fun e=>by have:=a (r++e);rw[n]at this;rw[<-w,<-c,fm,fm];exact this
 have O:∀(Q e:ar),Q.length=N->(Q++e).take N=Q:=fun Q e h=>by rw[<-h];simp
 have R:∀(h:k<Q.length),Q[k]=some [.d (sg s),.d (dI ws),aa (fuel-1)]:=fun h=>by simp only[<-w,<-n];simp
 have F:∀e (h:k<(Q++e).length),(Q++e)[k]=some [.d (sg s),.d (dI ws),aa (fuel-1)]:=fun e h=>by rw[xp (by omega)];exact R _
 have Z:∀e,(Q++e)[k]?=some (some [.d (sg s),.d (dI ws),aa (fuel-1)]):=fun e=>by rw[cf (by omega),eJ (by omega),R]
 rw[<-fm,w,o,n,c];rw[o,n]at m;clear o n P w c;have J:=a [some [aa (-1),.d (.sl .sub [(T.node b z i).enc .sub]),.d (.sl .sub [(T.node b D g).enc .sub])],some [aa b,aa z,.d (ai .sub i)],some [aa b,aa D,.d (ai .sub g)]];have y:=t8 [(Gl.mk true b i g).encR] rest .sub (by simp) (by simp;omega);have x:(Gl.mk true b i g).encR= .agg [.int .i64 b,ai .sub i,ai .sub g]:=rfl;simp only[bX,x]at J y;simp only[b8,bA,x]at J;simp[jm,i_,jg,iS,oS,iI,iR,iO,iZ,jp,KE,jo,i7,iK,je,hE,l,C,M,mi C,lO C,nF C,splice,e2,X,n3,n4,n5,cut,K,O,G,j,F,y,J]
end
theorem U8(xs:al)(x:DV)(g:Tag)(h:(xs.length+1)*56<=140737488355328)(a:∀y,y∈xs->y.cells.length=3)(c:x.cells.length=3)(hc:x.cells.all DV.isCell=true):cK 3 56 (.sl U xs) (.sl g [x])=some (.sl U (xs++[x])):=by
 have b:xs.all (fun e=>decide (e.cells.length=3))=true:=by rw[bB];intro y d;simpa using a y d
 unfold cK;simp only;rw[aw (by simp[c];simpa using hc)];simp only[gW,bL,if_false];rw[aw ⟨by simpa using h,trivial,b⟩]
def pD(p t:T):DV:= .agg [.int .i64 (-1),.sl U [p.enc .sub],.sl U [t.enc .sub]]
def fO(ps ts:ah)(n:Nat):al:=(List.range n).map fun i=>pD (aj ps i) (aj ts i)
theorem SL(ps ts:ah)(n:Nat):fO ps ts (n+1)=fO ps ts n++[pD (aj ps n) (aj ts n)]:=by unfold fO;rw[FP,c6];rfl
theorem Nr(ps ts:ah)(n:Nat):(fO ps ts n).length=n:=by unfold fO;simp
theorem J0(ps ts:ah)(n:Nat):∀y,y∈fO ps ts n->y.cells.length=3:=fun y a=>by obtain⟨z,_,rfl⟩:=cw.1 a;rfl
theorem V1(ps ts:ah)(n:Nat):(fO ps ts n).map DV.clr=(c9 ps ts n).map Gl.encR:=by
 unfold fO c9;rw[et,et];refine rk fun i _=> ?_
 simp[pD,ci,Gl.encR]
section
variable (s:aF) (ws:List aB) (fuel:Int) (f:Int) (p t:T) (rest:bR) (u:aB) (pre r:ar) (S':aA)
theorem O_(h:¬fuel-1<0)(x3:ws.length<=60)(h2:fuel<=20000)(hs:s.length<=1099511627776)(hv:p.f≠-1)(hd:p.f=t.f)(J:bI s p.f=false)(he:p.kids.length=t.kids.length)(h3:p.kids.length<=1000000000)(a2:rest.length<=1000000000)
 (m:∀r',ap XV 310 [.ptr pre.length 0,.d (b8 (c9 p.kids t.kids p.kids.length++rest)),.d (binds .sub u)] (pre++some (rB s ws (fuel-1))::r')=some (.d (.tup []),pre++some S'::r')):
 ap XV 310 [.ptr pre.length 0,.d (b8 (⟨false,f,[p],[t]⟩::rest)),.d (binds .sub u)] (pre++some (rB s ws fuel)::r)=some (.d (.tup []),pre++some S'::r):=by
 obtain⟨l,q,g⟩:=p;obtain⟨tf,x,j⟩:=t;simp only[T.qaO,T.qaD]at hv hd J m he h3;subst hd;have V:(l== -1)=false:=by simpa using hv
 have hE:(Gl.mk false f [.node l q g] [.node l x j]).encR= .agg [.int .i64 (-1),.sl .sub [(T.node l q g).enc .sub],.sl .sub [(T.node l x j).enc .sub]]:=rfl;have D:=uO s hs l;rw[J]at D;rw[aN 310 ey rfl];have z:pre.length<pre.length+(r.length+1):=by omega
 have G:¬(pre.length+(r.length+1)<=pre.length):=by omega
 have W:IntKind.i64.wrap (fuel-1)=fuel-1:=wrap_i64 (by omega) (by omega);have hg:¬(60:Int)<(ws.length:Int):=by omega
 have Y:(((rest.length:Int)+1)==0)=false:=by simp;omega
 have h4:List.take rest.length (rest.map Gl.encR)=rest.map Gl.encR:=dE (by simp);simp[ey,rB,z,splice,W,h,hg,G,Y];unfold rB at m;obtain⟨Q,K⟩:∃Q,pre++some [.d (sg s),.d (dI ws),aa (fuel-1)]::r=Q:=⟨_,rfl⟩;obtain⟨Q',y⟩:∃Q',pre++some S'::r=Q':=⟨_,rfl⟩;obtain⟨N,I⟩:∃N,pre.length+(r.length+1)=N:=⟨_,rfl⟩;obtain⟨k,H⟩:∃k,pre.length=k:=⟨_,rfl⟩;have w:Q.length=N:=by rw[<-K,<-I];simp
 have h5:Q'.length=N:=by rw[<-y,<-I];simp
 have o:k<N+3:=by omega
 have e2:N+1+1=N+2:=rfl;have n1:¬(N+1<=N):=by omega
 have n3:¬(N+3<=N+1):=by omega
 have n4:¬(N+3<=N+2):=by omega
 have n5:¬(N+3<=k):=by omega
 have m:∀e,ap XV 310 [.ptr k 0,.d (b8 (c9 g j g.length++rest)),.d (binds .sub u)] (Q++e)=some (.d (.tup []),Q'++e):=fun e=>by have:=m (r++e);rw[H]at this;rw[<-K,<-y,fm,fm];exact this
 have x1:∀(Q e:ar),Q.length=N->(Q++e).take N=Q:=fun Q e h=>by rw[<-h];simp
 have hx:∀(h:k<Q.length),Q[k]=some [.d (sg s),.d (dI ws),aa (fuel-1)]:=fun h=>by simp only[<-K,<-H];simp
 have S:∀e (h:k<(Q++e).length),(Q++e)[k]=some [.d (sg s),.d (dI ws),aa (fuel-1)]:=fun e h=>by rw[xp (by omega)];exact hx _
 have a1:∀e,(Q++e)[k]?=some (some [.d (sg s),.d (dI ws),aa (fuel-1)]):=fun e=>by rw[cf (by omega),eJ (by omega),hx]
 rw[<-fm,K,I,H,y];rw[I,H]at G;clear I H z K y;have hr:=m [some [aa (-1),.d (.sl .sub [(T.node l q g).enc .sub]),.d (.sl .sub [(T.node l x j).enc .sub])],some [aa l,aa q,.d (ai .sub g)],some [aa l,aa x,.d (ai .sub j)]];have C:(fO g j g.length++rest.map Gl.encR).map (DV.clr)=(c9 g j g.length++rest).map Gl.encR:=by rw[c6,V1,c6,et,K5]
 have tB:∀(a b c:Option aA) (e:ar),(Q++a::b::c::e).take (N+3)=Q++[a,b,c]:=fun a b c e=>by rw[<-w,show Q++a::b::c::e=(Q++[a,b,c])++e by simp,rh (by simp)]
 have z:=cd (X:=XV) (T:=XV.lin 310) (L:=N+3) (live:=[0,2,7,8,9,10,11]) (b:=xL) (n:=g.length) (γ:=Nat) (st:=fun(_:Unit) i=>⟨[(0,.ptr k 0),(2,.d (binds .sub u)),(7,.d (b8 rest)),(8,.ptr (N+1) 0),(9,.ptr (N+2) 0),(10,.d (.sl U (fO g j i))),(11,aa i)],Q++[some [aa (-1),.d (.sl .sub [(T.node l q g).enc .sub]),.d (.sl .sub [(T.node l x j).enc .sub])],some [aa l,aa q,.d (ai .sub g)],some [aa l,aa x,.d (ai .sub j)]]⟩) (step:=eC)
  (F:=fun _=>(.exit 0,⟨[(0,.ptr k 0),(2,.d (binds .sub u)),(7,.d (b8 rest)),(8,.ptr (N+1) 0),(9,.ptr (N+2) 0),(10,.d (.sl U (fO g j g.length))),(11,aa g.length),(137,ax false)],Q++[some [aa (-1),.d (.sl .sub [(T.node l q g).enc .sub]),.d (.sl .sub [(T.node l x j).enc .sub])],some [aa l,aa q,.d (ai .sub g)],some [aa l,aa x,.d (ai .sub j)]]⟩)) (R:=fun _=>(.ret,⟨[],[]⟩))
  (fun a=>⟨by simp,by simp[xL,w,n3,he]⟩)
  (fun a i hi=>by
   have hw:=bE (n:=i) (by omega);have O:i<j.length:=by omega
   have P:=U8 (fO g j i) (pD (aj g i) (aj j i)) U (by rw[Nr];omega) (J0 _ _ _) rfl (by simp[pD,aW,ba]);rw[<-SL]at P;have o1:=bg hi;have o2:=bg O;generalize h1:fO g j (i+1)=R2 at P;generalize fO g j i=R1 at*
   unfold pD at P;unfold eC;exact⟨_,by simp[xL,Ri,hi,O,hw,o1,o2,P,cut,w,splice,n3,n4,cut];rfl,by simp[aJ,aG,tB,o,w,h1]⟩)
  g.length () 0 ⟨[(0,.ptr k 0),(2,.d (binds .sub u)),(7,.d (b8 rest)),(8,.ptr (N+1) 0),(9,.ptr (N+2) 0),(10,.d (.sl U [])),(11,aa 0)],Q++[some [aa (-1),.d (.sl .sub [(T.node l q g).enc .sub]),.d (.sl .sub [(T.node l x j).enc .sub])],some [aa l,aa q,.d (ai .sub g)],some [aa l,aa x,.d (ai .sub j)]]⟩ (by omega) (by simp[aJ,aG,fO,o,tB,w])
 rw[jQ]at z;simp only[qQw]at z;have x2:=t8 (fO g j g.length) rest .sub (J0 _ _ _) (by rw[Nr];omega);simp only[b8]at hr z;generalize fO g j g.length=R1 at*
 simp[jm,i_,jg,iS,oS,iI,iR,iO,iZ,jp,KE,jo,i7,iK,je,hE,o,w,mi w,lO w,nF w,splice,e2,n1,n3,n4,n5,cut,h4,V,D,S];rw[z];have Z:List.map DV.clr R1++List.map (DV.clr∘Gl.encR) rest=(c9 g j g.length++rest).map Gl.encR:=by rw[<-C,c6,et]
 have M:List.map DV.clr R1++List.map Gl.encR rest=(c9 g j g.length++rest).map Gl.encR:=by rw[<-C,c6,et,K5]
 simp only[c6]at Z M hr;simp[x2,M,hr,w,h5,x1]
end
theorem qKu(n:Nat)(h:n<=12):ap XV 314 [aa n,aa 12] []=some (aa n,[]):=by
 rw[aN 314 tD rfl]
 by_cases c:(n:Int)<12
 ·simp[tD,c]
 ·have:(n:Int)=12:=by omega
  rw[this];simp[tD]
theorem O9{d:DV}{a:T}(h:IsV d a):d.clr=a.enc .sub:=by obtain⟨g,X,rfl,b⟩:=h;rw[T.qbD];simp[b]
section
variable (s:aF) (f:Int) (ts:ah) (rest:bR) (u:aB) (k:Nat) (Q Q':ar)
theorem Nh(i:k<Q.length)(h:Q'.length=Q.length)(a:ts.length=0->∀e,ap XV 310 [.ptr k 0,.d (b8 rest),.d (binds .sub u)] (Q++e)=some (.d (.tup []),Q'++e))(b:ts.length≠0->Q'=Q):
 ap XV 311 [.ptr k 0,.d (Gl.mk true f [] ts).encR,.d (b8 rest),.d (binds .sub u)] Q=some (.d (.tup []),Q'):=by
 rw[aN 311 hI rfl]
 by_cases c:ts.length=0
 ·have hc:ts=[]:=jX.1 c
  have g:=a c [some [aa f,.d (ai .sub []),.d (ai .sub [])]];subst hc;simp[hI,g,h]
 ·have hc:((ts.length:Int)==0)=false:=by simpa using c
  rw[b c];simp[hI,hc]
theorem G6(p:T)(ps:ah)(j:Nat)(hv:p.f= -1)(I:cW u p.v=some j)(H:small u)(hk:k<Q.length)(Z:Q'.length=Q.length)(hl:rest.length<=1000000000)(hp:ps.length<=1000000000)
 (K:ts.length<=1099511627776) (W:∀x,x∈ts->x.inner<=1099511627776)
 (o:∀r,takeN ts (partsOf f (aH u j).t)= .inl r->∀e,ap XV 310 [.ptr k 0,.d (b8 (bX f ps r::rest)),.d (binds .sub u)] (Q++e)=some (.d (.tup []),Q'++e)) (V:∀r,takeN ts (partsOf f (aH u j).t)= .inr r->Q'=Q):
 ap XV 311 [.ptr k 0,.d (Gl.mk true f (p::ps) ts).encR,.d (b8 rest),.d (binds .sub u)] Q=some (.d (.tup []),Q'):=by
 obtain⟨pf,z,pk⟩:=p;simp only[T.qaO,T.qbT]at hv I o;subst hv;have hj:=(eQ _ _ _ _ (show a8 (fun i=>(aH u i).v==z) u.length 0=some j from I)).2.1;rw[aN 311 hI rfl];have F:=tU u z H.1;rw[I]at F;have D:=vV u z H.1 H.2;have M:fB u z=(aH u j).t:=by unfold fB;rw[I]
 rw[M]at D;have hw:=H.2 j (by omega);generalize (aH u j).t=w at*
 obtain⟨wf,h,b⟩:=w;have S:∀x,x∈partsOf f (.node wf h b)->x.inner<=1099511627776:=fun x C=>by
  unfold partsOf at C;split at C
  ·simp only[T.inner]at hw
   simp only[T.qaD]at C;have:=T.qaF C;omega
  ·simp at C;subst C;exact hw
 have O:(partsOf f (.node wf h b)).length<=1099511627776:=by
  unfold partsOf;split
  ·have h9:=T.qdz (.node wf h b)
   simp only[T.qaD]at h9⊢
   omega
  ·simp
 obtain⟨g,J,a⟩:=VQ ts (partsOf f (.node wf h b)) K O W S;have l:=L9 ts (partsOf f (.node wf h b));have n:(((ps.length:Int)+1)==0)=false:=by simp;omega
 have G:List.take ps.length (ps.map (T.enc .sub))=ps.map (T.enc .sub):=dE (by simp);cases hc:lg ts (partsOf f (.node wf h b))with
 |inl r=>
  rw[hc]at a l;have y:takeN ts (partsOf f (.node wf h b))= .inl r:=by
   cases hn:takeN ts (partsOf f (.node wf h b))with
   |inl q=>rw[hn]at l;simp only[aL]at l;rw[l]
   |inr q=>rw[hn]at l;cases l
  have P:=o r y [some [aa f,.d (ai .sub (.node (-1) z pk::ps)),.d (ai .sub ts)],some [aa (-1),aa z,.d (ai .sub pk)],some [aa wf,aa h,.d (ai .sub b)]];have R:(bX f ps r).encR= .agg [.int .i64 f,ai .sub ps,ai .sub r]:=rfl;simp only[b8,bA,R]at P;have m:=t8 [.agg [.int .i64 f,ai .sub ps,jf (g,r)]] rest .sub (by simp) (by simp;omega)
  by_cases c:wf=f
  ·have ep:partsOf f (.node wf h b)=b:=by unfold partsOf;rw[aw (show(T.node wf h b).f=f from c)];rfl
   rw[ep]at a;subst c;rcases J with rfl|rfl<;>simp only[jf]at a m<;>
    simp[hI,F,D,a,m,P,Z,n,G,splice,cut]
  ·have ep:partsOf f (.node wf h b)=[.node wf h b]:=by unfold partsOf;rw[au (show¬(T.node wf h b).f=f from c)]
   rw[ep]at a;have X:(wf==f)=false:=by simpa using c
   simp only[ai,bA,cM]at a;rcases J with rfl|rfl<;>simp only[jf]at a m<;>
    simp[hI,F,D,X,a,m,P,Z,n,G,splice,cut]
 |inr r=>
  rw[hc]at a l;have y:∃q,takeN ts (partsOf f (.node wf h b))= .inr q:=by
   cases hn:takeN ts (partsOf f (.node wf h b))with
   |inl q=>rw[hn]at l;cases l
   |inr q=>exact⟨_,rfl⟩
  obtain⟨q,Y⟩:=y;rw[V q Y]
  by_cases c:wf=f
  ·have ep:partsOf f (.node wf h b)=b:=by unfold partsOf;rw[aw (show(T.node wf h b).f=f from c)];rfl
   rw[ep]at a;subst c;rcases J with rfl|rfl<;>simp only[jf]at a<;>
    simp[hI,F,D,a,n,G,splice,cut]
  ·have ep:partsOf f (.node wf h b)=[.node wf h b]:=by unfold partsOf;rw[au (show¬(T.node wf h b).f=f from c)]
   rw[ep]at a;have X:(wf==f)=false:=by simpa using c
   simp only[ai,bA,cM]at a;rcases J with rfl|rfl<;>simp only[jf]at a<;>
    simp[hI,F,D,X,a,n,G,splice,cut]
end
theorem BU{B:List α}(h:B.length=N)(a b:α)(r:List α):(B++a::b::r).take (N+2)=B++[a,b]:=by subst h;rw[show B++a::b::r=(B++[a,b])++r by simp,rh (by simp)]
theorem sA3{B:List α}(h:B.length=N)(a b c d v:α)(r:List α):(B++a::b::c::d::r).set (N+3) v=B++a::b::c::v::r:=by subst h;rw[kv _ _ (by omega),show B.length+3-B.length=3 by omega];rfl
theorem OU(f:Int)(p:T)(ps ts:ah)(rest:bR)(u:aB)(k:Nat)(m:Nat->ar)(N:Nat)(o:∀i,(m i).length=N)(V:p.f≠-1)(hk:k<N)(hl:rest.length<=1000000000)(hp:ps.length<=1000000000)(Y:ts.length<=1000000000)
 (w:∀i,i<ts.length->∀e,ap XV 310 [.ptr k 0,.d (b8 (ci p (aj ts i)::bX f ps (cV ts i)::rest)),.d (binds .sub u)] (m i++e)=some (.d (.tup []),m (i+1)++e)):
 ap XV 311 [.ptr k 0,.d (Gl.mk true f (p::ps) ts).encR,.d (b8 rest),.d (binds .sub u)] (m 0)=some (.d (.tup []),m ts.length):=by
 obtain⟨c,g,j⟩:=p;simp only[T.qaO]at V;have G:(c== -1)=false:=by simpa using V
 rw[aN 311 hI rfl];have x:k<N+2:=by omega
 have W:¬(N+2<=N):=by omega
 have S:¬(N+2<=N+1):=by omega
 have n3:¬(N+3<=N):=by omega
 have e2:N+1+1=N+2:=rfl;have e3:N+2+1=N+3:=rfl;have h:=cd (X:=XV) (T:=XV.lin 311) (L:=N+2) (live:=[0,2,3,5,8,9,17]) (b:=vp) (n:=ts.length) (γ:=Nat)
  (st:=fun(_:Unit) i=>⟨[(0,.ptr k 0),(2,.d (b8 rest)),(3,.d (binds .sub u)),(5,.ptr N 0),(8,.ptr (N+1) 0),(9,.d (ai .sub ps)),(17,aa i)],
   m i++[some [aa f,.d (ai .sub (.node c g j::ps)),.d (ai .sub ts)],some [aa c,aa g,.d (ai .sub j)]]⟩) (step:=eC)
  (F:=fun _=>(.exit 2,⟨[(0,.ptr k 0),(2,.d (b8 rest)),(3,.d (binds .sub u)),(5,.ptr N 0),(8,.ptr (N+1) 0),(9,.d (ai .sub ps)),(17,aa ts.length),(126,ax false)],
   m ts.length++[some [aa f,.d (ai .sub (.node c g j::ps)),.d (ai .sub ts)],some [aa c,aa g,.d (ai .sub j)]]⟩)) (R:=fun _=>(.ret,⟨[],[]⟩))
  (fun a=>⟨by simp,by
   have l:=o ts.length;simp[vp,l]⟩)
  (fun a i hi=>by
   have hw:=bE (n:=i) (by omega);have l:=o i;have q:=o (i+1);have J:=H8 ts i hi (by omega);have M:=bg hi;have z:=w i hi;generalize Z:aj ts i=t at*
   obtain⟨C,D,y⟩:=t;have z:=z [some [aa f,.d (ai .sub (.node c g j::ps)),.d (ai .sub ts)],some [aa c,aa g,.d (ai .sub j)],some [aa (-1),.d (.sl .sub [(T.node c g j).enc .sub]),.d (.sl .sub [(T.node C D y).enc .sub])],some [aa f,.d (ai .sub ps),.d (ai .sub (cV ts i))]];have H:(ci (.node c g j) (.node C D y)).encR= .agg [.int .i64 (-1),.sl .sub [(T.node c g j).enc .sub],.sl .sub [(T.node C D y).enc .sub]]:=rfl;have I:(bX f ps (cV ts i)).encR= .agg [.int .i64 f,ai .sub ps,ai .sub (cV ts i)]:=rfl;simp only[b8,bA,I,H]at z;have K:=t8 [.agg [.int .i64 (-1),.sl U [(T.node c g j).enc .sub],.sl U [(T.node C D y).enc .sub]],.agg [.int .i64 f,ai .sub ps,DV.sl U ((cV ts i).map (T.enc .sub))]] rest .sub (by simp) (by simp;omega);unfold eC;refine⟨_,by simp[vp,qRz,VJ,hi,hw,cut,M,J,K,z,lO l,nF l,sA3 l,l,q,W,S,n3,e2,e3,splice];rfl,?_⟩;simp[aJ,aG,x,BU q,q])
  ts.length () 0 ⟨[(0,.ptr k 0),(2,.d (b8 rest)),(3,.d (binds .sub u)),(5,.ptr N 0),(8,.ptr (N+1) 0),(9,.d (ai .sub ps)),(17,aa 0)],
   m 0++[some [aa f,.d (ai .sub (.node c g j::ps)),.d (ai .sub ts)],some [aa c,aa g,.d (ai .sub j)]]⟩ (by omega) (by simp[aJ,aG,x,BU (o 0),o 0])
 rw[jQ]at h;simp only[Nv]at h;have l:=o 0;have O:=o ts.length;have P:(((ps.length:Int)+1)==0)=false:=by simp;omega
 have ht:List.take ps.length (ps.map (T.enc .sub))=ps.map (T.enc .sub):=dE (by simp);simp[hI,G,P,ht,l,mi l,lO l,W,S,splice,cut];rw[h];simp[O]
theorem qtB(s:aF)(hs:s.length<=1099511627776)(f:Int)(c:Int)(j ps ts:ah)(rest:bR)(u:aB)(k:Nat)(g:Nat->ar)(N:Nat)(o:∀i,(g i).length=N)(hk:k<N)(hl:rest.length<=1000000000)(hp:ps.length<=1000000000)(D:ts.length<=12)(hu:u.length<=549755813888)
 (tl:Nat->aA) (z:∀i,(g i)[k]?=some (some (.d (sg s)::tl i))) (I:∀m,bw (bJ ts m ts.length)<=1099511627776)
 (hb:cW u c=none)
 (G:∀i,i+1<2^ts.length->∀e,ap XV 310 [.ptr k 0,.d (b8 (bX f ps (cp ts (i+1) ts.length)::rest)),.d (binds .sub (cC u c (cU s f (bJ ts (i+1) ts.length))))] (g i++e)=some (.d (.tup []),g (i+1)++e)):
 ap XV 311 [.ptr k 0,.d (Gl.mk true f (.node (-1) c j::ps) ts).encR,.d (b8 rest),.d (binds .sub u)] (g 0)=some (.d (.tup []),g (2^ts.length-1)):=by
 rw[aN 311 hI rfl];have h2:=tU u c (by omega);rw[hb]at h2;have K:2^ts.length<=2^12:=oD (by omega) D;have C:=Fa ts.length (by omega);have l:=qKu ts.length D;have w:k<N+2:=by omega
 have n1:¬(N+2<=N):=by omega
 have n2:¬(N+2<=N+1):=by omega
 have nk:¬(N+2<=k):=by omega
 have h:=cd (X:=XV) (T:=XV.lin 311) (L:=N+2) (live:=[0,2,3,5,8,9,10]) (b:=wN) (n:=2^ts.length-1) (γ:=Nat)
  (st:=fun(_:Unit) i=>⟨[(0,.ptr k 0),(2,.d (b8 rest)),(3,.d (binds .sub u)),(5,.ptr N 0),(8,.ptr (N+1) 0),(9,.d (ai .sub ps)),(10,aa (i+1:Nat))],
   g i++[some [aa f,.d (ai .sub (.node (-1) c j::ps)),.d (ai .sub ts)],some [aa (-1),aa c,.d (ai .sub j)]]⟩) (step:=eC)
  (F:=fun _=>(.exit 0,⟨[(0,.ptr k 0),(2,.d (b8 rest)),(3,.d (binds .sub u)),(5,.ptr N 0),(8,.ptr (N+1) 0),(9,.d (ai .sub ps)),(10,aa (2^ts.length-1+1:Nat)),(55,ax false)],
   g (2^ts.length-1)++[some [aa f,.d (ai .sub (.node (-1) c j::ps)),.d (ai .sub ts)],some [aa (-1),aa c,.d (ai .sub j)]]⟩)) (R:=fun _=>(.ret,⟨[],[]⟩))
  (fun a=>⟨by simp,by
   have x:¬((2^ts.length-1+1:Nat):Int)<((2^ts.length:Nat):Int):=by omega
   have q:=o (2^ts.length-1);generalize ((2^ts.length:Nat):Int)=M at*
   generalize ((2^ts.length-1+1:Nat):Int)=m at*
   generalize g (2^ts.length-1)=Q at*
   simp[wN,C,l,x,q]⟩)
  (fun a i hi=>by
   have q:=o i;have y:=o (i+1);have x:((i+1:Nat):Int)<((2^ts.length:Nat):Int):=by omega
   have hw:=bE (n:=i+1) (by omega);have Z:=Yk ts (i+1) (by omega) (by omega);obtain⟨d,W,hd⟩:=U3 s hs f (bJ ts (i+1) ts.length) (I _);have Y:=O9 hd;have h4:=Lq s f (bJ ts (i+1) ts.length);have h5:=I (i+1);obtain⟨xs,J,H⟩:=He u c (cU s f (bJ ts (i+1) ts.length)) hu (by omega);have V:xs.map (DV.clr∘DV.clr)=(cC u c (cU s f (bJ ts (i+1) ts.length))).map (Bd.enc .sub):=by rw[<-List.map_map,J,Bd.qeh]
   have hr:=G i (by omega) [some [aa f,.d (ai .sub (.node (-1) c j::ps)),.d (ai .sub ts)],some [aa (-1),aa c,.d (ai .sub j)]];have O:(bX f ps (cp ts (i+1) ts.length)).encR= .agg [.int .i64 f,ai .sub ps,ai .sub (cp ts (i+1) ts.length)]:=rfl;simp only[b8,bA,O,binds]at hr;have P:=t8 [.agg [.int .i64 f,ai .sub ps,.sl U ((cp ts (i+1) ts.length).map (T.enc .sub))]] rest .sub (by simp) (by simp;omega);have hg:∀e,(g i++e)[k]?=some (some (.d (sg s)::tl i)):=fun e=>by rw[cf (by omega)];exact z i
   have hx:∀h,(g i)[k]'h=some (.d (sg s)::tl i):=fun h=>by have:=z i;rw[eJ h]at this;simpa using this
   have h1:∀e h,(g i++e)[k]'h=some (.d (sg s)::tl i):=fun e h=>by rw[xp (by omega)];exact hx _
   generalize cC u c (cU s f (bJ ts (i+1) ts.length))=u2 at*
   generalize cU s f (bJ ts (i+1) ts.length)=mk at*
   generalize bJ ts (i+1) ts.length=on at*
   generalize cp ts (i+1) ts.length=off at*
   generalize ((2^ts.length:Nat):Int)=M at*
   generalize ((i+1:Nat):Int)=m at*
   generalize x1:((i+1+1:Nat):Int)=m2 at*
   unfold eC;refine⟨_,by simp[wN,qRA,C,l,x,hw,Z,W,Y,H,V,P,hr,h1,w,q,y,n1,n2,nk,splice];rfl,?_⟩;simp[aJ,aG,w,BU y,y];omega)
  (2^ts.length-1) () 0 ⟨[(0,.ptr k 0),(2,.d (b8 rest)),(3,.d (binds .sub u)),(5,.ptr N 0),(8,.ptr (N+1) 0),(9,.d (ai .sub ps)),(10,aa 1)],
   g 0++[some [aa f,.d (ai .sub (.node (-1) c j::ps)),.d (ai .sub ts)],some [aa (-1),aa c,.d (ai .sub j)]]⟩ (by omega) (by simp[aJ,aG,w,BU (o 0),o 0])
 rw[jQ]at h;simp only[Nv]at h;have q:=o 0;have S:=o (2^ts.length-1);have h3:(((ps.length:Int)+1)==0)=false:=by simp;omega
 have ht:List.take ps.length (ps.map (T.enc .sub))=ps.map (T.enc .sub):=dE (by simp);simp[hI,h2,h3,ht,q,mi q,lO q,n1,n2,splice,cut];rw[h];simp[S]
end Go.Proofs.YtpcoohnjllclnaaGreat.VS
