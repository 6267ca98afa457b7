/- Contracts of the program's functions on the evaluator without names, and plain lemmas: part 5. -/
import Derived.Test.YtbcbkiaineacpaaGreatXP4
set_option linter.unusedSimpArgs false
set_option linter.unusedVariables false
namespace Go.Proofs.YtbcbkiaineacpaaGreat.VS
theorem qsT(a:List DV)(c:List Gl)(g:Tag)(h2:∀y,y∈a->y.cells.length=3)(hl:(a.length+c.length)*56<=140737488355328):qaX 3 56 (.sl U a) (.sl g (c.map Gl.encR))=some (.sl U (a++c.map Gl.encR)):=by
 have h0:(c.map Gl.encR).all (fun e=>decide (e.cells.length=3/\e.cells.all DV.isCell=true))=true:=by
  rw[List.all_eq_true];intro y hy;obtain⟨z,_,rfl⟩:=List.mem_map.1 hy;simp[qae,qaf,DV.isCell]
 have h1:a.all (fun e=>decide (e.cells.length=3))=true:=by
  rw[List.all_eq_true];intro y hy;simpa using h2 y hy
 unfold qaX;simp only;rw[if_pos h0];cases c with
 |nil=>simp
 |cons x r=>
  simp only[List.map_cons,List.isEmpty_cons,Bool.false_eq_true,if_false];rw[if_pos ⟨by simpa using hl,trivial,h1⟩]
theorem sA0{α:Type}{B:List α}{N:Nat}(h:B.length=N)(a v:α)(r:List α):(B++a::r).set N v=B++v::r:=by subst h;simp
theorem sA1{α:Type}{B:List α}{N:Nat}(h:B.length=N)(a b v:α)(r:List α):(B++a::b::r).set (N+1) v=B++a::v::r:=by subst h;rw[List.set_append_right _ _ (by omega),show B.length+1-B.length=1 by omega];rfl
theorem sA2{α:Type}{B:List α}{N:Nat}(h:B.length=N)(a b c v:α)(r:List α):(B++a::b::c::r).set (N+2) v=B++a::b::v::r:=by subst h;rw[List.set_append_right _ _ (by omega),show B.length+2-B.length=2 by omega];rfl
section
variable (s:List SymL) (ws:List (List Bd)) (fuel:Int) (f:Int) (p t:T) (rest:List Gl) (u:List Bd) (pre r:qao) (S':List AV)
theorem qKf(h:¬fuel-1<0)(hl0:ws.length<=60)(h2:fuel<=20000)(hv:p.f= -1)(hb:qbV u p.v=none)(hu:u.length<=549755813888)(ht:t.inner<=1099511627776)(hrl:rest.length<=1000000000)
 (hrec:∀r',qac XV 310 [.ptr pre.length 0,.d (qaH rest),.d (binds .sub (qgT u p.v t))] (pre++some (rB s ws (fuel-1))::r')=some (.d (.tup []),pre++some S'::r')):
 qac XV 310 [.ptr pre.length 0,.d (qaH (⟨false,f,[p],[t]⟩::rest)),.d (binds .sub u)] (pre++some (rB s ws fuel)::r)=some (.d (.tup []),pre++some S'::r):=by
 obtain⟨pf,pv,pk⟩:=p;obtain⟨tf,tv,tk⟩:=t;simp only[T.qaW,T.qdR]at hv hb hrec;subst hv;have hE:(Gl.mk false f [.node (-1) pv pk] [.node tf tv tk]).encR= .agg [.int .i64 (-1),.sl .sub [(T.node (-1) pv pk).enc .sub],.sl .sub [(T.node tf tv tk).enc .sub]]:=rfl;have hbd:=qfy u pv (by omega);rw[hb]at hbd;obtain⟨xs,hxs,hadd⟩:=qv4 u pv (.node tf tv tk) hu ht;rw[qah XV _ _ _ qhA rfl qdw rfl];have hl:pre.length<pre.length+(r.length+1):=by omega
 have hn2:¬(pre.length+(r.length+1)<=pre.length):=by omega
 have hwr:IntKind.i64.wrap (fuel-1)=fuel-1:=wrap_i64 (by omega) (by omega);have hg:¬(60:Int)<(ws.length:Int):=by omega
 have hz:(0:Int)<=(rest.length:Int):=by omega
 have hz1:¬((rest.length:Int)+1=0):=by omega
 have hz2:(((rest.length:Int)+1)==0)=false:=by simp;omega
 have htk:List.take rest.length (rest.map Gl.encR)=rest.map Gl.encR:=List.take_of_length_le (by simp);simp[qhA,qcH,qcG,qcF,rB,hl,get_at,qaS,splice,hwr,h,hg,hn2,hz1,hz2];unfold rB at hrec;obtain⟨Q,hQ⟩:∃Q,pre++some [.d (sg s),.d (qbQ ws),.d (.int .i64 (fuel-1))]::r=Q:=⟨_,rfl⟩;obtain⟨Q',hQ'⟩:∃Q',pre++some S'::r=Q':=⟨_,rfl⟩;obtain⟨N,hN⟩:∃N,pre.length+(r.length+1)=N:=⟨_,rfl⟩;obtain⟨k,hk⟩:∃k,pre.length=k:=⟨_,rfl⟩;have hq:Q.length=N:=by rw[<-hQ,<-hN];simp
 have hq':Q'.length=N:=by rw[<-hQ',<-hN];simp
 have hkN:k<N:=by omega
 have hkN1:k<N+1:=by omega
 have hkN3:k<N+3:=by omega
 have e2:N+1+1=N+2:=rfl;have n1:¬(N+1<=N):=by omega
 have n2:¬(N+3<=N):=by omega
 have n3:¬(N+3<=N+1):=by omega
 have n4:¬(N+3<=N+2):=by omega
 have n5:¬(N+3<=k):=by omega
 have hrec:∀e,qac XV 310 [.ptr k 0,.d (qaH rest),.d (binds .sub (qgT u pv (.node tf tv tk)))] (Q++e)=some (.d (.tup []),Q'++e):=fun e=>by
  have:=hrec (r++e);rw[hk]at this;rw[<-hQ,<-hQ',qb4,qb4];exact this
 have tA0:∀(Q e:qao),Q.length=N->(Q++e).take N=Q:=fun Q e h=>by rw[<-h];simp
 rw[<-qb4,hQ,hN,hk,hQ'];rw[hN,hk]at hn2;clear hN hk hl hQ hQ';have hr:=hrec [some [.d (.int .i64 (-1)),.d (.sl .sub [(T.node (-1) pv pk).enc .sub]),.d (.sl .sub [(T.node tf tv tk).enc .sub])],some [.d (.int .i64 (-1)),.d (.int .i64 pv),.d (qaa .sub pk)],some [.d (.int .i64 tf),.d (.int .i64 tv),.d (qaa .sub tk)]];have hx2:xs.map (DV.clr∘DV.clr)=(qgT u pv (.node tf tv tk)).map (Bd.enc .sub):=by rw[<-List.map_map,hxs,Bd.qex]
 simp only[binds]at hr;simp[qhA,qcH,qcG,qcF,qeY,qff,qeX,qeW,qeV,qeU,qfe,qdj,qdi,qdh,qdI,qdg,qdf,qdH,qde,qdd,qdc,qdb,qdG,qda,qc9,hE,hkN,hkN1,hkN3,hq,hq',gA0 hq,gA1 hq,gA2 hq,sA0 hq,sA1 hq,sA2 hq,splice,e2,n1,n2,n3,n4,n5,hn2,hz,cut,htk,tA0,hbd,hadd,hr,hx2]
theorem qF7(h:¬fuel-1<0)(hl0:ws.length<=60)(h2:fuel<=20000)(j:Nat)(hv:p.f= -1)(hb:qbV u p.v=some j)(hu:small u)(ht:t.inner<=1099511627776)(hc:(T.cmp (bAt u j).t t==0)=true)(hrl:rest.length<=1000000000)
 (hrec:∀r',qac XV 310 [.ptr pre.length 0,.d (qaH rest),.d (binds .sub u)] (pre++some (rB s ws (fuel-1))::r')=some (.d (.tup []),pre++some S'::r')):
 qac XV 310 [.ptr pre.length 0,.d (qaH (⟨false,f,[p],[t]⟩::rest)),.d (binds .sub u)] (pre++some (rB s ws fuel)::r)=some (.d (.tup []),pre++some S'::r):=by
 obtain⟨pf,pv,pk⟩:=p;obtain⟨tf,tv,tk⟩:=t;simp only[T.qaW,T.qdR]at hv hb;subst hv;have hE:(Gl.mk false f [.node (-1) pv pk] [.node tf tv tk]).encR= .agg [.int .i64 (-1),.sl .sub [(T.node (-1) pv pk).enc .sub],.sl .sub [(T.node tf tv tk).enc .sub]]:=rfl;have hbd:=qfy u pv hu.1;rw[hb]at hbd;have hlk:=qhh u pv hu.1 hu.2;have hle:qpW u pv=(bAt u j).t:=by unfold qpW;rw[hb]
 rw[hle]at hlk;have hj:=(qci _ _ _ _ (show qau (fun i=>(bAt u i).v==pv) u.length 0=some j from hb)).2.1;have hsm:=qdV (bAt u j).t (.node tf tv tk) (hu.2 j (by omega)) ht;rw[hc]at hsm;generalize (bAt u j).t=w at*
 obtain⟨wf,wv,wk⟩:=w;rw[qah XV _ _ _ qhA rfl qdw rfl];have hl:pre.length<pre.length+(r.length+1):=by omega
 have hn2:¬(pre.length+(r.length+1)<=pre.length):=by omega
 have hwr:IntKind.i64.wrap (fuel-1)=fuel-1:=wrap_i64 (by omega) (by omega);have hg:¬(60:Int)<(ws.length:Int):=by omega
 have hz:(0:Int)<=(rest.length:Int):=by omega
 have hz1:¬((rest.length:Int)+1=0):=by omega
 have hz2:(((rest.length:Int)+1)==0)=false:=by simp;omega
 have htk:List.take rest.length (rest.map Gl.encR)=rest.map Gl.encR:=List.take_of_length_le (by simp);simp[qhA,qcH,qcG,qcF,rB,hl,get_at,qaS,splice,hwr,h,hg,hn2,hz1,hz2];unfold rB at hrec;obtain⟨Q,hQ⟩:∃Q,pre++some [.d (sg s),.d (qbQ ws),.d (.int .i64 (fuel-1))]::r=Q:=⟨_,rfl⟩;obtain⟨Q',hQ'⟩:∃Q',pre++some S'::r=Q':=⟨_,rfl⟩;obtain⟨N,hN⟩:∃N,pre.length+(r.length+1)=N:=⟨_,rfl⟩;obtain⟨k,hk⟩:∃k,pre.length=k:=⟨_,rfl⟩;have hq:Q.length=N:=by rw[<-hQ,<-hN];simp
 have hq':Q'.length=N:=by rw[<-hQ',<-hN];simp
 have hkN:k<N:=by omega
 have hkN1:k<N+1:=by omega
 have hkN3:k<N+3:=by omega
 have e2:N+1+1=N+2:=rfl;have n1:¬(N+1<=N):=by omega
 have n2:¬(N+3<=N):=by omega
 have n3:¬(N+3<=N+1):=by omega
 have n4:¬(N+3<=N+2):=by omega
 have n5:¬(N+3<=k):=by omega
 have hrec:∀e,qac XV 310 [.ptr k 0,.d (qaH rest),.d (binds .sub u)] (Q++e)=some (.d (.tup []),Q'++e):=fun e=>by
  have:=hrec (r++e);rw[hk]at this;rw[<-hQ,<-hQ',qb4,qb4];exact this
 have tA0:∀(Q e:qao),Q.length=N->(Q++e).take N=Q:=fun Q e h=>by rw[<-h];simp
 rw[<-qb4,hQ,hN,hk,hQ'];rw[hN,hk]at hn2;clear hN hk hl hQ hQ';have hr:=hrec [some [.d (.int .i64 (-1)),.d (.sl .sub [(T.node (-1) pv pk).enc .sub]),.d (.sl .sub [(T.node tf tv tk).enc .sub])],some [.d (.int .i64 (-1)),.d (.int .i64 pv),.d (qaa .sub pk)],some [.d (.int .i64 tf),.d (.int .i64 tv),.d (qaa .sub tk)]];simp[qhA,qcH,qcG,qcF,qeY,qff,qeX,qeW,qeV,qeU,qfe,qdj,qdi,qdh,qdI,qdg,qdf,qdH,qde,qdd,qdc,qdb,qdG,qda,qc9,hE,hkN,hkN1,hkN3,hq,hq',gA0 hq,gA1 hq,gA2 hq,sA0 hq,sA1 hq,sA2 hq,splice,e2,n1,n2,n3,n4,n5,hn2,hz,cut,htk,tA0,hbd,hlk,hsm,hr]
theorem qCv(h:¬fuel-1<0)(hl0:ws.length<=60)(h2:fuel<=20000)(j:Nat)(hv:p.f= -1)(hb:qbV u p.v=some j)(hu:small u)(ht:t.inner<=1099511627776)(hc:(T.cmp (bAt u j).t t==0)=false)(hrl:rest.length<=1000000000)
 :
 qac XV 310 [.ptr pre.length 0,.d (qaH (⟨false,f,[p],[t]⟩::rest)),.d (binds .sub u)] (pre++some (rB s ws fuel)::r)=some (.d (.tup []),pre++some (rB s ws (fuel-1))::r):=by
 obtain⟨pf,pv,pk⟩:=p;obtain⟨tf,tv,tk⟩:=t;simp only[T.qaW,T.qdR]at hv hb;subst hv;have hE:(Gl.mk false f [.node (-1) pv pk] [.node tf tv tk]).encR= .agg [.int .i64 (-1),.sl .sub [(T.node (-1) pv pk).enc .sub],.sl .sub [(T.node tf tv tk).enc .sub]]:=rfl;have hbd:=qfy u pv hu.1;rw[hb]at hbd;have hlk:=qhh u pv hu.1 hu.2;have hle:qpW u pv=(bAt u j).t:=by unfold qpW;rw[hb]
 rw[hle]at hlk;have hj:=(qci _ _ _ _ (show qau (fun i=>(bAt u i).v==pv) u.length 0=some j from hb)).2.1;have hsm:=qdV (bAt u j).t (.node tf tv tk) (hu.2 j (by omega)) ht;rw[hc]at hsm;generalize (bAt u j).t=w at*
 obtain⟨wf,wv,wk⟩:=w;rw[qah XV _ _ _ qhA rfl qdw rfl];have hl:pre.length<pre.length+(r.length+1):=by omega
 have hn2:¬(pre.length+(r.length+1)<=pre.length):=by omega
 have hwr:IntKind.i64.wrap (fuel-1)=fuel-1:=wrap_i64 (by omega) (by omega);have hg:¬(60:Int)<(ws.length:Int):=by omega
 have hz:(0:Int)<=(rest.length:Int):=by omega
 have hz1:¬((rest.length:Int)+1=0):=by omega
 have hz2:(((rest.length:Int)+1)==0)=false:=by simp;omega
 have htk:List.take rest.length (rest.map Gl.encR)=rest.map Gl.encR:=List.take_of_length_le (by simp);simp[qhA,qcH,qcG,qcF,rB,hl,get_at,qaS,splice,hwr,h,hg,hn2,hz1,hz2];obtain⟨Q,hQ⟩:∃Q,pre++some [.d (sg s),.d (qbQ ws),.d (.int .i64 (fuel-1))]::r=Q:=⟨_,rfl⟩;obtain⟨N,hN⟩:∃N,pre.length+(r.length+1)=N:=⟨_,rfl⟩;obtain⟨k,hk⟩:∃k,pre.length=k:=⟨_,rfl⟩;have hq:Q.length=N:=by rw[<-hQ,<-hN];simp
 have hkN:k<N:=by omega
 have hkN1:k<N+1:=by omega
 have hkN3:k<N+3:=by omega
 have e2:N+1+1=N+2:=rfl;have n1:¬(N+1<=N):=by omega
 have n2:¬(N+3<=N):=by omega
 have n3:¬(N+3<=N+1):=by omega
 have n4:¬(N+3<=N+2):=by omega
 have n5:¬(N+3<=k):=by omega
 have tA0:∀(Q e:qao),Q.length=N->(Q++e).take N=Q:=fun Q e h=>by rw[<-h];simp
 rw[<-qb4,hQ,hN,hk];rw[hN,hk]at hn2;clear hN hk hl;simp[qhA,qcH,qcG,qcF,qeY,qff,qeX,qeW,qeV,qeU,qfe,qdj,qdi,qdh,qdI,qdg,qdf,qdH,qde,qdd,qdc,qdb,qdG,qda,qc9,hE,hkN,hkN1,hkN3,hq,gA0 hq,gA1 hq,gA2 hq,sA0 hq,sA1 hq,sA2 hq,splice,e2,n1,n2,n3,n4,n5,hn2,hz,cut,htk,tA0,hbd,hlk,hsm,hQ]
theorem qF6(h:¬fuel-1<0)(hl0:ws.length<=60)(h2:fuel<=20000)(hv:p.f≠-1)(hd:p.f≠t.f)(hrl:rest.length<=1000000000)
 :
 qac XV 310 [.ptr pre.length 0,.d (qaH (⟨false,f,[p],[t]⟩::rest)),.d (binds .sub u)] (pre++some (rB s ws fuel)::r)=some (.d (.tup []),pre++some (rB s ws (fuel-1))::r):=by
 obtain⟨pf,pv,pk⟩:=p;obtain⟨tf,tv,tk⟩:=t;simp only[T.qaW]at hv hd;have hv2:(pf== -1)=false:=by simpa using hv
 have hd2:(pf !=tf)=true:=by simpa using hd
 have hE:(Gl.mk false f [.node pf pv pk] [.node tf tv tk]).encR= .agg [.int .i64 (-1),.sl .sub [(T.node pf pv pk).enc .sub],.sl .sub [(T.node tf tv tk).enc .sub]]:=rfl;rw[qah XV _ _ _ qhA rfl qdw rfl];have hl:pre.length<pre.length+(r.length+1):=by omega
 have hn2:¬(pre.length+(r.length+1)<=pre.length):=by omega
 have hwr:IntKind.i64.wrap (fuel-1)=fuel-1:=wrap_i64 (by omega) (by omega);have hg:¬(60:Int)<(ws.length:Int):=by omega
 have hz:(0:Int)<=(rest.length:Int):=by omega
 have hz1:¬((rest.length:Int)+1=0):=by omega
 have hz2:(((rest.length:Int)+1)==0)=false:=by simp;omega
 have htk:List.take rest.length (rest.map Gl.encR)=rest.map Gl.encR:=List.take_of_length_le (by simp);simp[qhA,qcH,qcG,qcF,rB,hl,get_at,qaS,splice,hwr,h,hg,hn2,hz1,hz2];obtain⟨Q,hQ⟩:∃Q,pre++some [.d (sg s),.d (qbQ ws),.d (.int .i64 (fuel-1))]::r=Q:=⟨_,rfl⟩;obtain⟨N,hN⟩:∃N,pre.length+(r.length+1)=N:=⟨_,rfl⟩;obtain⟨k,hk⟩:∃k,pre.length=k:=⟨_,rfl⟩;have hq:Q.length=N:=by rw[<-hQ,<-hN];simp
 have hkN:k<N:=by omega
 have hkN1:k<N+1:=by omega
 have hkN3:k<N+3:=by omega
 have e2:N+1+1=N+2:=rfl;have n1:¬(N+1<=N):=by omega
 have n2:¬(N+3<=N):=by omega
 have n3:¬(N+3<=N+1):=by omega
 have n4:¬(N+3<=N+2):=by omega
 have n5:¬(N+3<=k):=by omega
 have tA0:∀(Q e:qao),Q.length=N->(Q++e).take N=Q:=fun Q e h=>by rw[<-h];simp
 rw[<-qb4,hQ,hN,hk];rw[hN,hk]at hn2;clear hN hk hl;simp[qhA,qcH,qcG,qcF,qeY,qff,qeX,qeW,qeV,qeU,qfe,qdj,qdi,qdh,qdI,qdg,qdf,qdH,qde,qdd,qdc,qdb,qdG,qda,qc9,hE,hkN,hkN1,hkN3,hq,gA0 hq,gA1 hq,gA2 hq,sA0 hq,sA1 hq,sA2 hq,splice,e2,n1,n2,n3,n4,n5,hn2,hz,cut,htk,tA0,hv2,hd2,hQ]
theorem qF8(h:¬fuel-1<0)(hl0:ws.length<=60)(h2:fuel<=20000)(hs:s.length<=1099511627776)(hv:p.f≠-1)(hd:p.f=t.f)(hbl:qaK s p.f=true)(hrl:rest.length<=1000000000)
 (hrec:∀r',qac XV 310 [.ptr pre.length 0,.d (qaH (qa7 p.f p.kids t.kids::rest)),.d (binds .sub u)] (pre++some (rB s ws (fuel-1))::r')=some (.d (.tup []),pre++some S'::r')):
 qac XV 310 [.ptr pre.length 0,.d (qaH (⟨false,f,[p],[t]⟩::rest)),.d (binds .sub u)] (pre++some (rB s ws fuel)::r)=some (.d (.tup []),pre++some S'::r):=by
 obtain⟨pf,pv,pk⟩:=p;obtain⟨tf,tv,tk⟩:=t;simp only[T.qaW,T.qaQ]at hv hd hbl hrec;subst hd;have hv2:(pf== -1)=false:=by simpa using hv
 have hE:(Gl.mk false f [.node pf pv pk] [.node pf tv tk]).encR= .agg [.int .i64 (-1),.sl .sub [(T.node pf pv pk).enc .sub],.sl .sub [(T.node pf tv tk).enc .sub]]:=rfl;have hsb:=qe8 s hs pf;rw[hbl]at hsb;rw[qah XV _ _ _ qhA rfl qdw rfl];have hl:pre.length<pre.length+(r.length+1):=by omega
 have hn2:¬(pre.length+(r.length+1)<=pre.length):=by omega
 have hwr:IntKind.i64.wrap (fuel-1)=fuel-1:=wrap_i64 (by omega) (by omega);have hg:¬(60:Int)<(ws.length:Int):=by omega
 have hz:(0:Int)<=(rest.length:Int):=by omega
 have hz1:¬((rest.length:Int)+1=0):=by omega
 have hz2:(((rest.length:Int)+1)==0)=false:=by simp;omega
 have htk:List.take rest.length (rest.map Gl.encR)=rest.map Gl.encR:=List.take_of_length_le (by simp);simp[qhA,qcH,qcG,qcF,rB,hl,get_at,qaS,splice,hwr,h,hg,hn2,hz1,hz2];unfold rB at hrec;obtain⟨Q,hQ⟩:∃Q,pre++some [.d (sg s),.d (qbQ ws),.d (.int .i64 (fuel-1))]::r=Q:=⟨_,rfl⟩;obtain⟨Q',hQ'⟩:∃Q',pre++some S'::r=Q':=⟨_,rfl⟩;obtain⟨N,hN⟩:∃N,pre.length+(r.length+1)=N:=⟨_,rfl⟩;obtain⟨k,hk⟩:∃k,pre.length=k:=⟨_,rfl⟩;have hq:Q.length=N:=by rw[<-hQ,<-hN];simp
 have hq':Q'.length=N:=by rw[<-hQ',<-hN];simp
 have hkN:k<N:=by omega
 have hkN1:k<N+1:=by omega
 have hkN3:k<N+3:=by omega
 have e2:N+1+1=N+2:=rfl;have n1:¬(N+1<=N):=by omega
 have n2:¬(N+3<=N):=by omega
 have n3:¬(N+3<=N+1):=by omega
 have n4:¬(N+3<=N+2):=by omega
 have n5:¬(N+3<=k):=by omega
 have hrec:∀e,qac XV 310 [.ptr k 0,.d (qaH (qa7 pf pk tk::rest)),.d (binds .sub u)] (Q++e)=some (.d (.tup []),Q'++e):=fun e=>by
  have:=hrec (r++e);rw[hk]at this;rw[<-hQ,<-hQ',qb4,qb4];exact this
 have tA0:∀(Q e:qao),Q.length=N->(Q++e).take N=Q:=fun Q e h=>by rw[<-h];simp
 have hx:∀(h:k<Q.length),Q[k]=some [.d (sg s),.d (qbQ ws),.d (.int .i64 (fuel-1))]:=fun h=>by simp only[<-hQ,<-hk];simp
 have hx2:∀e (h:k<(Q++e).length),(Q++e)[k]=some [.d (sg s),.d (qbQ ws),.d (.int .i64 (fuel-1))]:=fun e h=>by rw[List.getElem_append_left (by omega)];exact hx _
 have hx3:∀e,(Q++e)[k]?=some (some [.d (sg s),.d (qbQ ws),.d (.int .i64 (fuel-1))]):=fun e=>by rw[ye_ (by omega),List.getElem?_eq_getElem (by omega),hx]
 rw[<-qb4,hQ,hN,hk,hQ'];rw[hN,hk]at hn2;clear hN hk hl hQ hQ';have hr:=hrec [some [.d (.int .i64 (-1)),.d (.sl .sub [(T.node pf pv pk).enc .sub]),.d (.sl .sub [(T.node pf tv tk).enc .sub])],some [.d (.int .i64 pf),.d (.int .i64 pv),.d (qaa .sub pk)],some [.d (.int .i64 pf),.d (.int .i64 tv),.d (qaa .sub tk)]];have hap:=qsT [(Gl.mk true pf pk tk).encR] rest .sub (by simp) (by simp;omega);have hEM:(Gl.mk true pf pk tk).encR= .agg [.int .i64 pf,qaa .sub pk,qaa .sub tk]:=rfl;simp only[List.map_cons,qa7,hEM]at hr hap;simp only[qaH,List.map_cons,hEM]at hr;simp[qhA,qcH,qcG,qcF,qeY,qff,qeX,qeW,qeV,qeU,qfe,qdj,qdi,qdh,qdI,qdg,qdf,qdH,qde,qdd,qdc,qdb,qdG,qda,qc9,hE,hkN,hkN1,hkN3,hq,hq',gA0 hq,gA1 hq,gA2 hq,sA0 hq,sA1 hq,sA2 hq,splice,e2,n1,n2,n3,n4,n5,hn2,hz,cut,htk,tA0,hv2,hsb,hx,hx2,hx3,hap,hr]
end
theorem qGQ(xs:List DV)(x:DV)(g:Tag)(h:(xs.length+1)*56<=140737488355328)(h2:∀y,y∈xs->y.cells.length=3)(hx:x.cells.length=3)(hc:x.cells.all DV.isCell=true):qaX 3 56 (.sl U xs) (.sl g [x])=some (.sl U (xs++[x])):=by
 have h1:xs.all (fun e=>decide (e.cells.length=3))=true:=by
  rw[List.all_eq_true];intro y hy;simpa using h2 y hy
 unfold qaX;simp only;rw[if_pos (by simp[hx];simpa using hc)];simp only[List.isEmpty_cons,Bool.false_eq_true,if_false];rw[if_pos ⟨by simpa using h,trivial,h1⟩]
def qxo(p t:T):DV:= .agg [.int .i64 (-1),.sl U [p.enc .sub],.sl U [t.enc .sub]]
def qec(ps ts:List T)(n:Nat):List DV:=(List.range n).map fun i=>qxo (tAt ps i) (tAt ts i)
theorem qts(ps ts:List T)(n:Nat):qec ps ts (n+1)=qec ps ts n++[qxo (tAt ps n) (tAt ts n)]:=by
 unfold qec;rw[List.range_succ,List.map_append];rfl
theorem qm9(ps ts:List T)(n:Nat):(qec ps ts n).length=n:=by unfold qec;simp
theorem qjm(ps ts:List T)(n:Nat):∀y,y∈qec ps ts n->y.cells.length=3:=fun y hy=>by
 obtain⟨z,_,rfl⟩:=List.mem_map.1 hy;rfl
theorem qxn(ps ts:List T)(n:Nat):(qec ps ts n).map DV.clr=(qbd ps ts n).map Gl.encR:=by
 unfold qec qbd;rw[List.map_map,List.map_map];refine List.map_congr_left fun i _=> ?_
 simp[qxo,qb1,Gl.encR]
section
variable (s:List SymL) (ws:List (List Bd)) (fuel:Int) (f:Int) (p t:T) (rest:List Gl) (u:List Bd) (pre r:qao) (S':List AV)
theorem qKe(h:¬fuel-1<0)(hl0:ws.length<=60)(h2:fuel<=20000)(hs:s.length<=1099511627776)(hv:p.f≠-1)(hd:p.f=t.f)(hbl:qaK s p.f=false)(he:p.kids.length=t.kids.length)(hpl:p.kids.length<=1000000000)(hrl:rest.length<=1000000000)
 (hrec:∀r',qac XV 310 [.ptr pre.length 0,.d (qaH (qbd p.kids t.kids p.kids.length++rest)),.d (binds .sub u)] (pre++some (rB s ws (fuel-1))::r')=some (.d (.tup []),pre++some S'::r')):
 qac XV 310 [.ptr pre.length 0,.d (qaH (⟨false,f,[p],[t]⟩::rest)),.d (binds .sub u)] (pre++some (rB s ws fuel)::r)=some (.d (.tup []),pre++some S'::r):=by
 obtain⟨pf,pv,pk⟩:=p;obtain⟨tf,tv,tk⟩:=t;simp only[T.qaW,T.qaQ]at hv hd hbl hrec he hpl;subst hd;have hv2:(pf== -1)=false:=by simpa using hv
 have hE:(Gl.mk false f [.node pf pv pk] [.node pf tv tk]).encR= .agg [.int .i64 (-1),.sl .sub [(T.node pf pv pk).enc .sub],.sl .sub [(T.node pf tv tk).enc .sub]]:=rfl;have hsb:=qe8 s hs pf;rw[hbl]at hsb;rw[qah XV _ _ _ qhA rfl qdw rfl];have hl:pre.length<pre.length+(r.length+1):=by omega
 have hn2:¬(pre.length+(r.length+1)<=pre.length):=by omega
 have hwr:IntKind.i64.wrap (fuel-1)=fuel-1:=wrap_i64 (by omega) (by omega);have hg:¬(60:Int)<(ws.length:Int):=by omega
 have hz:(0:Int)<=(rest.length:Int):=by omega
 have hz1:¬((rest.length:Int)+1=0):=by omega
 have hz2:(((rest.length:Int)+1)==0)=false:=by simp;omega
 have htk:List.take rest.length (rest.map Gl.encR)=rest.map Gl.encR:=List.take_of_length_le (by simp);simp[qhA,qcH,qcG,qcF,rB,hl,get_at,qaS,splice,hwr,h,hg,hn2,hz1,hz2];unfold rB at hrec;obtain⟨Q,hQ⟩:∃Q,pre++some [.d (sg s),.d (qbQ ws),.d (.int .i64 (fuel-1))]::r=Q:=⟨_,rfl⟩;obtain⟨Q',hQ'⟩:∃Q',pre++some S'::r=Q':=⟨_,rfl⟩;obtain⟨N,hN⟩:∃N,pre.length+(r.length+1)=N:=⟨_,rfl⟩;obtain⟨k,hk⟩:∃k,pre.length=k:=⟨_,rfl⟩;have hq:Q.length=N:=by rw[<-hQ,<-hN];simp
 have hq':Q'.length=N:=by rw[<-hQ',<-hN];simp
 have hkN:k<N:=by omega
 have hkN1:k<N+1:=by omega
 have hkN3:k<N+3:=by omega
 have e2:N+1+1=N+2:=rfl;have n1:¬(N+1<=N):=by omega
 have n2:¬(N+3<=N):=by omega
 have n3:¬(N+3<=N+1):=by omega
 have n4:¬(N+3<=N+2):=by omega
 have n5:¬(N+3<=k):=by omega
 have hrec:∀e,qac XV 310 [.ptr k 0,.d (qaH (qbd pk tk pk.length++rest)),.d (binds .sub u)] (Q++e)=some (.d (.tup []),Q'++e):=fun e=>by
  have:=hrec (r++e);rw[hk]at this;rw[<-hQ,<-hQ',qb4,qb4];exact this
 have tA0:∀(Q e:qao),Q.length=N->(Q++e).take N=Q:=fun Q e h=>by rw[<-h];simp
 have hx:∀(h:k<Q.length),Q[k]=some [.d (sg s),.d (qbQ ws),.d (.int .i64 (fuel-1))]:=fun h=>by simp only[<-hQ,<-hk];simp
 have hx2:∀e (h:k<(Q++e).length),(Q++e)[k]=some [.d (sg s),.d (qbQ ws),.d (.int .i64 (fuel-1))]:=fun e h=>by rw[List.getElem_append_left (by omega)];exact hx _
 have hx3:∀e,(Q++e)[k]?=some (some [.d (sg s),.d (qbQ ws),.d (.int .i64 (fuel-1))]):=fun e=>by rw[ye_ (by omega),List.getElem?_eq_getElem (by omega),hx]
 rw[<-qb4,hQ,hN,hk,hQ'];rw[hN,hk]at hn2;clear hN hk hl hQ hQ';have hr:=hrec [some [.d (.int .i64 (-1)),.d (.sl .sub [(T.node pf pv pk).enc .sub]),.d (.sl .sub [(T.node pf tv tk).enc .sub])],some [.d (.int .i64 pf),.d (.int .i64 pv),.d (qaa .sub pk)],some [.d (.int .i64 pf),.d (.int .i64 tv),.d (qaa .sub tk)]];have hE2:(qec pk tk pk.length++rest.map Gl.encR).map (DV.clr)=(qbd pk tk pk.length++rest).map Gl.encR:=by rw[List.map_append,qxn,List.map_append,List.map_map,qif]
 have tB:∀(a b c:Option (List AV)) (e:qao),(Q++a::b::c::e).take (N+3)=Q++[a,b,c]:=fun a b c e=>by
  rw[<-hq,show Q++a::b::c::e=(Q++[a,b,c])++e by simp,List.take_left' (by simp)]
 have hl:=qal (X:=XV) (T:=XV.lin 310) (L:=N+3) (live:=[0,2,7,8,9,10,11]) (b:=qwz) (n:=pk.length) (γ:=Nat) (st:=fun(_:Unit) i=>⟨[(0,.ptr k 0),(2,.d (binds .sub u)),(7,.d (qaH rest)),(8,.ptr (N+1) 0),(9,.ptr (N+2) 0),(10,.d (.sl U (qec pk tk i))),(11,.d (.int .i64 i))],Q++[some [.d (.int .i64 (-1)),.d (.sl .sub [(T.node pf pv pk).enc .sub]),.d (.sl .sub [(T.node pf tv tk).enc .sub])],some [.d (.int .i64 pf),.d (.int .i64 pv),.d (qaa .sub pk)],some [.d (.int .i64 pf),.d (.int .i64 tv),.d (qaa .sub tk)]]⟩) (step:=qcr)
  (F:=fun _=>(.exit 0,⟨[(0,.ptr k 0),(2,.d (binds .sub u)),(7,.d (qaH rest)),(8,.ptr (N+1) 0),(9,.ptr (N+2) 0),(10,.d (.sl U (qec pk tk pk.length))),(11,.d (.int .i64 pk.length)),(137,.d (.bool false))],Q++[some [.d (.int .i64 (-1)),.d (.sl .sub [(T.node pf pv pk).enc .sub]),.d (.sl .sub [(T.node pf tv tk).enc .sub])],some [.d (.int .i64 pf),.d (.int .i64 pv),.d (qaa .sub pk)],some [.d (.int .i64 pf),.d (.int .i64 tv),.d (qaa .sub tk)]]⟩)) (R:=fun _=>(.ret,⟨[],[]⟩))
  (fun a=>⟨by simp,by simp[qwz,qcH,qcG,qcF,qeY,qff,qeX,qeW,qeV,qeU,qfe,qdj,qdi,qdh,qdI,qdg,qdf,qdH,qde,qdd,qdc,qdb,qdG,qda,qc9,gA1 hq,gA2 hq,hq,n2,n3,n4,splice,he]⟩)
  (fun a i hi=>by
   have hw:=qai (n:=i) (by omega);have hi':i<tk.length:=by omega
   have ha:=qGQ (qec pk tk i) (qxo (tAt pk i) (tAt tk i)) U (by rw[qm9];omega) (qjm _ _ _) rfl (by simp[qxo,qae,qaf]);rw[<-qts]at ha;have o1:=qan hi;have o2:=qan hi';generalize hR2:qec pk tk (i+1)=R2 at ha;generalize qec pk tk i=R1 at*
   unfold qxo at ha;unfold qcr;exact⟨_,by simp[qwz,qcH,qcG,qcF,qeY,qff,qeX,qeW,qeV,qeU,qfe,qdj,qdi,qdh,qdI,qdg,qdf,qdH,qde,qdd,qdc,qdb,qdG,qda,qc9,hi,hi',hw,o1,o2,ha,cut,hkN,hkN1,hkN3,hq,hq',gA0 hq,gA1 hq,gA2 hq,sA0 hq,sA1 hq,sA2 hq,splice,e2,n1,n2,n3,n4,n5,hn2,hz,cut,htk,tA0];rfl,by simp[qad,qab,tB,hkN3,hq,hR2]⟩)
  pk.length () 0 ⟨[(0,.ptr k 0),(2,.d (binds .sub u)),(7,.d (qaH rest)),(8,.ptr (N+1) 0),(9,.ptr (N+2) 0),(10,.d (.sl U [])),(11,.d (.int .i64 0))],Q++[some [.d (.int .i64 (-1)),.d (.sl .sub [(T.node pf pv pk).enc .sub]),.d (.sl .sub [(T.node pf tv tk).enc .sub])],some [.d (.int .i64 pf),.d (.int .i64 pv),.d (qaa .sub pk)],some [.d (.int .i64 pf),.d (.int .i64 tv),.d (qaa .sub tk)]]⟩ (by omega) (by simp[qad,qab,qec,hkN3,tB,hq])
 rw[qkN]at hl;simp only[qJM]at hl;have hap:=qsT (qec pk tk pk.length) rest .sub (qjm _ _ _) (by rw[qm9];omega);simp only[qaH]at hr hl;generalize qec pk tk pk.length=R1 at*
 simp[qhA,qcH,qcG,qcF,qeY,qff,qeX,qeW,qeV,qeU,qfe,qdj,qdi,qdh,qdI,qdg,qdf,qdH,qde,qdd,qdc,qdb,qdG,qda,qc9,hE,hkN,hkN1,hkN3,hq,hq',gA0 hq,gA1 hq,gA2 hq,sA0 hq,sA1 hq,sA2 hq,splice,e2,n1,n2,n3,n4,n5,hn2,hz,cut,htk,tA0,hv2,hsb,hx,hx2,hx3];rw[hl];have hE3:List.map DV.clr R1++List.map (DV.clr∘Gl.encR) rest=(qbd pk tk pk.length++rest).map Gl.encR:=by rw[<-hE2,List.map_append,List.map_map]
 have hE4:List.map DV.clr R1++List.map Gl.encR rest=(qbd pk tk pk.length++rest).map Gl.encR:=by rw[<-hE2,List.map_append,List.map_map,qif]
 simp only[List.map_append]at hE3 hE4 hr;simp[qhA,qcH,qcG,qcF,qeY,qff,qeX,qeW,qeV,qeU,qfe,qdj,qdi,qdh,qdI,qdg,qdf,qdH,qde,qdd,qdc,qdb,qdG,qda,qc9,hap,hE3,hE4,hr,hkN,hkN3,hq,hq',tA0]
end
theorem qFV(n:Nat)(h:n<=12):qac XV 314 [.d (.int .i64 n),.d (.int .i64 12)] []=some (.d (.int .i64 n),[]):=by
 rw[qah XV _ _ _ qK2 rfl qzu rfl]
 by_cases c:(n:Int)<12
 ·simp[qK2,qAT,qAS,qAR,qAQ,c]
 ·have:(n:Int)=12:=by omega
  rw[this];simp[qK2,qAT,qAS,qAR,qAQ]
theorem qJ7{d:DV}{a:T}(h:IsV d a):d.clr=a.enc .sub:=by
 obtain⟨g,X,rfl,hX⟩:=h;rw[T.qcJ];simp[hX]
section
variable (s:List SymL) (f:Int) (ts:List T) (rest:List Gl) (u:List Bd) (k:Nat) (Q Q':qao)
theorem qm7(hk:k<Q.length)(hQ:Q'.length=Q.length)(hrec:ts.length=0->∀e,qac XV 310 [.ptr k 0,.d (qaH rest),.d (binds .sub u)] (Q++e)=some (.d (.tup []),Q'++e))(hno:ts.length≠0->Q'=Q):
 qac XV 311 [.ptr k 0,.d (Gl.mk true f [] ts).encR,.d (qaH rest),.d (binds .sub u)] Q=some (.d (.tup []),Q'):=by
 rw[qah XV _ _ _ qqN rfl qhC rfl];have hk1:k<Q.length+1:=by omega
 by_cases c:ts.length=0
 ·have hc:ts=[]:=List.length_eq_zero_iff.1 c
  have hr:=hrec c [some [.d (.int .i64 f),.d (qaa .sub []),.d (qaa .sub [])]];subst hc;simp[qqN,qeT,qeS,qeR,qeQ,qeP,qeO,qeN,qeM,qeL,qc8,qdF,qeK,qc7,qc0,qcZ,qcY,qcX,qcW,qcV,qcU,qcT,qcS,qdE,qdD,qcQ,qcR,hr,hk,hk1,hQ,get_at,qbb,qcu,qaS,qbg,qcP,splice,cut]
 ·have hc:((ts.length:Int)==0)=false:=by simpa using c
  rw[hno c];simp[qqN,qeT,qeS,qeR,qeQ,qeP,qeO,qeN,qeM,qeL,qc8,qdF,qeK,qc7,qc0,qcZ,qcY,qcX,qcW,qcV,qcU,qcT,qcS,qdE,qdD,qcQ,qcR,hc,hk,hk1,get_at,qbb,qcu,qaS,qbg,qcP,splice,cut]
theorem qkO(p:T)(ps:List T)(j:Nat)(hv:p.f= -1)(hb:qbV u p.v=some j)(hu:small u)(hk:k<Q.length)(hQ:Q'.length=Q.length)(hl:rest.length<=1000000000)(hp:ps.length<=1000000000)
 (htl:ts.length<=1099511627776) (hts:∀x,x∈ts->x.inner<=1099511627776)
 (hrec:∀r,takeN ts (partsOf f (bAt u j).t)= .inl r->∀e,qac XV 310 [.ptr k 0,.d (qaH (qa7 f ps r::rest)),.d (binds .sub u)] (Q++e)=some (.d (.tup []),Q'++e)) (hno:∀r,takeN ts (partsOf f (bAt u j).t)= .inr r->Q'=Q):
 qac XV 311 [.ptr k 0,.d (Gl.mk true f (p::ps) ts).encR,.d (qaH rest),.d (binds .sub u)] Q=some (.d (.tup []),Q'):=by
 obtain⟨pf,pv,pk⟩:=p;simp only[T.qaW,T.qdR]at hv hb hrec;subst hv;have hj:=(qci _ _ _ _ (show qau (fun i=>(bAt u i).v==pv) u.length 0=some j from hb)).2.1;rw[qah XV _ _ _ qqN rfl qhC rfl];have h2:=qfy u pv hu.1;rw[hb]at h2;have h3:=qhh u pv hu.1 hu.2;have hle:qpW u pv=(bAt u j).t:=by unfold qpW;rw[hb]
 rw[hle]at h3;have hw:=hu.2 j (by omega);generalize (bAt u j).t=w at*
 obtain⟨wf,wv,wk⟩:=w;have hwi:∀x,x∈partsOf f (.node wf wv wk)->x.inner<=1099511627776:=fun x hx=>by
  unfold partsOf at hx;split at hx
  ·simp only[T.inner]at hw
   simp only[T.qaQ]at hx;have:=T.qaA hx;omega
  ·simp at hx;subst hx;exact hw
 have hwl:(partsOf f (.node wf wv wk)).length<=1099511627776:=by
  unfold partsOf;split
  ·have h9:=T.qg6 (.node wf wv wk)
   simp only[T.qaQ]at h9⊢
   omega
  ·simp
 obtain⟨g,hg,htk⟩:=qCj ts (partsOf f (.node wf wv wk)) htl hwl hts hwi;have hSN:=qAh ts (partsOf f (.node wf wv wk));have hk1:k<Q.length+3:=by omega
 have hk2:k<Q.length+2:=by omega
 have hk3:k<Q.length+1:=by omega
 have hp0:¬((ps.length:Int)+1=0):=by omega
 have hp1:(((ps.length:Int)+1)==0)=false:=by simp;omega
 have hz:(0:Int)<=(ps.length:Int):=by omega
 have ht:List.take ps.length (ps.map (T.enc .sub))=ps.map (T.enc .sub):=List.take_of_length_le (by simp);cases hc:qpk ts (partsOf f (.node wf wv wk))with
 |inl r=>
  rw[hc]at htk hSN;have hc2:takeN ts (partsOf f (.node wf wv wk))= .inl r:=by
   cases hn:takeN ts (partsOf f (.node wf wv wk))with
   |inl r2=>rw[hn]at hSN;simp only[Option.some.injEq]at hSN;rw[hSN]
   |inr r2=>rw[hn]at hSN;cases hSN
  have hr:=hrec r hc2 [some [.d (.int .i64 f),.d (qaa .sub (.node (-1) pv pk::ps)),.d (qaa .sub ts)],some [.d (.int .i64 (-1)),.d (.int .i64 pv),.d (qaa .sub pk)],some [.d (.int .i64 wf),.d (.int .i64 wv),.d (qaa .sub wk)]];have hEM:(qa7 f ps r).encR= .agg [.int .i64 f,qaa .sub ps,qaa .sub r]:=rfl;simp only[qaH,List.map_cons,hEM]at hr;have hap:=qsT [.agg [.int .i64 f,qaa .sub ps,qkd (g,r)]] rest .sub (by simp) (by simp;omega)
  by_cases c:wf=f
  ·have ep:partsOf f (.node wf wv wk)=wk:=by unfold partsOf;rw[if_pos (show(T.node wf wv wk).f=f from c)];rfl
   rw[ep]at htk;subst c;rcases hg with rfl|rfl<;>simp only[qkd]at htk hap<;>
    simp[qqN,qeT,qeS,qeR,qeQ,qeP,qeO,qeN,qeM,qeL,qc8,qdF,qeK,qc7,qc0,qcZ,qcY,qcX,qcW,qcV,qcU,qcT,qcS,qdE,qdD,qcQ,qcR,h2,h3,htk,hap,hr,hk,hk1,hk2,hk3,hQ,hp0,hp1,hz,ht,get_at,qbb,qcu,qaS,qbg,qcP,splice,cut]
  ·have ep:partsOf f (.node wf wv wk)=[.node wf wv wk]:=by unfold partsOf;rw[if_neg (show¬(T.node wf wv wk).f=f from c)]
   rw[ep]at htk;have c2:(wf==f)=false:=by simpa using c
   simp only[qaa,List.map_cons,List.map_nil]at htk;rcases hg with rfl|rfl<;>simp only[qkd]at htk hap<;>
    simp[qqN,qeT,qeS,qeR,qeQ,qeP,qeO,qeN,qeM,qeL,qc8,qdF,qeK,qc7,qc0,qcZ,qcY,qcX,qcW,qcV,qcU,qcT,qcS,qdE,qdD,qcQ,qcR,h2,h3,c2,htk,hap,hr,hk,hk1,hk2,hk3,hQ,hp0,hp1,hz,ht,get_at,qbb,qcu,qaS,qbg,qcP,splice,cut]
 |inr r=>
  rw[hc]at htk hSN;have hc2:∃r2,takeN ts (partsOf f (.node wf wv wk))= .inr r2:=by
   cases hn:takeN ts (partsOf f (.node wf wv wk))with
   |inl r2=>rw[hn]at hSN;cases hSN
   |inr r2=>exact⟨_,rfl⟩
  obtain⟨r2,hr2⟩:=hc2;rw[hno r2 hr2]
  by_cases c:wf=f
  ·have ep:partsOf f (.node wf wv wk)=wk:=by unfold partsOf;rw[if_pos (show(T.node wf wv wk).f=f from c)];rfl
   rw[ep]at htk;subst c;rcases hg with rfl|rfl<;>simp only[qkd]at htk<;>
    simp[qqN,qeT,qeS,qeR,qeQ,qeP,qeO,qeN,qeM,qeL,qc8,qdF,qeK,qc7,qc0,qcZ,qcY,qcX,qcW,qcV,qcU,qcT,qcS,qdE,qdD,qcQ,qcR,h2,h3,htk,hk,hk1,hk2,hk3,hp0,hp1,hz,ht,get_at,qbb,qcu,qaS,qbg,qcP,splice,cut]
  ·have ep:partsOf f (.node wf wv wk)=[.node wf wv wk]:=by unfold partsOf;rw[if_neg (show¬(T.node wf wv wk).f=f from c)]
   rw[ep]at htk;have c2:(wf==f)=false:=by simpa using c
   simp only[qaa,List.map_cons,List.map_nil]at htk;rcases hg with rfl|rfl<;>simp only[qkd]at htk<;>
    simp[qqN,qeT,qeS,qeR,qeQ,qeP,qeO,qeN,qeM,qeL,qc8,qdF,qeK,qc7,qc0,qcZ,qcY,qcX,qcW,qcV,qcU,qcT,qcS,qdE,qdD,qcQ,qcR,h2,h3,c2,htk,hk,hk1,hk2,hk3,hp0,hp1,hz,ht,get_at,qbb,qcu,qaS,qbg,qcP,splice,cut]
end
theorem tA2{α:Type}{B:List α}{N:Nat}(h:B.length=N)(a b:α)(r:List α):(B++a::b::r).take (N+2)=B++[a,b]:=by
 subst h;rw[show B++a::b::r=(B++[a,b])++r by simp,List.take_left' (by simp)]
theorem sA3{α:Type}{B:List α}{N:Nat}(h:B.length=N)(a b c d v:α)(r:List α):(B++a::b::c::d::r).set (N+3) v=B++a::b::c::v::r:=by subst h;rw[List.set_append_right _ _ (by omega),show B.length+3-B.length=3 by omega];rfl
theorem qtq(f:Int)(p:T)(ps ts:List T)(rest:List Gl)(u:List Bd)(k:Nat)(Qs:Nat->qao)(N:Nat)(hN:∀i,(Qs i).length=N)(hv:p.f≠-1)(hk:k<N)(hl:rest.length<=1000000000)(hp:ps.length<=1000000000)(htl:ts.length<=1000000000)
 (hrec:∀i,i<ts.length->∀e,qac XV 310 [.ptr k 0,.d (qaH (qb1 p (tAt ts i)::qa7 f ps (qbj ts i)::rest)),.d (binds .sub u)] (Qs i++e)=some (.d (.tup []),Qs (i+1)++e)):
 qac XV 311 [.ptr k 0,.d (Gl.mk true f (p::ps) ts).encR,.d (qaH rest),.d (binds .sub u)] (Qs 0)=some (.d (.tup []),Qs ts.length):=by
 obtain⟨pf,pv,pk⟩:=p;simp only[T.qaW]at hv;have hv2:(pf== -1)=false:=by simpa using hv
 rw[qah XV _ _ _ qqN rfl qhC rfl];have hk1:k<N+1:=by omega
 have hk2:k<N+2:=by omega
 have hk4:k<N+4:=by omega
 have n1:¬(N+2<=N):=by omega
 have n2:¬(N+2<=N+1):=by omega
 have n3:¬(N+3<=N):=by omega
 have n4:¬(N+3<=N+1):=by omega
 have n5:¬(N+3<=N+2):=by omega
 have e2:N+1+1=N+2:=rfl;have e3:N+2+1=N+3:=rfl;have h:=qal (X:=XV) (T:=XV.lin 311) (L:=N+2) (live:=[0,2,3,5,8,9,17]) (b:=qwx) (n:=ts.length) (γ:=Nat)
  (st:=fun(_:Unit) i=>⟨[(0,.ptr k 0),(2,.d (qaH rest)),(3,.d (binds .sub u)),(5,.ptr N 0),(8,.ptr (N+1) 0),(9,.d (qaa .sub ps)),(17,.d (.int .i64 i))],
   Qs i++[some [.d (.int .i64 f),.d (qaa .sub (.node pf pv pk::ps)),.d (qaa .sub ts)],some [.d (.int .i64 pf),.d (.int .i64 pv),.d (qaa .sub pk)]]⟩) (step:=qcr)
  (F:=fun _=>(.exit 2,⟨[(0,.ptr k 0),(2,.d (qaH rest)),(3,.d (binds .sub u)),(5,.ptr N 0),(8,.ptr (N+1) 0),(9,.d (qaa .sub ps)),(17,.d (.int .i64 ts.length)),(126,.d (.bool false))],
   Qs ts.length++[some [.d (.int .i64 f),.d (qaa .sub (.node pf pv pk::ps)),.d (qaa .sub ts)],some [.d (.int .i64 pf),.d (.int .i64 pv),.d (qaa .sub pk)]]⟩)) (R:=fun _=>(.ret,⟨[],[]⟩))
  (fun a=>⟨by simp,by
   have hq:=hN ts.length;simp[qwx,qeT,qeS,qeR,qeQ,qeP,qeO,qeN,qeM,qeL,qc8,qdF,qeK,qc7,qc0,qcZ,qcY,qcX,qcW,qcV,qcU,qcT,qcS,qdE,qdD,qcQ,qcR,gA0 hq,gA1 hq,hq,hk1,hk2]⟩)
  (fun a i hi=>by
   have hw:=qai (n:=i) (by omega);have hq:=hN i;have hq1:=hN (i+1);have hwo:=qjW ts i hi (by omega);have htt:=qan hi;have hr:=hrec i hi;generalize hti:tAt ts i=t at*
   obtain⟨tf,tv,tk⟩:=t;have hr:=hr [some [.d (.int .i64 f),.d (qaa .sub (.node pf pv pk::ps)),.d (qaa .sub ts)],some [.d (.int .i64 pf),.d (.int .i64 pv),.d (qaa .sub pk)],some [.d (.int .i64 (-1)),.d (.sl .sub [(T.node pf pv pk).enc .sub]),.d (.sl .sub [(T.node tf tv tk).enc .sub])],some [.d (.int .i64 f),.d (qaa .sub ps),.d (qaa .sub (qbj ts i))]];have hEP:(qb1 (.node pf pv pk) (.node tf tv tk)).encR= .agg [.int .i64 (-1),.sl .sub [(T.node pf pv pk).enc .sub],.sl .sub [(T.node tf tv tk).enc .sub]]:=rfl;have hEM:(qa7 f ps (qbj ts i)).encR= .agg [.int .i64 f,qaa .sub ps,qaa .sub (qbj ts i)]:=rfl;simp only[qaH,List.map_cons,hEM,hEP]at hr;have hap:=qsT [.agg [.int .i64 (-1),.sl U [(T.node pf pv pk).enc .sub],.sl U [(T.node tf tv tk).enc .sub]],.agg [.int .i64 f,qaa .sub ps,DV.sl U ((qbj ts i).map (T.enc .sub))]] rest .sub (by simp) (by simp;omega);unfold qcr;refine⟨_,by simp[qwx,qeT,qeS,qeR,qeQ,qeP,qeO,qeN,qeM,qeL,qc8,qdF,qeK,qc7,qc0,qcZ,qcY,qcX,qcW,qcV,qcU,qcT,qcS,qdE,qdD,qcQ,qcR,hi,hw,cut,htt,hwo,hap,hr,gA0 hq,gA1 hq,gA2 hq,gA3 hq,sA0 hq,sA1 hq,sA2 hq,sA3 hq,hk1,hk2,hk4,hq,hq1,n1,n2,n3,n4,n5,e2,e3,splice];rfl,?_⟩;simp[qad,qab,hk2,tA2 hq1,hq1])
  ts.length () 0 ⟨[(0,.ptr k 0),(2,.d (qaH rest)),(3,.d (binds .sub u)),(5,.ptr N 0),(8,.ptr (N+1) 0),(9,.d (qaa .sub ps)),(17,.d (.int .i64 0))],
   Qs 0++[some [.d (.int .i64 f),.d (qaa .sub (.node pf pv pk::ps)),.d (qaa .sub ts)],some [.d (.int .i64 pf),.d (.int .i64 pv),.d (qaa .sub pk)]]⟩ (by omega) (by simp[qad,qab,hk2,tA2 (hN 0),hN 0])
 rw[qkN]at h;simp only[qCe]at h;have hq:=hN 0;have hq2:=hN ts.length;have hp0:¬((ps.length:Int)+1=0):=by omega
 have hp1:(((ps.length:Int)+1)==0)=false:=by simp;omega
 have hz:(0:Int)<=(ps.length:Int):=by omega
 have ht:List.take ps.length (ps.map (T.enc .sub))=ps.map (T.enc .sub):=List.take_of_length_le (by simp);simp[qqN,qeT,qeS,qeR,qeQ,qeP,qeO,qeN,qeM,qeL,qc8,qdF,qeK,qc7,qc0,qcZ,qcY,qcX,qcW,qcV,qcU,qcT,qcS,qdE,qdD,qcQ,qcR,hv2,hp0,hp1,hz,ht,hk,hk1,hk2,hq,hq2,gA0 hq,gA1 hq,gA2 hq,sA0 hq,sA1 hq,n1,n2,splice,cut];rw[h];simp[qqN,qeT,qeS,qeR,qeQ,qeP,qeO,qeN,qeM,qeL,qc8,qdF,qeK,qc7,qc0,qcZ,qcY,qcX,qcW,qcV,qcU,qcT,qcS,qdE,qdD,qcQ,qcR,hk,hk1,hk2,hq2]
theorem qtr(s:List SymL)(hs:s.length<=1099511627776)(f:Int)(pv:Int)(pk ps ts:List T)(rest:List Gl)(u:List Bd)(k:Nat)(Qs:Nat->qao)(N:Nat)(hN:∀i,(Qs i).length=N)(hk:k<N)(hl:rest.length<=1000000000)(hp:ps.length<=1000000000)(htl:ts.length<=12)(hu:u.length<=549755813888)
 (tl:Nat->List AV) (hbx:∀i,(Qs i)[k]?=some (some (.d (sg s)::tl i))) (hcn:∀m,qcm (onB ts m ts.length)<=1099511627776)
 (hb:qbV u pv=none)
 (hrec:∀i,i+1<2^ts.length->∀e,qac XV 310 [.ptr k 0,.d (qaH (qa7 f ps (qfD ts (i+1) ts.length)::rest)),.d (binds .sub (qgT u pv (qdN s f (onB ts (i+1) ts.length))))] (Qs i++e)=some (.d (.tup []),Qs (i+1)++e)):
 qac XV 311 [.ptr k 0,.d (Gl.mk true f (.node (-1) pv pk::ps) ts).encR,.d (qaH rest),.d (binds .sub u)] (Qs 0)=some (.d (.tup []),Qs (2^ts.length-1)):=by
 rw[qah XV _ _ _ qqN rfl qhC rfl];have h2:=qfy u pv (by omega);rw[hb]at h2;have hpow:1<=2^ts.length:=Nat.one_le_two_pow;have h4096:2^ts.length<=2^12:=Nat.pow_le_pow_right (by omega) htl;have hsh:=qtp ts.length (by omega);have hmin:=qFV ts.length htl;have hk1:k<N+1:=by omega
 have hk2:k<N+2:=by omega
 have n1:¬(N+2<=N):=by omega
 have n2:¬(N+2<=N+1):=by omega
 have nk:¬(N+2<=k):=by omega
 have e2:N+1+1=N+2:=rfl;have h:=qal (X:=XV) (T:=XV.lin 311) (L:=N+2) (live:=[0,2,3,5,8,9,10]) (b:=qwy) (n:=2^ts.length-1) (γ:=Nat)
  (st:=fun(_:Unit) i=>⟨[(0,.ptr k 0),(2,.d (qaH rest)),(3,.d (binds .sub u)),(5,.ptr N 0),(8,.ptr (N+1) 0),(9,.d (qaa .sub ps)),(10,.d (.int .i64 (i+1:Nat)))],
   Qs i++[some [.d (.int .i64 f),.d (qaa .sub (.node (-1) pv pk::ps)),.d (qaa .sub ts)],some [.d (.int .i64 (-1)),.d (.int .i64 pv),.d (qaa .sub pk)]]⟩) (step:=qcr)
  (F:=fun _=>(.exit 0,⟨[(0,.ptr k 0),(2,.d (qaH rest)),(3,.d (binds .sub u)),(5,.ptr N 0),(8,.ptr (N+1) 0),(9,.d (qaa .sub ps)),(10,.d (.int .i64 (2^ts.length-1+1:Nat))),(55,.d (.bool false))],
   Qs (2^ts.length-1)++[some [.d (.int .i64 f),.d (qaa .sub (.node (-1) pv pk::ps)),.d (qaa .sub ts)],some [.d (.int .i64 (-1)),.d (.int .i64 pv),.d (qaa .sub pk)]]⟩)) (R:=fun _=>(.ret,⟨[],[]⟩))
  (fun a=>⟨by simp,by
   have hlt:¬((2^ts.length-1+1:Nat):Int)<((2^ts.length:Nat):Int):=by omega
   have hq:=hN (2^ts.length-1);generalize ((2^ts.length:Nat):Int)=M at*
   generalize ((2^ts.length-1+1:Nat):Int)=m at*
   generalize Qs (2^ts.length-1)=Q at*
   simp[qwy,qeT,qeS,qeR,qeQ,qeP,qeO,qeN,qeM,qeL,qc8,qdF,qeK,qc7,qc0,qcZ,qcY,qcX,qcW,qcV,qcU,qcT,qcS,qdE,qdD,qcQ,qcR,hsh,hmin,hlt,gA0 hq,gA1 hq,hk1,hk2,hq]⟩)
  (fun a i hi=>by
   have hq:=hN i;have hq1:=hN (i+1);have hlt:((i+1:Nat):Int)<((2^ts.length:Nat):Int):=by omega
   have hw:=qai (n:=i+1) (by omega);have hbt:=qCl ts (i+1) (by omega) (by omega);obtain⟨d,hmk,hd⟩:=qtn s hs f (onB ts (i+1) ts.length) (hcn _);have hdc:=qJ7 hd;have hmi:=qlZ s f (onB ts (i+1) ts.length);have hcl:=hcn (i+1);obtain⟨xs,hxs,hadd⟩:=qv4 u pv (qdN s f (onB ts (i+1) ts.length)) hu (by omega);have hx2:xs.map (DV.clr∘DV.clr)=(qgT u pv (qdN s f (onB ts (i+1) ts.length))).map (Bd.enc .sub):=by rw[<-List.map_map,hxs,Bd.qex]
   have hr:=hrec i (by omega) [some [.d (.int .i64 f),.d (qaa .sub (.node (-1) pv pk::ps)),.d (qaa .sub ts)],some [.d (.int .i64 (-1)),.d (.int .i64 pv),.d (qaa .sub pk)]];have hEM:(qa7 f ps (qfD ts (i+1) ts.length)).encR= .agg [.int .i64 f,qaa .sub ps,qaa .sub (qfD ts (i+1) ts.length)]:=rfl;simp only[qaH,List.map_cons,hEM,binds]at hr;have hap:=qsT [.agg [.int .i64 f,qaa .sub ps,.sl U ((qfD ts (i+1) ts.length).map (T.enc .sub))]] rest .sub (by simp) (by simp;omega);have hg:∀e,(Qs i++e)[k]?=some (some (.d (sg s)::tl i)):=fun e=>by rw[ye_ (by omega)];exact hbx i
   have hx:∀h,(Qs i)[k]'h=some (.d (sg s)::tl i):=fun h=>by have:=hbx i;rw[List.getElem?_eq_getElem h]at this;simpa using this
   have hxx:∀e h,(Qs i++e)[k]'h=some (.d (sg s)::tl i):=fun e h=>by rw[List.getElem_append_left (by omega)];exact hx _
   have hki:k<(Qs i).length:=by omega
   generalize qgT u pv (qdN s f (onB ts (i+1) ts.length))=u2 at*
   generalize qdN s f (onB ts (i+1) ts.length)=mk at*
   generalize onB ts (i+1) ts.length=on at*
   generalize qfD ts (i+1) ts.length=off at*
   generalize ((2^ts.length:Nat):Int)=M at*
   generalize ((i+1:Nat):Int)=m at*
   generalize hm2:((i+1+1:Nat):Int)=m2 at*
   unfold qcr;refine⟨_,by simp[qwy,qeT,qeS,qeR,qeQ,qeP,qeO,qeN,qeM,qeL,qc8,qdF,qeK,qc7,qc0,qcZ,qcY,qcX,qcW,qcV,qcU,qcT,qcS,qdE,qdD,qcQ,qcR,hsh,hmin,hlt,hw,cut,hbt,hmk,hdc,hadd,hx2,hap,hr,hg,hx,hxx,hki,gA0 hq,gA1 hq,gA2 hq,sA0 hq,sA1 hq,hk1,hk2,hq,hq1,n1,n2,nk,e2,splice];rfl,?_⟩;simp[qad,qab,hk2,tA2 hq1,hq1];omega)
  (2^ts.length-1) () 0 ⟨[(0,.ptr k 0),(2,.d (qaH rest)),(3,.d (binds .sub u)),(5,.ptr N 0),(8,.ptr (N+1) 0),(9,.d (qaa .sub ps)),(10,.d (.int .i64 1))],
   Qs 0++[some [.d (.int .i64 f),.d (qaa .sub (.node (-1) pv pk::ps)),.d (qaa .sub ts)],some [.d (.int .i64 (-1)),.d (.int .i64 pv),.d (qaa .sub pk)]]⟩ (by omega) (by simp[qad,qab,hk2,tA2 (hN 0),hN 0])
 rw[qkN]at h;simp only[qCe]at h;have hq:=hN 0;have hq2:=hN (2^ts.length-1);have hp0:¬((ps.length:Int)+1=0):=by omega
 have hp1:(((ps.length:Int)+1)==0)=false:=by simp;omega
 have hz:(0:Int)<=(ps.length:Int):=by omega
 have ht:List.take ps.length (ps.map (T.enc .sub))=ps.map (T.enc .sub):=List.take_of_length_le (by simp);simp[qqN,qeT,qeS,qeR,qeQ,qeP,qeO,qeN,qeM,qeL,qc8,qdF,qeK,qc7,qc0,qcZ,qcY,qcX,qcW,qcV,qcU,qcT,qcS,qdE,qdD,qcQ,qcR,h2,hp0,hp1,hz,ht,hk,hk1,hk2,hq,hq2,gA0 hq,gA1 hq,gA2 hq,sA0 hq,sA1 hq,n1,n2,splice,cut];rw[h];simp[qqN,qeT,qeS,qeR,qeQ,qeP,qeO,qeN,qeM,qeL,qc8,qdF,qeK,qc7,qc0,qcZ,qcY,qcX,qcW,qcV,qcU,qcT,qcS,qdE,qdD,qcQ,qcR,hk,hk1,hk2,hq2]
structure RS(S:MS)(ws:List (List Bd))(fuel:Int)(b:Nat):Prop where
 lo: -(b:Int)<=fuel
 hi:fuel<=20000
 l:ws.length<=61
 w:∀w,w∈ws->small w
 nd:S.done=false->ws=S.ways/\fuel=20000-(S.steps:Int)
 d:S.done=true->fuel<0\/60<ws.length
theorem RS.mono{S:MS}{ws:List (List Bd)}{fuel:Int}{b c:Nat}(h:RS S ws fuel b)(hbc:b<=c):RS S ws fuel c:=
 ⟨by have:=h.lo;omega,h.hi,h.l,h.w,h.nd,h.d⟩
theorem chain{α:Type}(R:Nat->α->α->Prop)(I:Nat->α->Prop)(a0:α)(h0:I 0 a0):∀n,(∀i a,i<n->I i a->∃a',R i a a'/\I (i+1) a')->∃f:Nat->α,f 0=a0/\(∀i,i<n->R i (f i) (f (i+1)))/\∀i,i<=n->I i (f i)
 |0,_=>⟨fun _=>a0,rfl,fun i hi=>absurd hi (Nat.not_lt_zero i),fun i hi=>by
  have:i=0:=by omega
  subst this;exact h0⟩
 |n+1,hs=>by
  obtain⟨f,f0,f1,f2⟩:=chain R I a0 h0 n fun i a hi=>hs i a (by omega)
  obtain⟨a',hR,hI⟩:=hs n (f n) (by omega) (f2 n (Nat.le_refl _));refine⟨fun j=>if j=n+1 then a' else f j,?_,fun i hi=> ?_,fun i hi=> ?_⟩
  ·show(if 0=n+1 then a' else f 0)=a0
   rw[if_neg (by omega)];exact f0
  ·show R i (if i=n+1 then a' else f i) (if i+1=n+1 then a' else f (i+1))
   rw[if_neg (by omega)]
   by_cases c:i=n
   ·subst c;rw[if_pos rfl];exact hR
   ·rw[if_neg (by omega)];exact f1 i (by omega)
  ·show I i (if i=n+1 then a' else f i)
   by_cases c:i=n+1
   ·subst c;rw[if_pos rfl];exact hI
   ·rw[if_neg c];exact f2 i (by omega)
theorem qHQ(s:List SymL)(hs:s.length<=1099511627776):∀(n:Nat) (gl:List Gl) (u:List Bd) (S:MS) (ws:List (List Bd)) (fuel:Int) (b:Nat) (pre:qao),Inv s gl u->qef gl<n->n<=1000000000->S.good->RS S ws fuel b->b<=1000000000000000->
 ∃q:List (List Bd)×Int,(∀r,qac XV 310 [.ptr pre.length 0,.d (qaH gl),.d (binds .sub u)] (pre++some (rB s ws fuel)::r)=some (.d (.tup []),pre++some (rB s q.1 q.2)::r))/\RS (S.run (evs s n gl u)) q.1 q.2 (max (b+1) (4096*n+1))
 |0,gl,u,S,ws,fuel,b,pre,hi,hn,_,_,_,_=>absurd hn (Nat.not_lt_zero _)
 |n+1,gl,u,S,ws,fuel,b,pre,hi,hn,hnb,hS,hR,hb=>by
  have hlo:=hR.lo;have hhi:=hR.hi
  by_cases hd:S.done=true
  ·rw[S.qf5 hd]
   have h1:=hR.d hd;exact⟨(ws,fuel-1),fun r=>qCw s ws fuel gl u pre r (by omega) (by omega) hhi,⟨by(try simp only);omega,by(try simp only);omega,hR.l,hR.w,fun h=>by rw[hd]at h;(cases h),fun _=>by(try simp only);omega⟩⟩
  have hd:S.done=false:=by simpa using hd
  obtain⟨hws,hfu⟩:=hR.nd hd;subst hws
  by_cases ho:20000<S.steps+1
  ·have hsd:S.step.done=true:=by unfold MS.step MS.done;simp[ho]
   have he:∃es,evs s (n+1) gl u=none::es:=by
    cases gl with
    |nil=>exact⟨_,qmh ..⟩
    |cons g rest=>exact⟨_,qh8 ..⟩
   obtain⟨es,he⟩:=he;rw[he,MS.qfi,MS.qgP S hd,S.step.qf5 hsd];exact⟨(S.ways,fuel-1),fun r=>qCw s S.ways fuel gl u pre r (by omega) (by omega) hhi,⟨by(try simp only);omega,by(try simp only);omega,hR.l,hR.w,fun h=>by rw[hsd]at h;(cases h),fun _=>by(try simp only);omega⟩⟩
  have ho:S.steps+1<=20000:=by omega
  have hf1:¬fuel-1<0:=by omega
  have hsm:=hi.small;have hdd:=hd;unfold MS.done at hdd;simp only[Bool.or_eq_false_iff,decide_eq_false_iff_not]at hdd;have hwl:S.ways.length<=60:=by omega
  have hSd:S.step.done=false:=by
   unfold MS.step MS.done;simp only[Bool.or_eq_false_iff,decide_eq_false_iff_not];exact⟨by omega,hdd.2⟩
  have hSg:S.step.good:=by rw[<-MS.qgP S hd];exact hS.ev none fun _ h=>by cases h
  have hR1:RS S.step S.ways (fuel-1) 0:=⟨by omega,by omega,hR.l,hR.w,fun _=>⟨rfl,by unfold MS.step;simp only;omega⟩,fun h=>by rw[hSd]at h;cases h⟩
  match gl,hi,hn with
  | [],hi,hn=>
   rw[qmh,MS.qfi,MS.qgP S hd,MS.qfi,MS.quR _ hSd];have hg2:=hSg.ev (some u) (fun w h=>by simp only[Option.some.injEq]at h;subst h;exact hsm);rw[MS.quR _ hSd]at hg2;refine⟨(if qv8 S.ways u then S.ways else S.ways++[u],fuel-1),fun r=>qOK s S.ways fuel u pre r hf1 hwl hhi hR.w hsm,?_⟩;have e:qv8 S.step.ways u=qv8 S.ways u:=rfl;rw[e]at hg2⊢
   cases hh:qv8 S.ways u with
   |true=>
    simp only[if_true];exact hR1.mono (by omega)
   |false=>
    rw[hh]at hg2;simp only[Bool.false_eq_true,if_false]at hg2⊢
    refine⟨by(try simp only);omega,by(try simp only);omega,hg2.l,hg2.w,fun _=>⟨rfl,hR1.nd hSd|>.2⟩,fun h=> ?_⟩;have hso:S.step.over=false:=by unfold MS.step;simp only;simpa using ho
    show fuel-1<0\/60<(S.ways++[u]).length;have h':(S.step.over||decide (60<(S.ways++[u]).length))=true:=h;rw[hso,Bool.false_or,decide_eq_true_eq]at h';exact .inr h'
  |g::rest,hi,hn=>
   have IH:∀(c:List Gl×List Bd),c∈qbp s (g::rest) u->∀(S':MS) (ws':List (List Bd)) (fuel':Int) (b':Nat),S'.good->RS S' ws' fuel' b'->b'<=1000000000000000->
    ∃q:List (List Bd)×Int,(∀r' e,qac XV 310 [.ptr pre.length 0,.d (qaH c.1),.d (binds .sub c.2)] ((pre++some (rB s ws' fuel')::r')++e)=some (.d (.tup []),(pre++some (rB s q.1 q.2)::r')++e))/\RS (S'.run (evs s n c.1 c.2)) q.1 q.2 (max (b'+1) (4096*n+1)):=fun c hc S' ws' fuel' b' hS' hR' hb'=>by
    obtain⟨q,h1,h2⟩:=qHQ s hs n c.1 c.2 S' ws' fuel' b' pre (qeZ hi c hc).1 (by have:=(qeZ hi c hc).2;omega) (by omega) hS' hR' hb';exact⟨q,fun r' e=>by rw[qb4,qb4];exact h1 (r'++e),h2⟩
   have IG:∀(c:List Gl×List Bd),c∈qbp s (g::rest) u->∀(S':MS),S'.good->(S'.run (evs s n c.1 c.2)).good:=fun c hc S' hS'=>
    MS.good.run _ hS' fun w hw=>qmg n (qeZ hi c hc).1 hw
   have IH1:∀(c:List Gl×List Bd),qbp s (g::rest) u=[c]->∃q:List (List Bd)×Int,(∀r' e,qac XV 310 [.ptr pre.length 0,.d (qaH c.1),.d (binds .sub c.2)] ((pre++some (rB s S.ways (fuel-1))::r')++e)=some (.d (.tup []),(pre++some (rB s q.1 q.2)::r')++e))/\RS (S.step.run ((qbp s (g::rest) u).flatMap fun c=>evs s n c.1 c.2)) q.1 q.2 (max (b+1) (4096*(n+1)+1)):=fun c hc=>by
    obtain⟨q,h1,h2⟩:=IH c (by rw[hc];exact List.mem_singleton.2 rfl) S.step S.ways (fuel-1) 0 hSg hR1 (by omega);rw[hc];simp only[List.flatMap_cons,List.flatMap_nil,List.append_nil];exact⟨q,h1,h2.mono (by omega)⟩
   have IH0:qbp s (g::rest) u=[]->RS (S.step.run ((qbp s (g::rest) u).flatMap fun c=>evs s n c.1 c.2)) S.ways (fuel-1) (max (b+1) (4096*(n+1)+1)):=fun hc=>by
    rw[hc];exact hR1.mono (by omega)
   have hgl:=hi.g _ (List.mem_cons_self ..);have hm:=hi.m;rw[qaN]at hm;have hrl:=qiS rest;have hlen:∀(w':List (List Bd)) (f':Int) (r':qao),(pre++some (rB s w' f')::r').length=pre.length+r'.length+1:=fun w' f' r'=>by simp;omega
   have hkl:∀(w':List (List Bd)) (f':Int) (r':qao),pre.length<(pre++some (rB s w' f')::r').length:=fun w' f' r'=>by rw[hlen];omega
   rw[qh8,MS.qfi,MS.qgP S hd];obtain⟨mn,f,ps,ts⟩:=g;cases mn with
   |true=>
    obtain⟨htl,hbl,_,_⟩:=hgl.2.2.2.1 rfl;have hcn:=hgl.1;simp only at htl hcn hbl;have hf0:0<=f:=(qe7 (qws hbl)).1;have key:∀q:List (List Bd)×Int,(∀r',qac XV 311 [.ptr pre.length 0,.d (Gl.mk true f ps ts).encR,.d (qaH rest),.d (binds .sub u)] (pre++some (rB s S.ways (fuel-1))::r')=some (.d (.tup []),pre++some (rB s q.1 q.2)::r'))->
     ∀r,qac XV 310 [.ptr pre.length 0,.d (qaH (⟨true,f,ps,ts⟩::rest)),.d (binds .sub u)] (pre++some (rB s S.ways fuel)::r)=some (.d (.tup []),pre++some (rB s q.1 q.2)::r):=fun q hq r=>
     qKd s S.ways fuel f ps ts rest u pre r _ hf1 hwl hhi hf0 (by omega) hq
    cases ps with
    |nil=>
     by_cases c:ts.length=0
     ·obtain⟨q,h1,h2⟩:=IH1 (rest,u) (by simp[qbp,c])
      exact⟨q,key q fun r'=>qm7 f ts rest u _ _ _ (hkl ..) (by simp only[hlen]) (fun _=>h1 r') (fun h=>absurd c h),h2⟩
     ·exact⟨(S.ways,fuel-1),key (S.ways,fuel-1) fun r'=>qm7 f ts rest u _ _ _ (hkl ..) (by simp only[hlen]) (fun h=>absurd h c) (fun _=>rfl),IH0 (by simp[qbp,c])⟩
    |cons p ps=>
     have hpl:ps.length<=1000000000:=by
      have e:glW ⟨true,f,p::ps,ts⟩=1+3*(p.inner+1+qcm ps):=by rw[<-qaJ];rfl
      have:=qcN ps;omega
     by_cases c:p.f= -1
     ·cases hb:qbV u p.v with
      |some j=>
       cases htk:takeN ts (partsOf f (bAt u j).t)with
       |inl r0=>
        obtain⟨q,h1,h2⟩:=IH1 (qa7 f ps r0::rest,u) (by simp[qbp,c,hb,htk]);exact⟨q,key q fun r'=>qkO f ts rest u _ _ _ p ps j c hb hsm (hkl ..) (by simp only[hlen]) (by omega) hpl (by omega) (fun x hx=>by have:=qbi hx;omega) (fun r2 h9=>by rw[htk]at h9;simp only[Sum.inl.injEq]at h9;subst h9;exact h1 r') (fun r2 h9=>by rw[htk]at h9;cases h9),h2⟩
       |inr r0=>
        exact⟨(S.ways,fuel-1),key (S.ways,fuel-1) fun r'=>qkO f ts rest u _ _ _ p ps j c hb hsm (hkl ..) (by simp only[hlen]) (by omega) hpl (by omega) (fun x hx=>by have:=qbi hx;omega) (fun r2 h9=>by rw[htk]at h9;cases h9) (fun r2 h9=>rfl),IH0 (by simp[qbp,c,hb,htk])⟩
      |none=>
       obtain⟨pf,pv,pk⟩:=p;simp only[T.qaW,T.qdR]at c hb;subst c;have hnx:qbp s (⟨true,f,.node (-1) pv pk::ps,ts⟩::rest) u=(List.range (2^ts.length-1)).map fun m=>(qa7 f ps (qfD ts (m+1) ts.length)::rest,qgT u pv (qdN s f (onB ts (m+1) ts.length))):=by simp[qbp,hb]
       have hmem:∀i,i<2^ts.length-1->(qa7 f ps (qfD ts (i+1) ts.length)::rest,qgT u pv (qdN s f (onB ts (i+1) ts.length)))∈qbp s (⟨true,f,.node (-1) pv pk::ps,ts⟩::rest) u:=fun i hi=>by
        rw[hnx];exact List.mem_map.2 ⟨i,List.mem_range.2 hi,rfl⟩
       have h4096:2^ts.length<=2^12:=Nat.pow_le_pow_right (by omega) htl;rw[hnx,List.flatMap_map];obtain⟨F,hF⟩:∃F:Nat->List (Option (List Bd)),F=fun m=>evs s n (qa7 f ps (qfD ts (m+1) ts.length)::rest) (qgT u pv (qdN s f (onB ts (m+1) ts.length))):=⟨_,rfl⟩
       have hst:∀i,S.step.run ((List.range (i+1)).flatMap F)=(S.step.run ((List.range i).flatMap F)).run (F i):=fun i=>by rw[qcb,MS.qg5]
       obtain⟨q,q0,q1,q2⟩:=chain (α:=List (List Bd)×Int)
        (fun i a a'=>∀r' e,qac XV 310 [.ptr pre.length 0,.d (qaH (qa7 f ps (qfD ts (i+1) ts.length)::rest)),.d (binds .sub (qgT u pv (qdN s f (onB ts (i+1) ts.length))))] ((pre++some (rB s a.1 a.2)::r')++e)=some (.d (.tup []),(pre++some (rB s a'.1 a'.2)::r')++e))
        (fun i a=>(S.step.run ((List.range i).flatMap F)).good/\RS (S.step.run ((List.range i).flatMap F)) a.1 a.2 (4096*n+1+i)) (S.ways,fuel-1) ⟨hSg,hR1.mono (by omega)⟩ (2^ts.length-1) (fun i a hi ha=>by
         obtain⟨q,h1,h2⟩:=IH _ (hmem i hi) _ a.1 a.2 _ ha.1 ha.2 (by omega);refine⟨q,h1,?_,?_⟩
         ·rw[hst,hF];have:=IG _ (hmem i hi) _ ha.1;rwa[hF]at this
         ·rw[hst,hF]
          rw[hF]at h2;exact h2.mono (by omega))
       have hle:4096*n+1+(2^ts.length-1)<=max (b+1) (4096*(n+1)+1):=by
        generalize 2^ts.length=m at*
        have:m<=4096:=h4096;refine Nat.le_trans ?_ (Nat.le_max_right _ _);omega
       have hq2:=(q2 _ (Nat.le_refl _)).2;refine⟨q (2^ts.length-1),key _ fun r'=> ?_,by rw[<-hF];exact hq2.mono hle⟩;have hx:=qtr s hs f pv pk ps ts rest u pre.length (fun i=>pre++some (rB s (q i).1 (q i).2)::r') (pre.length+r'.length+1)
        (fun i=>hlen _ _ _) (by omega) (by omega) hpl htl (by omega) (fun i=>(rB s (q i).1 (q i).2).tail) (fun i=>by simp only[quq];rfl)
        (fun m=>Nat.le_trans (qg0 (qpP ts m)) (by omega)) hb (fun i h1 e=>q1 i (by omega) r' e)
       simp only[q0]at hx;exact hx
     ·have hnx:qbp s (⟨true,f,p::ps,ts⟩::rest) u=(List.range ts.length).map fun i=>(qb1 p (tAt ts i)::qa7 f ps (qbj ts i)::rest,u):=by simp[qbp,c]
      have hmem:∀i,i<ts.length->(qb1 p (tAt ts i)::qa7 f ps (qbj ts i)::rest,u)∈qbp s (⟨true,f,p::ps,ts⟩::rest) u:=fun i hi=>by
       rw[hnx];exact List.mem_map.2 ⟨i,List.mem_range.2 hi,rfl⟩
      rw[hnx,List.flatMap_map];obtain⟨F,hF⟩:∃F:Nat->List (Option (List Bd)),F=fun i=>evs s n (qb1 p (tAt ts i)::qa7 f ps (qbj ts i)::rest) u:=⟨_,rfl⟩
      have hst:∀i,S.step.run ((List.range (i+1)).flatMap F)=(S.step.run ((List.range i).flatMap F)).run (F i):=fun i=>by rw[qcb,MS.qg5]
      obtain⟨q,q0,q1,q2⟩:=chain (α:=List (List Bd)×Int)
       (fun i a a'=>∀r' e,qac XV 310 [.ptr pre.length 0,.d (qaH (qb1 p (tAt ts i)::qa7 f ps (qbj ts i)::rest)),.d (binds .sub u)] ((pre++some (rB s a.1 a.2)::r')++e)=some (.d (.tup []),(pre++some (rB s a'.1 a'.2)::r')++e))
       (fun i a=>(S.step.run ((List.range i).flatMap F)).good/\RS (S.step.run ((List.range i).flatMap F)) a.1 a.2 (4096*n+1+i)) (S.ways,fuel-1) ⟨hSg,hR1.mono (by omega)⟩ ts.length (fun i a hi ha=>by
        obtain⟨q,h1,h2⟩:=IH _ (hmem i hi) _ a.1 a.2 _ ha.1 ha.2 (by omega);refine⟨q,h1,?_,?_⟩
        ·rw[hst,hF];have:=IG _ (hmem i hi) _ ha.1;rwa[hF]at this
        ·rw[hst,hF]
         rw[hF]at h2;exact h2.mono (by omega))
      have hle:4096*n+1+ts.length<=max (b+1) (4096*(n+1)+1):=by
       refine Nat.le_trans ?_ (Nat.le_max_right _ _);omega
      have hq2:=(q2 _ (Nat.le_refl _)).2;refine⟨q ts.length,key _ fun r'=> ?_,by rw[<-hF];exact hq2.mono hle⟩;have hx:=qtq f p ps ts rest u pre.length (fun i=>pre++some (rB s (q i).1 (q i).2)::r') (pre.length+r'.length+1)
       (fun i=>hlen _ _ _) c (by omega) (by omega) hpl (by omega) (fun i h1 e=>q1 i h1 r' e)
      simp only[q0]at hx;exact hx
   |false=>
    obtain⟨p,t,hp,ht⟩:=hgl.2.2.2.2 rfl;simp only at hp ht;subst hp ht;have hti:t.inner<=1000:=by have:=hgl.1;simp only[qaJ]at this;omega
    have hpi:p.inner<=1000000:=by
     have e:glW ⟨false,f,[p],[t]⟩=3*p.inner+2:=rfl;omega
    have one:∀(q:List (List Bd)×Int) (c:List Gl×List Bd),(∀r' e,qac XV 310 [.ptr pre.length 0,.d (qaH c.1),.d (binds .sub c.2)] ((pre++some (rB s S.ways (fuel-1))::r')++e)=some (.d (.tup []),(pre++some (rB s q.1 q.2)::r')++e))->∀r',qac XV 310 [.ptr pre.length 0,.d (qaH c.1),.d (binds .sub c.2)] (pre++some (rB s S.ways (fuel-1))::r')=some (.d (.tup []),pre++some (rB s q.1 q.2)::r'):=fun q c h r'=>by
     have:=h r' [];simpa using this
    by_cases c:p.f= -1
    ·cases hb:qbV u p.v with
     |none=>
      obtain⟨q,h1,h2⟩:=IH1 (rest,qgT u p.v t) (by simp[qaZ,c,hb]);exact⟨q,fun r=>qKf s S.ways fuel f p t rest u pre r _ hf1 hwl hhi c hb (by omega) (by omega) (by omega) (one q _ h1),h2⟩
     |some j=>
      cases hcm:(T.cmp (bAt u j).t t==0)with
      |true=>
       have hcm2:=hcm;rw[beq_iff_eq]at hcm2;obtain⟨q,h1,h2⟩:=IH1 (rest,u) (by simp[qaZ,c,hb,hcm2]);exact⟨q,fun r=>qF7 s S.ways fuel f p t rest u pre r _ hf1 hwl hhi j c hb hsm (by omega) hcm (by omega) (one q _ h1),h2⟩
      |false=>
       have hcm2:=hcm;rw[beq_eq_false_iff_ne]at hcm2;exact⟨(S.ways,fuel-1),fun r=>qCv s S.ways fuel f p t rest u pre r hf1 hwl hhi j c hb hsm (by omega) hcm (by omega),IH0 (by simp[qaZ,c,hb,hcm2])⟩
    ·by_cases c2:p.f=t.f
     ·cases hbl:qaK s p.f with
      |true=>
       obtain⟨q,h1,h2⟩:=IH1 (qa7 p.f p.kids t.kids::rest,u) (by rw[c2]at c hbl;simp[qaZ,c,c2,hbl]);exact⟨q,fun r=>qF8 s S.ways fuel f p t rest u pre r _ hf1 hwl hhi hs c c2 hbl (by omega) (one q _ h1),h2⟩
      |false=>
       have c3:p.kids.length=t.kids.length:=by
        have h1:=qgX (hgl.2.2.1 p (List.mem_singleton.2 rfl)) c;have h2:=qgX (hgl.2.1 t (List.mem_singleton.2 rfl)).2 (by rw[<-c2];exact c);rw[<-c2]at h2;exact qF2 h1.1 h2.1 hbl
       obtain⟨q,h1,h2⟩:=IH1 (qbd p.kids t.kids p.kids.length++rest,u) (by rw[c2]at c hbl;simp[qaZ,c,c2,hbl,c3]);exact⟨q,fun r=>qKe s S.ways fuel f p t rest u pre r _ hf1 hwl hhi hs c c2 hbl c3 (by have:=T.qg6 p;omega) (by omega) (one q _ h1),h2⟩
     ·exact⟨(S.ways,fuel-1),fun r=>qF6 s S.ways fuel f p t rest u pre r hf1 hwl hhi c c2 (by omega),IH0 (by simp[qaZ,c,c2])⟩
mutual
def T.nodes:T->List T
 | .node f v ks=> .node f v ks::T.nodess ks
def T.nodess:List T->List T
 | []=>[]
 |t::r=>t.nodes++T.nodess r
end
def qOO(s:List SymL)(u:List Bd)(t:T):T:=(qON u t).norm s
def getB(u:List Bd)(v:Int):Option T:=(u.find? fun b=>b.v==v).map Bd.t
def qTh(u w:List Bd):Prop:=∀v t,getB u v=some t->getB w v=some t
theorem qTh.refl(u:List Bd):qTh u u:=fun _ _ h=>h
def Cov(w:List Bd)(t:T):Prop:=∀x,x∈t.nodes->x.f= -1->(getB w x.v).isSome=true
def Gl.holds(s:List SymL)(w:List Bd)(g:Gl):Prop:=
 (∀x,x∈g.ps->Cov w x)/\(g.many=true->(flatK s g.f (g.ps.map (qOO s w))).Perm g.ts)/\(g.many=false->g.ps.map (qOO s w)=g.ts)
end Go.Proofs.YtbcbkiaineacpaaGreat.VS
