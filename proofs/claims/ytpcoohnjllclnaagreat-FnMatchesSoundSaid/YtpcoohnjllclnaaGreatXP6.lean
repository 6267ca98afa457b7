/- Contracts of the program's functions on the evaluator without names, and plain lemmas: part 6. -/
import Derived.Test.YtpcoohnjllclnaaGreatXP5
import Derived.Test.YtpcoohnjllclnaaGreatNat1
import Derived.Test.YtpcoohnjllclnaaGreatEngC
import Derived.Shelf.Spec.SlicesInsertGrow
import Derived.Laws.AppendOwn
set_option linter.unusedSimpArgs false
set_option linter.unusedVariables false
namespace Go.Proofs.YtpcoohnjllclnaaGreat.VS
structure RS(S:MS)(ws:List aB)(fuel:Int)(b:Nat):Prop where
 lo: -(b:Int)<=fuel
 hi:fuel<=20000
 l:ws.length<=61
 w:∀w,w∈ws->small w
 nd:S.done=false->ws=S.ways/\fuel=20000-(S.steps:Int)
 d:S.done=true->fuel<0\/60<ws.length
variable{ws:List aB}
theorem RS.mono{S:MS}{fuel:Int}{b c:Nat}(h:RS S ws fuel b)(a:b<=c):RS S ws fuel c:=⟨by have:=h.lo;omega,h.hi,h.l,h.w,h.nd,h.d⟩
variable{α:Type}
theorem chain(R:Nat->α->α->Prop)(I:Nat->α->Prop)(a0:α)(d:I 0 a0):∀n,(∀i a,i<n->I i a->∃a',R i a a'/\I (i+1) a')->∃f:Nat->α,f 0=a0/\(∀i,i<n->R i (f i) (f (i+1)))/\∀i,i<=n->I i (f i)
 |0,_=>⟨fun _=>a0,rfl,fun i hi=>absurd hi (BG i),fun i hi=>by
  have:i=0:=by omega
  subst this;exact d⟩
 |n+1,b=>by
  obtain⟨f,h,f1,f2⟩:=chain R I a0 d n fun i a hi=>b i a (by omega)
  obtain⟨a',k,g⟩:=b n (f n) (by omega) (f2 n (bf _));refine⟨fun j=>if j=n+1 then a' else f j,?_,fun i hi=> ?_,fun i hi=> ?_⟩
  ·show(if 0=n+1 then a' else f 0)=a0
   rw[au (by omega)];exact h
  ·show R i (if i=n+1 then a' else f i) (if i+1=n+1 then a' else f (i+1))
   rw[au (by omega)]
   by_cases c:i=n
   ·subst c;rw[aw rfl];exact k
   ·rw[au (by omega)];exact f1 i (by omega)
  ·show I i (if i=n+1 then a' else f i)
   by_cases c:i=n+1
   ·subst c;rw[aw rfl];exact g
   ·rw[au c];exact f2 i (by omega)
theorem K3(s:aF)(hs:s.length<=1099511627776):∀(n:Nat) (gl:bR) (u:aB) (S:MS) (ws:List aB) (fuel:Int) (b:Nat) (pre:ar),Inv s gl u->fN gl<n->n<=1000000000->S.good->RS S ws fuel b->b<=1000000000000000->
 ∃q:List aB×Int,(∀r,ap XV 310 [.ptr pre.length 0,.d (b8 gl),.d (binds .sub u)] (pre++some (rB s ws fuel)::r)=some (.d (.tup []),pre++some (rB s q.1 q.2)::r))/\RS (S.run (cP s n gl u)) q.1 q.2 (max (b+1) (4096*n+1))
 |0,gl,u,S,ws,fuel,b,pre,hi,hn,_,_,_,_=>absurd hn (BG _)
 |n+1,gl,u,S,ws,fuel,b,pre,hi,hn,hnb,hS,hR,M=>by
  have hlo:=hR.lo;have D:=hR.hi
  by_cases Z:S.done=true
  ·rw[S.qfT Z]
   have o:=hR.d Z;exact⟨(ws,fuel-1),fun r=>Hf s ws fuel gl u pre r (by omega) (by omega) D,⟨by(try simp only);omega,by(try simp only);omega,hR.l,hR.w,fun h=>by rw[Z]at h;(cases h),fun _=>by(try simp only);omega⟩⟩
  have Z:S.done=false:=by simpa using Z
  obtain⟨hws,hfu⟩:=hR.nd Z;subst hws
  by_cases ho:20000<S.steps+1
  ·have hsd:S.step.done=true:=by unfold MS.step MS.done;simp[ho]
   have he:∃es,cP s (n+1) gl u=none::es:=by
    cases gl with
    |nil=>exact⟨_,qP ..⟩
    |cons g rest=>exact⟨_,qX ..⟩
   obtain⟨es,he⟩:=he;rw[he,MS.qeF,MS.qgK S Z,S.step.qfT hsd];exact⟨(S.ways,fuel-1),fun r=>Hf s S.ways fuel gl u pre r (by omega) (by omega) D,⟨by(try simp only);omega,by(try simp only);omega,hR.l,hR.w,fun h=>by rw[hsd]at h;(cases h),fun _=>by(try simp only);omega⟩⟩
  have ho:S.steps+1<=20000:=by omega
  have K:¬fuel-1<0:=by omega
  have W:=hi.small;have a2:=Z;unfold MS.done at a2;simp only[kC,jN]at a2;have I:S.ways.length<=60:=by omega
  have x1:S.step.done=false:=by unfold MS.step MS.done;simp only[kC,jN];exact⟨by omega,a2.2⟩
  have x3:S.step.good:=by rw[<-MS.qgK S Z];exact hS.ev none fun _ h=>by cases h
  have O:RS S.step S.ways (fuel-1) 0:=⟨by omega,by omega,hR.l,hR.w,fun _=>⟨rfl,by unfold MS.step;simp only;omega⟩,fun h=>by rw[x1]at h;cases h⟩
  match gl,hi,hn with
  | [],hi,hn=>
   rw[qP,MS.qeF,MS.qgK S Z,MS.qeF,MS.qvq _ x1];have R:=x3.ev (some u) (fun w h=>by simp only[aL]at h;subst h;exact W);rw[MS.qvq _ x1]at R;refine⟨(if hJ S.ways u then S.ways else S.ways++[u],fuel-1),fun r=>U2 s S.ways fuel u pre r K I D hR.w W,?_⟩;have e:hJ S.step.ways u=hJ S.ways u:=rfl;rw[e]at R⊢
   cases hh:hJ S.ways u with
   |true=>simp only[if_true];exact O.mono (by omega)
   |false=>
    rw[hh]at R;simp only[bL,if_false]at R⊢
    refine⟨by(try simp only);omega,by(try simp only);omega,R.l,R.w,fun _=>⟨rfl,O.nd x1|>.2⟩,fun h=> ?_⟩;have hso:S.step.over=false:=by unfold MS.step;simp only;simpa using ho
    show fuel-1<0\/60<(S.ways++[u]).length;have h':(S.step.over||decide (60<(S.ways++[u]).length))=true:=h;rw[hso,pi,bu]at h';exact .inr h'
  |g::rest,hi,hn=>
   have IH:∀(c:bR×aB),c∈b7 s (g::rest) u->∀(S':MS) (h3:List aB) (G:Int) (b':Nat),S'.good->RS S' h3 G b'->b'<=1000000000000000->
    ∃q:List aB×Int,(∀k e,ap XV 310 [.ptr pre.length 0,.d (b8 c.1),.d (binds .sub c.2)] ((pre++some (rB s h3 G)::k)++e)=some (.d (.tup []),(pre++some (rB s q.1 q.2)::k)++e))/\RS (S'.run (cP s n c.1 c.2)) q.1 q.2 (max (b'+1) (4096*n+1)):=fun c hc S' h3 G b' hS' hR' hb'=>by
    obtain⟨q,o,y⟩:=K3 s hs n c.1 c.2 S' h3 G b' pre (ka hi c hc).1 (by have:=(ka hi c hc).2;omega) (by omega) hS' hR' hb';exact⟨q,fun k e=>by rw[fm,fm];exact o (k++e),y⟩
   have IG:∀(c:bR×aB),c∈b7 s (g::rest) u->∀(S':MS),S'.good->(S'.run (cP s n c.1 c.2)).good:=fun c hc S' hS'=>MS.good.run _ hS' fun w hw=>Gt n (ka hi c hc).1 hw
   have N:∀(c:bR×aB),b7 s (g::rest) u=[c]->∃q:List aB×Int,(∀k e,ap XV 310 [.ptr pre.length 0,.d (b8 c.1),.d (binds .sub c.2)] ((pre++some (rB s S.ways (fuel-1))::k)++e)=some (.d (.tup []),(pre++some (rB s q.1 q.2)::k)++e))/\RS (S.step.run ((b7 s (g::rest) u).flatMap fun c=>cP s n c.1 c.2)) q.1 q.2 (max (b+1) (4096*(n+1)+1)):=fun c hc=>by obtain⟨q,o,y⟩:=IH c (by rw[hc];exact bO.2 rfl) S.step S.ways (fuel-1) 0 x3 O (by omega);rw[hc];simp only[eI,List.flatMap_nil,dB];exact⟨q,o,y.mono (by omega)⟩
   have h5:b7 s (g::rest) u=[]->RS (S.step.run ((b7 s (g::rest) u).flatMap fun c=>cP s n c.1 c.2)) S.ways (fuel-1) (max (b+1) (4096*(n+1)+1)):=fun hc=>by rw[hc];exact O.mono (by omega)
   have Q:=hi.g _ (fH ..);have hm:=hi.m;rw[gk]at hm;have hrl:=CX rest;have z:∀(w':List aB) (f':Int) (k:ar),(pre++some (rB s w' f')::k).length=pre.length+k.length+1:=fun w' f' k=>by simp;omega
   have h4:∀(w':List aB) (f':Int) (k:ar),pre.length<(pre++some (rB s w' f')::k).length:=fun w' f' k=>by rw[z];omega
   rw[qX,MS.qeF,MS.qgK S Z];obtain⟨mn,f,ps,ts⟩:=g;cases mn with
   |true=>
    obtain⟨a1,C,_,_⟩:=Q.2.2.2.1 rfl;have hcn:=Q.1;simp only at a1 hcn C;have hf0:0<=f:=(kO (Fe C)).1;have key:∀q:List aB×Int,(∀k,ap XV 311 [.ptr pre.length 0,.d (Gl.mk true f ps ts).encR,.d (b8 rest),.d (binds .sub u)] (pre++some (rB s S.ways (fuel-1))::k)=some (.d (.tup []),pre++some (rB s q.1 q.2)::k))->
     ∀r,ap XV 310 [.ptr pre.length 0,.d (b8 (⟨true,f,ps,ts⟩::rest)),.d (binds .sub u)] (pre++some (rB s S.ways fuel)::r)=some (.d (.tup []),pre++some (rB s q.1 q.2)::r):=fun q hq r=>
     qQ4 s S.ways fuel f ps ts rest u pre r _ K I D hf0 (by omega) hq
    cases ps with
    |nil=>
     by_cases c:ts.length=0
     ·obtain⟨q,o,y⟩:=N (rest,u) (by simp[b7,c])
      exact⟨q,key q fun k=>Nh f ts rest u _ _ _ (h4 ..) (by simp only[z]) (fun _=>o k) (fun h=>absurd c h),y⟩
     ·exact⟨(S.ways,fuel-1),key (S.ways,fuel-1) fun k=>Nh f ts rest u _ _ _ (h4 ..) (by simp only[z]) (fun h=>absurd h c) (fun _=>rfl),h5 (by simp[b7,c])⟩
    |cons p ps=>
     have x2:ps.length<=1000000000:=by
      have e:ir ⟨true,f,p::ps,ts⟩=1+3*(p.inner+1+bw ps):=by rw[<-dZ];rfl
      have:=ip ps;omega
     by_cases c:p.f= -1
     ·cases M:cW u p.v with
      |some j=>
       cases htk:takeN ts (partsOf f (aH u j).t)with
       |inl r0=>obtain⟨q,o,y⟩:=N (bX f ps r0::rest,u) (by simp[b7,c,M,htk]);exact⟨q,key q fun k=>G6 f ts rest u _ _ _ p ps j c M W (h4 ..) (by simp only[z]) (by omega) x2 (by omega) (fun x hx=>by have:=fX hx;omega) (fun r2 h9=>by rw[htk]at h9;simp only[qh]at h9;subst h9;exact o k) (fun r2 h9=>by rw[htk]at h9;cases h9),y⟩
       |inr r0=>exact⟨(S.ways,fuel-1),key (S.ways,fuel-1) fun k=>G6 f ts rest u _ _ _ p ps j c M W (h4 ..) (by simp only[z]) (by omega) x2 (by omega) (fun x hx=>by have:=fX hx;omega) (fun r2 h9=>by rw[htk]at h9;cases h9) (fun r2 h9=>rfl),h5 (by simp[b7,c,M,htk])⟩
      |none=>
       obtain⟨pf,pv,pk⟩:=p;simp only[T.qaO,T.qbT]at c M;subst c;have X:b7 s (⟨true,f,.node (-1) pv pk::ps,ts⟩::rest) u=(List.range (2^ts.length-1)).map fun m=>(bX f ps (cp ts (m+1) ts.length)::rest,cC u pv (cU s f (bJ ts (m+1) ts.length))):=by simp[b7,M]
       have H:∀i,i<2^ts.length-1->(bX f ps (cp ts (i+1) ts.length)::rest,cC u pv (cU s f (bJ ts (i+1) ts.length)))∈b7 s (⟨true,f,.node (-1) pv pk::ps,ts⟩::rest) u:=fun i hi=>by rw[X];exact cw.2 ⟨i,f_.2 hi,rfl⟩
       have b1:2^ts.length<=2^12:=oD (by omega) a1;rw[X,nN];obtain⟨F,hF⟩:∃F:Nat->List (Option aB),F=fun m=>cP s n (bX f ps (cp ts (m+1) ts.length)::rest) (cC u pv (cU s f (bJ ts (m+1) ts.length))):=⟨_,rfl⟩
       have Y:∀i,S.step.run ((List.range (i+1)).flatMap F)=(S.step.run ((List.range i).flatMap F)).run (F i):=fun i=>by rw[uL,MS.qg6]
       obtain⟨q,q0,q1,q2⟩:=chain (α:=List aB×Int)
        (fun i a a'=>∀k e,ap XV 310 [.ptr pre.length 0,.d (b8 (bX f ps (cp ts (i+1) ts.length)::rest)),.d (binds .sub (cC u pv (cU s f (bJ ts (i+1) ts.length))))] ((pre++some (rB s a.1 a.2)::k)++e)=some (.d (.tup []),(pre++some (rB s a'.1 a'.2)::k)++e))
        (fun i a=>(S.step.run ((List.range i).flatMap F)).good/\RS (S.step.run ((List.range i).flatMap F)) a.1 a.2 (4096*n+1+i)) (S.ways,fuel-1) ⟨x3,O.mono (by omega)⟩ (2^ts.length-1) (fun i a hi ha=>by
         obtain⟨q,o,y⟩:=IH _ (H i hi) _ a.1 a.2 _ ha.1 ha.2 (by omega);refine⟨q,o,?_,?_⟩
         ·rw[Y,hF];have:=IG _ (H i hi) _ ha.1;rwa[hF]at this
         ·rw[Y,hF]
          rw[hF]at y;exact y.mono (by omega))
       have a3:4096*n+1+(2^ts.length-1)<=max (b+1) (4096*(n+1)+1):=by
        generalize 2^ts.length=m at*
        have:m<=4096:=b1;refine cT ?_ (gT _ _);omega
       have b2:=(q2 _ (bf _)).2;refine⟨q (2^ts.length-1),key _ fun k=> ?_,by rw[<-hF];exact b2.mono a3⟩;have hx:=qtB s hs f pv pk ps ts rest u pre.length (fun i=>pre++some (rB s (q i).1 (q i).2)::k) (pre.length+k.length+1)
        (fun i=>z _ _ _) (by omega) (by omega) x2 a1 (by omega) (fun i=>(rB s (q i).1 (q i).2).tail) (fun i=>by simp only[D3];rfl)
        (fun m=>cT (pU (BH ts m)) (by omega)) M (fun i o e=>q1 i (by omega) k e)
       simp only[q0]at hx;exact hx
     ·have X:b7 s (⟨true,f,p::ps,ts⟩::rest) u=(List.range ts.length).map fun i=>(ci p (aj ts i)::bX f ps (cV ts i)::rest,u):=by simp[b7,c]
      have H:∀i,i<ts.length->(ci p (aj ts i)::bX f ps (cV ts i)::rest,u)∈b7 s (⟨true,f,p::ps,ts⟩::rest) u:=fun i hi=>by rw[X];exact cw.2 ⟨i,f_.2 hi,rfl⟩
      rw[X,nN];obtain⟨F,hF⟩:∃F:Nat->List (Option aB),F=fun i=>cP s n (ci p (aj ts i)::bX f ps (cV ts i)::rest) u:=⟨_,rfl⟩
      have Y:∀i,S.step.run ((List.range (i+1)).flatMap F)=(S.step.run ((List.range i).flatMap F)).run (F i):=fun i=>by rw[uL,MS.qg6]
      obtain⟨q,q0,q1,q2⟩:=chain (α:=List aB×Int)
       (fun i a a'=>∀k e,ap XV 310 [.ptr pre.length 0,.d (b8 (ci p (aj ts i)::bX f ps (cV ts i)::rest)),.d (binds .sub u)] ((pre++some (rB s a.1 a.2)::k)++e)=some (.d (.tup []),(pre++some (rB s a'.1 a'.2)::k)++e))
       (fun i a=>(S.step.run ((List.range i).flatMap F)).good/\RS (S.step.run ((List.range i).flatMap F)) a.1 a.2 (4096*n+1+i)) (S.ways,fuel-1) ⟨x3,O.mono (by omega)⟩ ts.length (fun i a hi ha=>by
        obtain⟨q,o,y⟩:=IH _ (H i hi) _ a.1 a.2 _ ha.1 ha.2 (by omega);refine⟨q,o,?_,?_⟩
        ·rw[Y,hF];have:=IG _ (H i hi) _ ha.1;rwa[hF]at this
        ·rw[Y,hF]
         rw[hF]at y;exact y.mono (by omega))
      have a3:4096*n+1+ts.length<=max (b+1) (4096*(n+1)+1):=by refine cT ?_ (gT _ _);omega
      have b2:=(q2 _ (bf _)).2;refine⟨q ts.length,key _ fun k=> ?_,by rw[<-hF];exact b2.mono a3⟩;have hx:=OU f p ps ts rest u pre.length (fun i=>pre++some (rB s (q i).1 (q i).2)::k) (pre.length+k.length+1)
       (fun i=>z _ _ _) c (by omega) (by omega) x2 (by omega) (fun i o e=>q1 i o k e)
      simp only[q0]at hx;exact hx
   |false=>
    obtain⟨p,t,hp,ht⟩:=Q.2.2.2.2 rfl;simp only at hp ht;subst hp ht;have hti:t.inner<=1000:=by have:=Q.1;simp only[dZ]at this;omega
    have hpi:p.inner<=1000000:=by have e:ir ⟨false,f,[p],[t]⟩=3*p.inner+2:=rfl;omega
    have one:∀(q:List aB×Int) (c:bR×aB),(∀k e,ap XV 310 [.ptr pre.length 0,.d (b8 c.1),.d (binds .sub c.2)] ((pre++some (rB s S.ways (fuel-1))::k)++e)=some (.d (.tup []),(pre++some (rB s q.1 q.2)::k)++e))->∀k,ap XV 310 [.ptr pre.length 0,.d (b8 c.1),.d (binds .sub c.2)] (pre++some (rB s S.ways (fuel-1))::k)=some (.d (.tup []),pre++some (rB s q.1 q.2)::k):=fun q c h k=>by have:=h k [];simpa using this
    by_cases c:p.f= -1
    ·cases M:cW u p.v with
     |none=>obtain⟨q,o,y⟩:=N (rest,cC u p.v t) (by simp[eP,c,M]);exact⟨q,fun r=>T3 s S.ways fuel f p t rest u pre r _ K I D c M (by omega) (by omega) (by omega) (one q _ o),y⟩
     |some j=>
      cases hcm:(T.cmp (aH u j).t t==0)with
      |true=>have J:=hcm;rw[fa]at J;obtain⟨q,o,y⟩:=N (rest,u) (by simp[eP,c,M,J]);exact⟨q,fun r=>Wx s S.ways fuel f p t rest u pre r _ K I D j c M W (by omega) hcm (by omega) (one q _ o),y⟩
      |false=>have J:=hcm;rw[A6]at J;exact⟨(S.ways,fuel-1),fun r=>qGp s S.ways fuel f p t rest u pre r K I D j c M W (by omega) hcm (by omega),h5 (by simp[eP,c,M,J])⟩
    ·by_cases c2:p.f=t.f
     ·cases C:bI s p.f with
      |true=>obtain⟨q,o,y⟩:=N (bX p.f p.kids t.kids::rest,u) (by rw[c2]at c C;simp[eP,c,c2,C]);exact⟨q,fun r=>qKG s S.ways fuel f p t rest u pre r _ K I D hs c c2 C (by omega) (one q _ o),y⟩
      |false=>
       have c3:p.kids.length=t.kids.length:=by have o:=Bl (Q.2.2.1 p (bO.2 rfl)) c;have y:=Bl (Q.2.1 t (bO.2 rfl)).2 (by rw[<-c2];exact c);rw[<-c2]at y;exact Zn o.1 y.1 C
       obtain⟨q,o,y⟩:=N (c9 p.kids t.kids p.kids.length++rest,u) (by rw[c2]at c C;simp[eP,c,c2,C,c3]);exact⟨q,fun r=>O_ s S.ways fuel f p t rest u pre r _ K I D hs c c2 C c3 (by have:=T.qdz p;omega) (by omega) (one q _ o),y⟩
     ·exact⟨(S.ways,fuel-1),fun r=>Sl s S.ways fuel f p t rest u pre r K I D c c2 (by omega),h5 (by simp[eP,c,c2])⟩
mutual
def T.nodes:T->ah
 | .node f v ks=> .node f v ks::T.nodess ks
def T.nodess:ah->ah
 | []=>[]
 |t::r=>t.nodes++T.nodess r
end
mutual
theorem CB{σ:Type}(e:T->σ->σ):∀(t:T) (s:σ),T.fold e t s=t.nodes.foldl (fun s x=>e x s) s
 | .node f v ks,s=>by simp only[T.fold,T.nodes,xK];exact I8 e ks _
theorem I8{σ:Type}(e:T->σ->σ):∀(l:ah) (s:σ),T.folds e l s=(T.nodess l).foldl (fun s x=>e x s) s
 | [],s=>by simp[T.folds,T.nodess]
 |t::r,s=>by simp only[T.folds,T.nodess,List.foldl_append];rw[CB e t s];exact I8 e r _
end
theorem V6(l:aX)(n x:Int):x∈c_ l n↔x=n\/x∈l:=by
 unfold c_;split
 ·rename_i h
  rw[wU]at h;constructor
  ·exact fun a=> .inr a
  ·rintro(rfl|a)
   ·exact h
   ·exact a
 ·have e:l=l.take (gO l n)++l.drop (gO l n):=(d7 _ _).symm
  constructor
  ·intro a
   simp only[bC,bK]at a;rcases a with a|a|a
   ·exact .inr (sF a)
   ·exact .inl a
   ·exact .inr (sV a)
  ·intro a
   simp only[bC,bK];rcases a with a|a
   ·exact .inr (.inl a)
   ·rw[e]at a
    rcases bC.1 a with h|h
    ·exact .inl h
    ·exact .inr (.inr h)
theorem Ym(l:aX)(n:Int)(h:l.Pairwise (·<·)):(c_ l n).Pairwise (·<·):=by
 unfold c_;split
 ·exact h
 ·rename_i hc
  have o:∀x,x∈l->x≠n:=fun x c y=>hc (by rw[wU];exact y▸c)
  have e:l=l.take (gO l n)++l.drop (gO l n):=(d7 _ _).symm;have r:=h;rw[e,jL]at r;obtain⟨t,k,F⟩:=r;have lo:∀x,x∈l.take (gO l n)->x<n:=fun x c=>by obtain⟨i,hi,rfl⟩:=lU c;rw[rO]at hi;have C:=NF (p:=fun x=>decide (x>n)) (xs:=l) (i:=i) (by unfold gO at hi;omega);rw[List.getElem_take];have G:=o _ (jt (by omega:i<l.length));simp at C;omega
  have hi:∀x,x∈l.drop (gO l n)->n<x:=fun x c=>by
   have g:gO l n<l.length:=by
    rcases eN (gO l n) l.length with m|m
    ·exact m
    ·rw[oz m]at c;simp at c
   have z:=List.findIdx_getElem (p:=fun x=>decide (x>n)) (xs:=l) (w:=g);rw[dl g]at c k;have D:n<l[gO l n]:=of_decide_eq_true z;rcases bK.1 c with rfl|c
   ·exact D
   ·have:=(jc.1 k).1 x c;omega
  rw[jL];refine⟨t,jc.2 ⟨hi,k⟩,fun a q b d=> ?_⟩;rcases bK.1 d with d|d
  ·subst d;exact lo a q
  ·exact F a q b d
theorem MO:∀(l:ah) (s:aX),s.Pairwise (·<·)->(l.foldl (fun s x=>eV x s) s).Pairwise (·<·)
 | [],s,h=>h
 |x::l,s,h=>by
  rw[xK];refine MO l _ ?_;unfold eV;split
  ·exact Ym _ _ h
  ·exact h
theorem Lf:∀(l:ah) (s:aX) (n:Int),n∈l.foldl (fun s x=>eV x s) s↔n∈s\/∃x,x∈l/\x.f= -1/\x.v=n
 | [],s,n=>by simp
 |x::l,s,n=>by
  rw[xK,Lf l];unfold eV
  by_cases h:x.f= -1
  ·rw[aw h,V6]
   constructor
   ·rintro((rfl|a)|⟨y,a,b⟩)
    ·exact .inr ⟨x,by simp,h,rfl⟩
    ·exact .inl a
    ·exact .inr ⟨y,by simp[a],b⟩
   ·rintro(a|⟨y,a,b,c⟩)
    ·exact .inl (.inr a)
    ·rcases bK.1 a with rfl|a
     ·exact .inl (.inl c.symm)
     ·exact .inr ⟨y,a,b,c⟩
  ·rw[au h]
   constructor
   ·rintro(a|⟨y,a,b⟩)
    ·exact .inl a
    ·exact .inr ⟨y,by simp[a],b⟩
   ·rintro(a|⟨y,a,b,c⟩)
    ·exact .inl a
    ·rcases bK.1 a with rfl|a
     ·exact absurd b h
     ·exact .inr ⟨y,a,b,c⟩
theorem VU(t:T):(kI t).Pairwise (·<·):=by unfold kI;rw[CB];exact MO _ _ ns
theorem NL(t:T)(n:Int):n∈kI t↔∃x,x∈t.nodes/\x.f= -1/\x.v=n:=by unfold kI;rw[CB,Lf];simp
variable{f:Int}
theorem HO{l:aF}(h:bI l f=true):f≠-1:=by unfold bI at h;simp only[aQ]at h;have:=(kO h.1).1;omega
mutual
def T.full(l:aF):T->Prop
 | .node f v ks=>(bI l f=true->ks≠[])/\T.fulls l ks
def T.fulls(l:aF):ah->Prop
 | []=>True
 |t::r=>t.full l/\T.fulls l r
end
mutual
theorem Kf(l:aF):∀t:T,T.form l t=true->t.full l/\∀x,x∈t.nodes->x.f= -1->x.kids=[]
 | .node f v ks,h=>by
  simp only[T.form]at h
  by_cases d:f= -1
  ·rw[aw d]at h
   have o:ks=[]:=by simp only[aQ,bu]at h;exact nQ h.2
   subst o;refine⟨⟨fun k=>absurd d (HO k),trivial⟩,fun x b _=> ?_⟩;simp only[T.nodes,T.nodess,bK,nT,nu]at b;subst b;rfl
  ·rw[au d]at h
   split at h
   ·simp at h
   ·rename_i n
    have r:=G5 _ _ h;have g:∀i,i<ks.length->T.form l (aj ks i)=true:=fun i hi=>by have:=r i hi;rw[T.qkU l ks i hi]at this;simp at this;exact this.1
    obtain⟨q,m⟩:=NU l ks g;refine⟨⟨fun k p=>n ?_,q⟩,fun x b c=> ?_⟩
    ·subst p
     have a:=k;unfold bI at a;simp only[aQ]at a;unfold fp;rw[aw a.1];split
     ·rw[aw a.2];simp
     ·rfl
    ·simp only[T.nodes,bK]at b
     rcases b with rfl|b
     ·exact absurd c d
     ·exact m x b c
theorem NU(l:aF):∀ks:ah,(∀i,i<ks.length->T.form l (aj ks i)=true)->T.fulls l ks/\∀x,x∈T.nodess ks->x.f= -1->x.kids=[]
 | [],_=>⟨trivial,fun x a=>by simp[T.nodess]at a⟩
 |t::r,h=>by
  obtain⟨d,c⟩:=Kf l t (by have:=h 0 (by simp);simpa[aj]using this);obtain⟨k,g⟩:=NU l r fun i hi=>by have:=h (i+1) (by simpa using hi);simpa[aj]using this
  refine⟨⟨d,k⟩,fun x a b=> ?_⟩;simp only[T.nodess,bC]at a;rcases a with a|a
  ·exact c x a b
  ·exact g x a b
end
def f8(s:aF)(u:aB)(t:T):T:=(cS u t).norm s
theorem Qc(u:aB)(v:Int):cS u (.node (-1) v [])=fB u v:=by simp[cS]
variable{ks:ah}
theorem KU(u:aB){v:Int}(h:¬(f= -1/\ks.length=0)):cS u (.node f v ks)= .node f v (dj u ks):=by simp only[cS];rw[au h]
theorem Sz(s:aF)(u:aB){v:Int}(h:¬(f= -1/\ks.length=0))(a:¬bI s f=true):f8 s u (.node f v ks)= .node f v (ks.map (f8 s u)):=by unfold f8;rw[KU u h];simp only[T.norm];rw[au a,uf s f a,T.norms_map,lA,et];rfl
theorem Rb(s:aF)(u:aB){v:Int}(a:bI s f=true):f8 s u (.node f v ks)= .node f v (eE (flatK s f (ks.map (f8 s u)))):=by unfold f8;rw[KU u (fun h=>HO a h.1)];simp only[T.norm];rw[aw a,T.norms_map,lA,et];rfl
variable{s:aF}
theorem Hw{v:Int}(a:bI s f=true):eh s f (.node f v ks)=ks:=by simp[eh,a]
theorem CN{k:T}(h:k.f≠f):eh s f k=[k]:=by
 have:(k.f==f)=false:=by simpa using h
 simp[eh,this]
def getB(u:aB)(v:Int):Option T:=(u.find? fun b=>b.v==v).map Bd.t
theorem CQ(u:aB)(v:Int):getB u v=(cW u v).map fun j=>(aH u j).t:=by
 unfold getB;cases h:cW u v with
 |none=>
  have a:=(sB _ _ _).2 h;have:u.find? (fun b=>b.v==v)=none:=by rw[List.find?_eq_none];intro b d;obtain⟨i,hi,rfl⟩:=lU d;rw[cY hi];have:=a i (by omega) (by omega);simpa using this
  rw[this];rfl
 |some j=>
  have g:=eQ _ _ _ _ h;have a:=(sB _ _ _).1 j h;have c:j<u.length:=by omega
  have:u.find? (fun b=>b.v==v)=some (aH u j):=by rw[List.find?_eq_some_iff_getElem];refine⟨g.2.2,j,c,cY c,fun i hi=> ?_⟩;rw[cY (by omega)];have:=a i (by omega) hi;rw[this];rfl
  rw[this];rfl
variable{j:Nat}{u:aB}
theorem I4{v:Int}(h:cW u v=some j):getB u v=some (aH u j).t:=by rw[CQ,h];rfl
theorem DY{v:Int}(h:cW u v=none):getB u v=none:=by rw[CQ,h];rfl
theorem qzS(u:aB)(v:Int):fB u v=(getB u v).getD (.node (-1) v []):=by unfold fB;rw[CQ];cases cW u v<;>rfl
theorem SZ{v:Int}{t:T}(h:getB u v=some t):⟨v,t⟩∈u:=by unfold getB at h;rw[ay]at h;obtain⟨b,a,rfl⟩:=h;have d:=List.mem_of_find?_eq_some a;have c:=List.find?_some a;obtain⟨bv,bt⟩:=b;simp only[fa]at c;subst c;exact d
theorem Ee(a b:aB)(v:Int):getB (a++b) v=(getB a v).or (getB b v):=by unfold getB;rw[List.find?_append];cases List.find? (fun b=>b.v==v) a<;>rfl
theorem Z4(b:Bd)(l:aB)(v:Int):getB (b::l) v=if b.v=v then some b.t else getB l v:=by
 unfold getB;rw[List.find?_cons]
 by_cases h:b.v=v
 ·simp[h]
 ·have:(b.v==v)=false:=by simpa using h
  rw[this,au h]
theorem M4(u:aB)(v:Int)(t:T)(h:getB u v=none)(x:Int):getB (cC u v t) x=if v=x then some t else getB u x:=by
 have a:u=u.take (fD u v)++u.drop (fD u v):=(d7 _ _).symm;unfold cC;rw[Ee,Z4];simp only
 by_cases c:v=x
 ·subst c
  rw[aw rfl,aw rfl];rw[a,Ee]at h;cases hg:getB (u.take (fD u v)) v with
  |none=>rfl
  |some b=>rw[hg]at h;cases h
 ·rw[au c,au c]
  conv=>rhs;rw[a,Ee]
def qIk(u w:aB):Prop:=∀v t,getB u v=some t->getB w v=some t
theorem qIk.refl(u:aB):qIk u u:=fun _ _ h=>h
theorem J1{w:aB}{v:Int}{t:T}(h:getB u v=none)(b:qIk (cC u v t) w):qIk u w/\getB w v=some t:=by
 refine⟨fun x y a=>b x y ?_,b v t ?_⟩
 ·rw[M4 u v t h]
  by_cases c:v=x
  ·subst c;rw[h]at a;cases a
  ·rw[au c];exact a
 ·rw[M4 u v t h,aw rfl]
def mE(w:aB)(t:T):Prop:=∀x,x∈t.nodes->x.f= -1->(getB w x.v).isSome=true
def Gl.holds(s:aF)(w:aB)(g:Gl):Prop:=(∀x,x∈g.ps->mE w x)/\(g.many=true->(flatK s g.f (g.ps.map (f8 s w))).Perm g.ts)/\(g.many=false->g.ps.map (f8 s w)=g.ts)
def Holds(s:aF)(w:aB)(gl:bR):Prop:=∀g,g∈gl->g.holds s w
theorem pP{w:aB}{g:Gl}{l:bR}:Holds s w (g::l)↔g.holds s w/\Holds s w l:=by unfold Holds;simp
theorem u5(s:aF)(w:aB)(v:Int)(t:T)(h:getB w v=some t)(a:t.nf s):f8 s w (.node (-1) v [])=t:=by unfold f8;rw[Qc,qzS,h];exact AP s t a
theorem Av(w:aB)(v:Int)(t:T)(h:getB w v=some t):mE w (.node (-1) v []):=fun x a b=>by simp only[T.nodes,T.nodess,bK,nT,nu]at a;subst a;simp only[T.qbT];rw[h];rfl
theorem FT{x k:T}:∀{ks:ah},k∈ks->x∈k.nodes->x∈T.nodess ks
 | [],h,_=>by cases h
 |t::r,h,a=>by
  simp only[T.nodess,bC];rcases bK.1 h with rfl|h
  ·exact .inl a
  ·exact .inr (FT h a)
theorem Nn{x:T}:∀{ks:ah},x∈T.nodess ks->∃k,k∈ks/\x∈k.nodes
 | [],h=>by simp[T.nodess]at h
 |t::r,h=>by
  simp only[T.nodess,bC]at h;rcases h with h|h
  ·exact⟨t,fH ..,h⟩
  ·obtain⟨k,a,b⟩:=Nn h
   exact⟨k,em _ a,b⟩
theorem G2{w:aB}{v:Int}(d:f≠-1):mE w (.node f v ks)↔∀k,k∈ks->mE w k:=by
 unfold mE;constructor
 ·intro h k c x a b
  exact h x (by simp only[T.nodes,bK];exact .inr (FT c a)) b
 ·intro h x a b
  simp only[T.nodes,bK]at a;rcases a with rfl|a
  ·exact absurd b d
  ·obtain⟨k,c,a⟩:=Nn a
   exact h k c x a b
theorem Mn{p:T}(h:T.form s p=true)(a:p.f= -1):p= .node (-1) p.v []:=by
 have:=(Kf s p h).2 p (by cases p;simp[T.nodes]) a;obtain⟨f,v,ks⟩:=p;simp only[T.qaO,T.qaD,T.qbT]at*
 rw[a,this]
theorem qro(a:bI s f=true)(t:T):eh s f t=partsOf f t:=by
 unfold partsOf
 by_cases h:t.f=f
 ·obtain⟨b,v,ks⟩:=t
  simp only[T.qaO]at h;subst h;rw[Hw a];exact(aw rfl).symm
 ·rw[CN h,au h]
theorem GV{l:ah}(h:j<l.length):(aj l j::cV l j).Perm l:=by
 unfold cV;have b:l=l.take j++aj l j::l.drop (j+1):=by have:=(d7 j l).symm;rwa[dl h,bg h]at this
 have a:(l.take j++aj l j::l.drop (j+1)).Perm (aj l j::(l.take j++l.drop (j+1))):=tS;rw[<-b]at a;exact a.symm
theorem I7:∀(xs l r:ah),takeN l xs= .inl r->(xs++r).Perm l
 | [],l,r,h=>by simp only[takeN,qh]at h;subst h;exact .refl _
 |x::xs,l,r,h=>by
  unfold takeN at h;cases hf:a8 (eS l x) l.length 0 with
  |none=>rw[hf]at h;cases h
  |some j=>
   rw[hf]at h;have d:=I7 xs _ r h;have c:=eQ _ _ _ _ hf;have b:aj l j=x:=by have:=c.2.2;unfold eS at this;rw[fa]at this;exact mT _ _ this
   have a:=GV (l:=l) (j:=j) (by omega);rw[b]at a;exact(List.Perm.cons x d).trans a
theorem IZ(l:ah)(m:Nat):∀i,i<=l.length->(bJ l m i++cp l m i).Perm (l.take i)
 |0,_=>by simp[bJ,cp]
 |i+1,h=>by
  have a:=IZ l m i (by omega);rw[yi l i h];unfold bJ cp;split
  ·have:(bJ l m i++[aj l i]++cp l m i).Perm ((bJ l m i++cp l m i)++[aj l i]):=by
    rw[cr,cr];exact IK _ sJ
   exact this.trans (a.append_right _)
  ·rw[<-cr]
   exact a.append_right _
theorem qus(l:ah)(m:Nat):(bJ l m l.length++cp l m l.length).Perm l:=by have:=IZ l m l.length (bf _);rwa[fG]at this
theorem Hz(l:ah)(m:Nat):∀i,bJ l m i=[]->∀j,j<i->m.testBit j=false
 |0,_,j,h=>absurd h (BG j)
 |i+1,h,j,c=>by
  unfold bJ at h
  by_cases a:m.testBit i=true
  ·rw[aw a]at h;simp at h
  ·rw[au a]at h
   rcases Nat.lt_succ_iff_lt_or_eq.1 c with b|b
   ·exact Hz l m i h j b
   ·subst b;simpa using a
theorem Q5(l:ah)(m:Nat)(d:0<m)(a:m<2^l.length):bJ l m l.length≠[]:=fun h=>by
 have c:=Hz l m l.length h;have:m=0:=Nat.eq_of_testBit_eq fun j=>by
  rw[Nat.zero_testBit]
  by_cases b:j<l.length
  ·exact c j b
  ·exact Nat.testBit_lt_two_pow (nt a (oD (by omega) (by omega)))
 omega
theorem Ry(s:aF)(f:Int)(i:bI s f=true)(ks:ah)(b:ks≠[])(c:∀k,k∈ks->k.nf s/\k.f≠f):(eh s f (cU s f ks)).Perm ks:=by
 by_cases d:2<=ks.length
 ·rw[Pe s f ks i d,Hw i]
  have e:ks.map (T.norm s)=ks:=by
   have:=rk (f:=T.norm s) (g:=id) (l:=ks) fun k a=>AP s k (c k a).1
   rwa[List.map_id]at this
  rw[e,FG s f ks fun k a=>(c k a).2];exact lR ks
 ·match ks,b,c,d with
  | [],b,_,_=>exact absurd rfl b
  | [k],_,c,_=>
   have h:=c k (bO.2 rfl);have e:cU s f [k]=k:=by unfold cU;rw[au (by simp),aw ⟨i,rfl⟩];exact AP s k h.1
   rw[e,CN h.2]
  |_::_::_,_,_,d=>simp at d
theorem wB{v:Int}(h:T.form s (.node f v ks)=true)(c:f≠-1):v=0:=by
 have:=(KG h c).1;unfold fp at this
 by_cases b:dS s f=true
 ·rw[aw b]at this
  by_cases a:v=0
  ·exact a
  ·rw[au a]at this;cases this
 ·rw[au b]at this;cases this
variable{gl:bR}
theorem Xq(h:Inv s gl u)(c:bR×aB)(hc:c∈b7 s gl u)(w:aB)(D:qIk c.2 w)(H:Holds s w c.1):qIk u w/\Holds s w gl:=by
 match gl,h,hc with
 | [],h,hc=>simp[b7]at hc
 |⟨true,f,ps,ts⟩::rest,h,hc=>
  have hg:=h.g _ (fH ..);obtain⟨h5,I,J,x1,_⟩:=hg;obtain⟨S,hb,N,a2⟩:=x1 rfl;simp only at h5 I J S hb N a2;have x2:∀x,x∈ts->x.nf s:=fun x C=>pL s x (I x C).2
  cases ps with
  |nil=>
   simp only[b7]at hc;split at hc
   ·rename_i h0
    rw[bO]at hc;subst hc
    have:ts=[]:=nQ h0;subst this;exact⟨D,pP.2 ⟨⟨fun x C=>(by cases C),fun _=> .refl _,fun e=>(by cases e)⟩,H⟩⟩
   ·cases hc
  |cons p ps=>
   simp only[b7]at hc;have key:∀r:ah,(eh s f (f8 s w p)++r).Perm ts->mE w p->Holds s w (bX f ps r::rest)->Holds s w (⟨true,f,p::ps,ts⟩::rest):=fun r hr a1 hh=>by
    obtain⟨d,F⟩:=pP.1 hh;refine pP.2 ⟨⟨fun x C=> ?_,fun _=> ?_,fun e=>(by cases e)⟩,F⟩
    ·rcases bK.1 C with rfl|C
     ·exact a1
     ·exact d.1 x C
    ·simp only[bA,r9]
     exact(IK _ (d.2.1 rfl)).trans hr
   split at hc
   ·rename_i n
    have Y:=Mn (J p (fH ..)) n;split at hc
    ·rename_i j K
     have q:=I4 K;split at hc
     ·rename_i r hr
      rw[bO]at hc;subst hc
      have l:=D _ _ q;have x3:=(h.b _ (uv (show j<u.length by have:=eQ _ _ _ _ K;omega))).2;refine⟨D,key r ?_ ?_ H⟩
      ·rw[Y,u5 s w _ _ l x3,qro hb]
       exact I7 _ _ _ hr
      ·rw[Y];exact Av w _ _ l
     ·cases hc
    ·rename_i K
     obtain⟨m,hm,rfl⟩:=cw.1 hc;have hm:=f_.1 hm;have q:=DY K;obtain⟨W,o⟩:=J1 q D;refine⟨W,key _ ?_ ?_ H⟩
     ·rw[Y,u5 s w _ _ o (JM s f _ hb)]
      refine(List.Perm.append_right _ (Ry s f hb _ (Q5 ts (m+1) (by omega) (by omega)) fun k hk=> ?_)).trans (qus ts (m+1));have:=(BH ts (m+1)).subset hk;exact⟨x2 k this,N k this⟩
     ·rw[Y];exact Av w _ _ o
   ·obtain⟨i,hi,rfl⟩:=cw.1 hc
    have hi:=f_.1 hi;obtain⟨d,F⟩:=pP.1 H;have Z:f8 s w p=aj ts i:=by have:=d.2.2 rfl;simpa[ci]using this
    refine⟨D,key (cV ts i) ?_ (d.1 p (bO.2 rfl)) F⟩;rw[Z,CN (N _ (bV hi))];exact GV hi
 |⟨false,f,ps,ts⟩::rest,h,hc=>
  have hg:=h.g _ (fH ..);obtain⟨h5,I,J,_,S⟩:=hg;obtain⟨p,t,Y,ht⟩:=S rfl;simp only at Y ht;subst Y ht;have X:=J p (bO.2 rfl);have Q:=(I t (bO.2 rfl)).2;have O:=pL s t Q;have key:mE w p->f8 s w p=t->Holds s w rest->Holds s w (⟨false,f,[p],[t]⟩::rest):=fun d F Z=>pP.2 ⟨⟨fun x C=>by rw[bO]at C;subst C;exact d,fun e=>(by cases e),fun _=>by simp[F]⟩,Z⟩
  rw[eP]at hc
  by_cases n:p.f= -1
  ·rw[aw n]at hc
   have a:=Mn X n;split at hc
   ·rename_i K
    rw[bO]at hc;subst hc
    have q:=DY K;obtain⟨W,o⟩:=J1 q D;exact⟨W,key (by rw[a];exact Av w _ _ o) (by rw[a];exact u5 s w _ _ o O) H⟩
   ·rename_i j K
    split at hc
    ·rename_i M
     rw[bO]at hc;subst hc
     rw[fa]at M;have l:=D _ _ (I4 K);rw[mT _ _ M]at l;exact⟨D,key (by rw[a];exact Av w _ _ l) (by rw[a];exact u5 s w _ _ l O) H⟩
    ·cases hc
  ·rw[au n]at hc
   by_cases G:p.f=t.f
   case neg=>rw[aw G]at hc;cases hc
   case pos=>
    rw[au (fun h=>h G)]at hc
    by_cases y:bI s p.f=true
    ·rw[aw y,bO]at hc;subst hc
     obtain⟨d,F⟩:=pP.1 H;obtain⟨pf,pv,pk⟩:=p;obtain⟨tf,tv,tk⟩:=t;simp only[T.qaO,T.qaD]at*
     subst G;have a:=wB X n;have R:=wB Q n;subst a R;refine⟨D,key ((G2 n).2 d.1) ?_ F⟩;rw[Rb s w y]
     congr 1
     have Z:=d.2.1 rfl;simp only[bX]at Z;exact(Cb Z.symm (FC O y).2).symm
    ·rw[au y]at hc
     by_cases z:p.kids.length=t.kids.length
     case neg=>rw[aw z]at hc;cases hc
     case pos=>
      rw[au (fun h=>h z),bO]at hc;subst hc
      obtain⟨pf,pv,pk⟩:=p;obtain⟨tf,tv,tk⟩:=t;simp only[T.qaO,T.qaD]at*
      subst G;have a:=wB X n;have R:=wB Q n;subst a R;have h4:∀i,i<pk.length->mE w (aj pk i)/\f8 s w (aj pk i)=aj tk i:=fun i hi=>by have:=H (ci (aj pk i) (aj tk i)) (lw _ (cw.2 ⟨i,f_.2 hi,rfl⟩));refine⟨this.1 _ (bO.2 rfl),?_⟩;have:=this.2.2 rfl;simpa[ci]using this
      refine⟨D,key ((G2 n).2 fun k hk=> ?_) ?_ fun g hg=>H g (od _ hg)⟩
      ·obtain⟨i,hi,rfl⟩:=lU hk
       rw[bg hi];exact(h4 i hi).1
      ·rw[Sz s w (fun e=>n e.1) y]
       congr 1
       apply KW (by simp[z]);intro i d F;rw[xH,bg (by simpa using d),bg F];exact(h4 i (by simpa using d)).2
theorem U_(n:Nat){w:aB}(h:Inv s gl u)(m:some w∈cP s n gl u):qIk u w/\Holds s w gl:=by
 refine rJ (P:=fun a d=>Inv s a d/\∀x,qIk d x->Holds s x a->qIk u x/\Holds s x gl) (fun a d c k hc=>⟨(ka k.1 c hc).1,fun x i b=> ?_⟩) n gl u w ⟨h,fun x i b=>⟨i,b⟩⟩ m|>.2 w (qIk.refl w) fun g p=>by cases p
 obtain⟨l,o⟩:=Xq k.1 c hc x i b;exact k.2 x l o
theorem Nm(a:T):T.cmp a a=0:=by have:=tV a a;omega
def oB(V:Int->Prop)(t:T):Prop:=∀x,x∈t.nodes->x.f= -1->V x.v
structure KInv(V:Int->Prop)(gl:bR)(u:aB):Prop where
 k:∀b,b∈u->V b.v
 p:∀g,g∈gl->∀x,x∈g.ps->oB V x
 o:(u.map Bd.v).Pairwise (·<·)
theorem qAa{v:Int}(h:getB u v=none):∀b,b∈u->b.v≠v:=fun b a c=>by unfold getB at h;rw[MM,List.find?_eq_none]at h;exact h b a (by simp[c])
theorem TZ{v:Int}(t:T)(p:getB u v=none)(h:(u.map Bd.v).Pairwise (·<·)):((cC u v t).map Bd.v).Pairwise (·<·):=by
 have l:=qAa p;rw[List.pairwise_map]at h⊢
 have m:∀b,b∈u.take (fD u v)->b.v<v:=fun b c=>by
  obtain⟨i,hi,rfl⟩:=lU c;rw[rO]at hi;have k:=l _ (sF c);rw[List.getElem_take,cY (by omega)]at k⊢
  have n:=JJ u v i (by omega) (by omega);omega
 have d:∀b,b∈u.drop (fD u v)->v<b.v:=fun b c=>by
  by_cases g:fD u v<u.length
  ·have n:=Jk u v g
   have o:=h.sublist (List.drop_sublist (fD u v) u);rw[dl g,cY g]at o c;rcases bK.1 c with rfl|c
   ·exact n
   ·have:=(jc.1 o).1 b c
    omega
  ·rw[ki (by omega)]at c;cases c
 unfold cC;rw[jL];refine⟨h.sublist (List.take_sublist _ _),jc.2 ⟨d,h.sublist (List.drop_sublist _ _)⟩,fun a q b c=> ?_⟩;have k:=m a q;rcases bK.1 c with rfl|c
 ·exact k
 ·have:=d b c;omega
variable{V:Int->Prop}
theorem Jc{v:Int}(h:oB V (.node f v ks)):∀k,k∈ks->oB V k:=fun k b x a c=>h x (by simp only[T.nodes,bK];exact .inr (FT b a)) c
theorem GW{p:T}(h:oB V p)(a:p.f= -1):V p.v:=h p (by cases p;simp[T.nodes]) a
theorem ZP(hi:Inv s gl u)(h:KInv V gl u)(c:bR×aB)(hc:c∈b7 s gl u):KInv V c.1 c.2:=by
 have l:∀v t,V v->cW u v=none->(∀b,b∈cC u v t->V b.v)/\((cC u v t).map Bd.v).Pairwise (·<·):=fun v t z M=>
  ⟨fun b H=>by
   rcases Ci H with rfl|H
   ·exact z
   ·exact h.k b H,TZ t (DY M) h.o⟩
 match gl,hi,h,hc with
 | [],hi,h,hc=>simp[b7]at hc
 |⟨true,f,ps,ts⟩::rest,hi,h,hc=>
  have y:∀g,g∈rest->∀x,x∈g.ps->oB V x:=fun g a=>h.p g (em _ a)
  have C:=h.p _ (fH ..);simp only at C;cases ps with
  |nil=>
   simp only[b7]at hc;split at hc
   ·rw[bO]at hc;subst hc;exact⟨h.k,y,h.o⟩
   ·cases hc
  |cons p ps=>
   have q:∀r g,g∈bX f ps r::rest->∀x,x∈g.ps->oB V x:=fun r g a x d=>by
    rcases bK.1 a with rfl|a
    ·exact C x (em _ d)
    ·exact y g a x d
   simp only[b7]at hc;split at hc
   ·rename_i z
    split at hc
    ·split at hc
     ·rw[bO]at hc;subst hc;exact⟨h.k,q _,h.o⟩
     ·cases hc
    ·rename_i G
     obtain⟨m,_,rfl⟩:=cw.1 hc;have:=l p.v (cU s f (bJ ts (m+1) ts.length)) (GW (C p (fH ..)) z) G;exact⟨this.1,q _,this.2⟩
   ·obtain⟨i,_,rfl⟩:=cw.1 hc
    refine⟨h.k,fun g a x d=> ?_,h.o⟩;rcases bK.1 a with rfl|a
    ·simp only[ci,bO]at d;subst d;exact C _ (fH ..)
    ·exact q _ g a x d
 |⟨false,f,ps,ts⟩::rest,hi,h,hc=>
  have y:∀g,g∈rest->∀x,x∈g.ps->oB V x:=fun g a=>h.p g (em _ a)
  have a:=hi.g _ (fH ..);obtain⟨p,t,C,I⟩:=a.2.2.2.2 rfl;simp only at C I;subst C I;have w:=h.p _ (fH ..) p (bO.2 rfl);rw[eP]at hc
  by_cases z:p.f= -1
  ·rw[aw z]at hc
   split at hc
   ·rename_i G
    rw[bO]at hc;subst hc
    have:=l p.v t (GW w z) G;exact⟨this.1,y,this.2⟩
   ·split at hc
    ·rw[bO]at hc;subst hc;exact⟨h.k,y,h.o⟩
    ·cases hc
  ·rw[au z]at hc
   by_cases D:p.f=t.f
   case neg=>rw[aw D]at hc;cases hc
   case pos=>
    rw[au (fun h=>h D)]at hc
    by_cases F:bI s p.f=true
    ·rw[aw F,bO]at hc;subst hc
     refine⟨h.k,fun g a x d=> ?_,h.o⟩;rcases bK.1 a with rfl|a
     ·obtain⟨J,K,N⟩:=p
      exact Jc w x d
     ·exact y g a x d
    ·rw[au F]at hc
     by_cases n:p.kids.length=t.kids.length
     case neg=>rw[aw n]at hc;cases hc
     case pos=>
      rw[au (fun h=>h n),bO]at hc;subst hc
      refine⟨h.k,fun g a x d=> ?_,h.o⟩;rcases bC.1 a with a|a
      ·obtain⟨i,hi,rfl⟩:=cw.1 a
       have hi:=f_.1 hi;simp only[ci,bO]at d;subst d
       obtain⟨J,K,N⟩:=p;exact Jc w _ (bV hi)
      ·exact y g a x d
theorem qKW(n:Nat){w:aB}(hi:Inv s gl u)(h:KInv V gl u)(b:some w∈cP s n gl u):KInv V [] w:=(rJ (P:=fun gl u=>Inv s gl u/\KInv V gl u) (fun gl u c a hc=>⟨(ka a.1 c hc).1,ZP a.1 a.2 c hc⟩) n gl u w ⟨hi,h⟩ b).2
theorem qJk{a b:aX}(c:a.Pairwise (·<·))(d:b.Pairwise (·<·))(h:∀x,x∈a↔x∈b):a=b:=Lb (le:=(·<·)) (fun x y _ _ i g=>by omega) c d ((List.perm_ext_iff_of_nodup (c.imp fun h=>by omega) (d.imp fun h=>by omega)).2 h)
theorem tH{p t:T}(d:fb s p=true)(c:fb s t=true)(i:dX t=false):Inv s [ci p t] []:=by
 unfold fb at d c;simp only[aQ,bu]at d c;refine⟨fun g h=> ?_,fun b k=>by(cases k),?_⟩
 ·rw[bO]at h;subst h
  refine⟨?_,fun x a=> ?_,fun x a=> ?_,fun e=>by(cases e),fun _=>⟨_,_,rfl,rfl⟩⟩
  ·simp only[ci,dZ]
   have:bw []=0:=rfl;omega
  ·simp only[ci,bO]at a;subst a;exact⟨i,c.2.2⟩
  ·simp only[ci,bO]at a;subst a;exact d.2.2
 ·rw[gk,tG]
  have:fN []=0:=rfl;simp only[iL];omega
theorem Kw(p t:T):fN [ci p t]=3*p.inner+2:=by rw[gk,tG];rfl
theorem Yq{p t:T}(G:fb s p=true)(D:fb s t=true)(h:dX t=false){n:Nat}{w:aB}(m:some w∈cP s n [ci p t] []):f8 s w p=t/\w.map Bd.v=kI p:=by
 have hi:=tH G D h;obtain⟨_,C⟩:=U_ n hi m;have r:=C _ (bO.2 rfl);have q:=qKW (V:=fun v=>v∈kI p) n hi ⟨fun b i=>by(cases i),fun g z x a=>by
  rw[bO]at z;subst z
  simp only[ci,bO]at a;subst a
  exact fun y F l=>(NL _ _).2 ⟨y,F,l,rfl⟩,ns⟩ m
 refine⟨by have:=r.2.2 rfl;simpa[ci]using this,qJk q.o (VU p) fun v=>⟨fun c=> ?_,fun c=> ?_⟩⟩
 ·obtain⟨b,i,rfl⟩:=cw.1 c
  exact q.k b i
 ·obtain⟨x,a,l,rfl⟩:=(NL _ _).1 c
  have:=r.1 p (bO.2 rfl) x a l;obtain⟨H,d⟩:=oU.1 this;exact cw.2 ⟨_,SZ d,rfl⟩
theorem Lu(u:aB):fQ u u=true:=by
 unfold fQ;simp only[decide_true,fh,Mh];cases h:a8 (fI u u) u.length 0 with
 |none=>rfl
 |some j=>have:=(eQ _ _ _ _ h).2.2;unfold fI at this;simp[Nm]at this
theorem MS.qsT:∀(a:List (Option aB)) (S:MS) (x:aB),x∈(S.run a).ways->x∈S.ways\/some x∈a
 | [],S,x,h=> .inl h
 |e::a,S,x,h=>by
  rcases MS.qsT a (S.ev e) x h with h|h
  ·unfold MS.ev at h
   split at h
   ·exact .inl h
   ·cases e with
    |none=>exact .inl h
    |some u=>
     simp only at h;split at h
     ·exact .inl h
     ·rcases bC.1 h with h|h
      ·exact .inl h
      ·rw[bO]at h;subst h
       exact .inr (fH ..)
  ·exact .inr (em _ h)
def lp(s:aF)(p t:T):Bool:=fb s p&&(fb s t&& !dX t)
def mN:MS:=⟨[],0,false⟩
def fL(s:aF)(p t:T):MS:=mN.run (cP s (3*p.inner+3) [ci p t] [])
def dY(s:aF)(p t:T):List aB×Bool:=if lp s p t=true/\(fL s p t).done=false then((fL s p t).ways,true)else([],false)
theorem E7:mN.good:=⟨by decide,by decide,by decide,fun w a=>by cases a⟩
theorem Vi{t:T}(h:fb s t=true):t.inner+1<=60:=by unfold fb at h;simp only[aQ,bu]at h;exact h.2.1
theorem z_(s:aF)(p t:T):lp s p t=true↔fb s p=true/\fb s t=true/\dX t=false:=by unfold lp;simp
theorem Kc(s:aF)(o:s.length<=1099511627776)(D:∀i,i<s.length->(aZ s i).name.size<=1099511627776)(p t:T)(H:p.inner<=1099511627776)(F:t.inner<=1099511627776):
 ap XV 307 [.d (sg s),.d (p.enc .sub),.d (t.enc .sub)] []=some (.d (.tup [dI (dY s p t).1,.bool (dY s p t).2]),[]):=by
 have a:=KL s o D p H;have k:=KL s o D t F;have m:=quN t F;rw[aN 307 mY rfl];cases c:lp s p t with
 |false=>
  have w:dY s p t=([],false):=by unfold dY;rw[c];simp
  rw[w];unfold lp at c;obtain⟨z,C,G⟩:=p;obtain⟨n,x,y⟩:=t;cases c1:fb s (.node z C G)with
  |false=>simp[mY,a,c1]
  |true=>
   cases b:fb s (.node n x y)with
   |false=>simp[mY,a,k,c1,b]
   |true=>
    cases l:dX (.node n x y)with
    |true=>simp[mY,a,k,m,c1,b,l]
    |false=>rw[c1,b,l]at c;cases c
 |true=>
  obtain⟨c1,b,l⟩:=(z_ s p t).1 c;have hi:=tH c1 b l;rw[c1]at a;rw[b]at k;rw[l]at m;have h:ap XV 318 [.ptr 2 0,.d (bD .sub [ci p t]),.d (binds .sub [])] [some [aa p.f,aa p.v,.d (ai .sub p.kids)],some [aa t.f,aa t.v,.d (ai .sub t.kids)],some (mB s mN)]=some (.d (.tup []),[some [aa p.f,aa p.v,.d (ai .sub p.kids)],some [aa t.f,aa t.v,.d (ai .sub t.kids)],some (mB s (fL s p t))]):=Jd s o (3*p.inner+3) [ci p t] [] mN [some [aa p.f,aa p.v,.d (ai .sub p.kids)],some [aa t.f,aa t.v,.d (ai .sub t.kids)]] [] hi (by rw[Kw];omega) E7
  have g:ap XV 319 [.ptr 2 0] [some [aa p.f,aa p.v,.d (ai .sub p.kids)],some [aa t.f,aa t.v,.d (ai .sub t.kids)],some (mB s (fL s p t))]=some (ax (fL s p t).done,[some [aa p.f,aa p.v,.d (ai .sub p.kids)],some [aa t.f,aa t.v,.d (ai .sub t.kids)],some (mB s (fL s p t))]):=nK s (fL s p t) [some [aa p.f,aa p.v,.d (ai .sub p.kids)],some [aa t.f,aa t.v,.d (ai .sub t.kids)]] []
  have w:dY s p t=if(fL s p t).done=true then([],false)else((fL s p t).ways,true):=by unfold dY;rw[c];cases(fL s p t).done<;>simp
  rw[w];have hE:(ci p t).enc .sub= .agg [.bool false,.int .i64 0,.sl .sub [p.enc .sub],.sl .sub [t.enc .sub]]:=rfl;simp only[bD,bA,cM,hE,binds]at h;have q:mB s mN=[.d (sg s),.d (.sl U []),aa 60,aa 0,aa 20000,ax false]:=rfl;rw[q]at h;generalize fL s p t=S at*
  have r:mB s S=[.d (sg s),.d (dI S.ways),aa 60,aa S.steps,aa 20000,ax S.over]:=rfl;obtain⟨z,C,G⟩:=p;obtain⟨n,x,y⟩:=t;simp only[T.qaO,T.qbT,T.qaD]at h g;cases hdd:S.done with
  |true=>rw[hdd]at g;simp[mY,a,k,m,h,g,splice]
  |false=>rw[hdd]at g;rw[r]at h g;simp[mY,a,k,m,h,g,splice]
theorem MS.good.fuel{S:MS}(h:S.good)(a:S.done=false):S.steps<=20000/\S.ways.length<=60:=by
 have b:=h.o;unfold MS.done at a;simp only[kC,jN]at a;rw[a.1]at b;have:¬20000<S.steps:=by simpa using b.symm
 exact⟨by omega,by omega⟩
theorem Ua{p t:T}(h:lp s p t=true):(fL s p t).good:=by obtain⟨c1,b,c⟩:=(z_ s p t).1 h;exact MS.good.run _ E7 fun w a=>Gt _ (tH c1 b c) a
theorem qmX(s:aF)(G:s.length<=1099511627776)(N:∀i,i<s.length->(aZ s i).name.size<=1099511627776)(p t:T)(W:p.inner<=1099511627776)(M:t.inner<=1099511627776):
 ap XV 306 [.d (sg s),.d (p.enc .sub),.d (t.enc .sub)] []=some (.d (.tup [dI (dY s p t).1,.bool (dY s p t).2]),[]):=by
 have b:=Mu s G N p W;have g:=Mu s G N t M;have l:=KZ t M;rw[aN 306 lf rfl];cases c:lp s p t with
 |false=>
  have H:dY s p t=([],false):=by unfold dY;rw[c];simp
  rw[H];unfold lp at c;obtain⟨J,K,O⟩:=p;obtain⟨z,I,r⟩:=t;cases c1:fb s (.node J K O)with
  |false=>simp[lf,b,c1]
  |true=>
   cases k:fb s (.node z I r)with
   |false=>simp[lf,b,g,c1,k]
   |true=>
    cases m:dX (.node z I r)with
    |true=>simp[lf,b,g,l,c1,k,m]
    |false=>rw[c1,k,m]at c;cases c
 |true=>
  obtain⟨c1,k,m⟩:=(z_ s p t).1 c;have hi:=tH c1 k m;have X:=Vi c1;rw[c1]at b;rw[k]at g;rw[m]at l;obtain⟨q,Q,o⟩:=K3 s G (3*p.inner+3) [ci p t] [] mN [] 20000 0 [some [aa p.f,aa p.v,.d (ai .sub p.kids)],some [aa t.f,aa t.v,.d (ai .sub t.kids)]] hi (by rw[Kw];omega) (by omega) E7
   ⟨by decide,by decide,by decide,fun w Z=>(by cases Z),fun _=>⟨rfl,rfl⟩,fun h=>(by cases h)⟩ (by omega)
  have a:ap XV 310 [.ptr 2 0,.d (b8 [ci p t]),.d (binds .sub [])] [some [aa p.f,aa p.v,.d (ai .sub p.kids)],some [aa t.f,aa t.v,.d (ai .sub t.kids)],some (rB s [] 20000)]=some (.d (.tup []),[some [aa p.f,aa p.v,.d (ai .sub p.kids)],some [aa t.f,aa t.v,.d (ai .sub t.kids)],some (rB s q.1 q.2)]):=Q [];rw[show mN.run (cP s (3*p.inner+3) [ci p t] [])=fL s p t from rfl]at o;have H:dY s p t=if(fL s p t).done=true then([],false)else((fL s p t).ways,true):=by unfold dY;rw[c];cases(fL s p t).done<;>simp
  rw[H];have y:=Ua c;have hE:(ci p t).encR= .agg [.int .i64 (-1),.sl .sub [p.enc .sub],.sl .sub [t.enc .sub]]:=rfl;simp only[b8,bA,cM,hE,binds]at a;have C:rB s [] 20000=[.d (sg s),.d (.sl U []),aa 20000]:=rfl;rw[C]at a;generalize fL s p t=S at*
  obtain⟨ws,fuel⟩:=q;simp only at a o;have D:rB s ws fuel=[.d (sg s),.d (dI ws),aa fuel]:=rfl;rw[D]at a;obtain⟨J,K,O⟩:=p;obtain⟨z,I,r⟩:=t;simp only[T.qaO,T.qbT,T.qaD]at a;cases hdd:S.done with
  |true=>
   have hd:=o.d hdd
   by_cases n:fuel<0
   ·simp[lf,b,g,l,a,n,splice]
   ·have x:(60:Int)<(ws.length:Int):=by omega
    simp[lf,b,g,l,a,n,x,splice]
  |false=>
   obtain⟨F,R⟩:=o.nd hdd;have Y:=y.fuel hdd;subst F;have n:¬fuel<0:=by omega
   have x:¬(60:Int)<(S.ways.length:Int):=by omega
   simp[lf,b,g,l,a,n,x,splice]
def qz(s:aF)(p t:T):aB×Bool:=if(dY s p t).2=true/\(dY s p t).1.length≠0 then(dq (dY s p t).1 0,true)else([],false)
theorem It{p t:T}(h:(dY s p t).2=false):(dY s p t).1=[]:=by
 unfold dY at*
 split at h
 ·cases h
 ·rename_i hc;rw[au hc]
theorem qI1(g:Tag)(h:ws.length≠0):(ws.map (binds g))[0]?=some (binds g (dq ws 0)):=by
 cases ws with
 |nil=>simp at h
 |cons w ws=>rfl
theorem IQ(s:aF)(k:s.length<=1099511627776)(h:∀i,i<s.length->(aZ s i).name.size<=1099511627776)(p t:T)(n:p.inner<=1099511627776)(m:t.inner<=1099511627776):
 ap XV 336 [.d (sg s),.d (p.enc .sub),.d (t.enc .sub)] []=some (.d (.tup [binds U (qz s p t).1,.bool (qz s p t).2]),[]):=by
 have a:=Kc s k h p t n m;rw[aN 336 p_ rfl];have b:=It (s:=s) (p:=p) (t:=t);unfold qz;generalize dY s p t=q at*
 obtain⟨ws,ok⟩:=q;obtain⟨o,r,z⟩:=p;obtain⟨w,x,y⟩:=t;simp only at a b⊢
 cases ok with
 |false=>simp[p_,a]
 |true=>
  by_cases c:ws.length=0
  ·have c1:(ws.length:Int)=0:=by omega
   have g:((ws.length:Int)==0)=true:=by simp[c1]
   simp[p_,a,c]
  ·have c1:¬(ws.length:Int)=0:=by omega
   have g:((ws.length:Int)==0)=false:=by simpa using c1
   have l:=qI1 U c;simp[p_,a,c,g,l,cut]
theorem QU(s:aF)(c:s.length<=1099511627776)(a:∀i,i<s.length->(aZ s i).name.size<=1099511627776)(p t:T)(h:p.inner<=1099511627776)(g:t.inner<=1099511627776):
 ap XV 335 [.d (sg s),.d (p.enc .sub),.d (t.enc .sub)] []=some (ax (qz s p t).2,[]):=by
 have b:=IQ s c a p t h g;rw[aN 335 yk rfl];generalize qz s p t=q at*
 obtain⟨k,l,r⟩:=p;obtain⟨m,n,o⟩:=t;simp[yk,b]
theorem yX:∀i,i<cD.length->(aZ cD i).name.size<=1099511627776:=fun i hi=>by have:=Vq.nm 9 (by omega) i hi;omega
theorem Wq(ws:List aB)(l:ws.length<=1099511627776)(k:∀w,w∈ws->small w):ap XV 297 [.d (eR .sub ws),.d (eR .sub ws)] []=some (ax true,[]):=by
 rw[aN 297 vW rfl];have a:=cd (X:=XV) (T:=XV.lin 297) (L:=0) (live:=[0,1,5]) (b:=yg) (n:=ws.length) (γ:=Unit) (st:=fun(_:Unit) i=>⟨[(0,.d (eR .sub ws)),(1,.d (eR .sub ws)),(5,aa i)],[]⟩) (step:=fun _ _=> .inl ())
  (F:=fun _=>(.exit 0,⟨[(0,.d (eR .sub ws)),(1,.d (eR .sub ws)),(5,aa ws.length),(14,ax false)],[]⟩)) (R:=fun _=>(.ret,⟨[],[]⟩))
  (fun _=>⟨by simp,by simp[yg]⟩)
  (fun _ i hi=>by have h:=bE (n:=i) (by omega);have c:=k _ (pc hi);have g:=Iw (dq ws i) (dq ws i) c.1 c.1 c.2 c.2;rw[Lu]at g;exact⟨_,by simp[yg,Z5,hi,h,cut,l7 hi,g];rfl,by simp[aJ,aG]⟩)
  ws.length () 0 ⟨[(0,.d (eR .sub ws)),(1,.d (eR .sub ws)),(5,aa 0)],[]⟩ (by omega) (by simp[aJ,aG])
 rw[kD]at a;simp only[Rx]at a;simp[vW];rw[a];simp
theorem Yg{p t:T}{w:aB}(a:w∈(dY s p t).1):(lp s p t=true)/\f8 s w p=t/\w.map Bd.v=kI p/\w.length<=1000000/\∀b,b∈w->b.t.inner<=1000:=by
 unfold dY at a;split at a
 ·rename_i h
  obtain⟨c1,k,i⟩:=(z_ s p t).1 h.1;rcases MS.qsT _ _ _ a with d|d
  ·cases d
  ·have g:=rJ (P:=Inv s) (fun gl u c q hc=>(ka q c hc).1) _ _ _ _ (tH c1 k i) d
   obtain⟨l,o⟩:=Yq c1 k i d;exact⟨h.1,l,o,by have:=g.m;omega,fun b n=>(g.b b n).1⟩
 ·cases a
theorem Q9(s:aF)(p t:T):(dY s p t).1.length<=61:=by
 unfold dY;split
 ·exact MS.qIc mN _ (by decide)
 ·simp
theorem qky(bs:aX)(hl:bs.length<=maxLen):∃B,ap XV 379 [.d (.sl .sub (bs.map (.int .u8)))] []=some (ax true,B):=by
 rw[aN 379 sZ rfl];have k:=qXW bs
 by_cases W:1048576<bs.length
 ·simp only[W,decide_true]at k
  simp[sZ,k]
 have N:bs.length<=1099511627776:=by omega
 simp only[W,decide_false]at k;obtain⟨p,t,hp,ht,d1⟩:=PX bs N;have S:=Kc cD (by decide) yX p t (by omega) (by omega);have Z:=qmX cD (by decide) yX p t (by omega) (by omega);have C:=IQ cD (by decide) yX p t (by omega) (by omega);have y:=QU cD (by decide) yX p t (by omega) (by omega);have hv:=qpB p (by omega);have h:∀w,w∈(dY cD p t).1->_:=fun w D=>Yg D
 have K:=Q9 cD p t;have I:=It (s:=cD) (p:=p) (t:=t);unfold qz at C y;generalize dY cD p t=q at*
 obtain⟨ws,ok⟩:=q;simp only at S Z C y h K I;have x:∀w,w∈ws->small w:=fun w D=>⟨by have:=(h w D).2.2.2.1;omega,fun i hi=>cT ((h w D).2.2.2.2 _ (uv hi)) (by omega)⟩
 have M:=Wq ws (by omega) x;obtain⟨l,m,o⟩:=p;obtain⟨G,H,z⟩:=t;have g:=cd (X:=XV) (T:=XV.lin 379) (L:=2) (live:=[3,4,5,6,10]) (b:=uW) (n:=ws.length) (γ:=Unit) (st:=fun(_:Unit) i=>⟨[(3,.d (sg cD)),(4,.ptr 0 0),(5,.ptr 1 0),(6,.d (eR .sub ws)),(10,aa i)],[some [aa l,aa m,.d (ai .sub o)],some [aa G,aa H,.d (ai .sub z)]]⟩) (step:=fun _ _=> .inl ())
  (F:=fun _=>(.exit 0,⟨[(3,.d (sg cD)),(4,.ptr 0 0),(5,.ptr 1 0),(6,.d (eR .sub ws)),(10,aa ws.length),(47,ax false)],[some [aa l,aa m,.d (ai .sub o)],some [aa G,aa H,.d (ai .sub z)]]⟩)) (R:=fun _=>(.ret,⟨[],[]⟩))
  (fun _=>⟨by simp,by simp[uW]⟩)
  (fun _ i hi=>by
   have D:=bE (n:=i) (by omega);have r:=h _ (pc hi);have a:=x _ (pc hi);have hM:∀j,j<(dq ws i).length->(aH (dq ws i) j).t.inner<=1000:=fun j hj=>r.2.2.2.2 _ (uv hj)
   have it:(cS (dq ws i) (.node l m o)).inner<=10000:=by have:=EB (dq ws i) 1000 hM (.node l m o);have:((T.node l m o).inner+1)*(1000+1)<=7*1001:=Nat.mul_le_mul (by omega) (by omega);omega
   have Y:=SP cD (by decide) (dq ws i) (.node l m o) a.1 a.2 (by omega) (by omega);have e1:m0 cD (dq ws i) (.node l m o)= .node G H z:=r.2.1;rw[e1]at Y;have s1:=same_eq (.node G H z) (.node G H z) (by omega) (by omega);rw[Nm]at s1;have Q:(dq ws i).length=(kI (.node l m o)).length:=by rw[<-r.2.2.1,eo]
   exact⟨_,by simp[uW,qRt,hi,D,cut,l7 hi,Y,s1,hv,Q];rfl,by simp[aJ,aG]⟩)
  ws.length () 0 ⟨[(3,.d (sg cD)),(4,.ptr 0 0),(5,.ptr 1 0),(6,.d (eR .sub ws)),(10,aa 0)],[some [aa l,aa m,.d (ai .sub o)],some [aa G,aa H,.d (ai .sub z)]]⟩ (by omega) (by simp[aJ,aG])
 rw[kD]at g;simp only[Sm]at g;simp[sZ,k,d1,S,Z,M,splice];rw[g]
 by_cases c:ws.length=0
 ·have c0:¬(0:Int)<(ws.length:Int):=by omega
  rw[au (by rw[c];simp)]at C y;simp[C,y,c]
 ·have hk:ok=true:=by
   cases ok with
   |true=>rfl
   |false=>rw[I rfl]at c;simp at c
  have c0:(0:Int)<(ws.length:Int):=by omega
  have c1:0<ws.length:=by omega
  rw[aw ⟨hk,c⟩]at C y;have a:=x _ (pc (show 0<ws.length by omega));have J:=Iw (dq ws 0) (dq ws 0) a.1 a.1 a.2 a.2;rw[Lu]at J;have O:ws[0]'c1=dq ws 0:=l7 c1;simp[C,y,c1,J,O,cut]
mutual
def TT.erase:TT->T
 | .node f v g ks=> .node f v (TT.erases ks)
def TT.erases:List TT->ah
 | []=>[]
 |t::r=>t.erase::TT.erases r
end
mutual
theorem TT.qdA:∀t:TT,DV.clrs t.cells=[.int .i64 t.erase.f,.int .i64 t.erase.v,ai .sub t.erase.kids]
 | .node f v g ks=>by simp only[TT.cells,DV.clrs,DV.clr,TT.erase,T.qaO,T.qbT,T.qaD,ai];rw[TT.qeh ks]
theorem TT.qeh:∀l:List TT,DV.clrs (TT.encs l)=(TT.erases l).map (T.enc .sub)
 | []=>by simp[TT.encs,DV.clrs,TT.erases]
 |t::r=>by simp only[TT.encs,DV.clrs,DV.clr,TT.erases,bA];rw[TT.qdA t,TT.qeh r,T.qbD]
end
theorem TT.qfU(t:TT):t.enc.clr=t.erase.enc .sub:=by simp only[TT.enc,DV.clr];rw[TT.qdA,T.qbD]
theorem Of(c:XOK XV){k:Nat}{vs:al}(h:∃B,ap XV k ((DV.clrs vs).map .d) []=some (ax true,B)):∃A B,qo E [] k (vs.map .d) [] Ids.none=some ⟨ax true,A,B⟩:=by
 obtain⟨B,h⟩:=h;obtain⟨u,A,Bv,b,a⟩:=Vx c (DV.qcY vs) (DV.qcX vs) (d:= .bool true) (by simp[DV.clr]) h;simp only[DV.fit]at a;subst a
 exact⟨A,Bv,b⟩
theorem Yl{P:Program}{a:TypeId}:∀{xs:List al},pK P [a] xs->∃x,xs=[x]
 | [x],_=>⟨x,rfl⟩
 | [],h=>h.elim
 |_::_::_,h=>h.2.elim
structure L where
 p:Bool
 a:T
 b:T
def L.enc(g:Tag)(x:L):DV:= .agg [.bool x.p,.int .i64 x.a.f,.int .i64 x.a.v,ai g x.a.kids,.int .i64 x.b.f,.int .i64 x.b.v,ai g x.b.kids]
def L.ok(x:L):Prop:=x.a.ok/\x.b.ok
@[simp] theorem L.qgL(g:Tag)(x:L):(x.enc g).cells=[.bool x.p,.int .i64 x.a.f,.int .i64 x.a.v,ai g x.a.kids,.int .i64 x.b.f,.int .i64 x.b.v,ai g x.b.kids]:=rfl
@[simp] theorem L.qjJ(g:Tag)(x:L):(AV.d (x.enc g)).cells=[ax x.p,aa x.a.f,aa x.a.v,.d (ai g x.a.kids),aa x.b.f,aa x.b.v,.d (ai g x.b.kids)]:=rfl
@[simp] theorem L.qjI(g:Tag)(x:L):(x.enc g).isCell=false:=rfl
@[simp] theorem L.qfU(g:Tag)(x:L):(x.enc g).clr=x.enc .sub:=by simp only[L.enc,DV.clr,DV.clrs,ai,DV.qaw,kn]
theorem L.agg_enc(g:Tag)(x:L):DV.agg [.bool x.p,.int .i64 x.a.f,.int .i64 x.a.v,ai g x.a.kids,.int .i64 x.b.f,.int .i64 x.b.v,ai g x.b.kids]=x.enc g:=rfl
def L.cmp(x y:L):Int:=if !x.p&&y.p then-1 else if x.p&& !y.p then 1 else if T.cmp x.a y.a≠0 then T.cmp x.a y.a else T.cmp x.b y.b
def L.same(x y:L):Bool:=x.p==y.p&&(T.cmp x.a y.a==0)&&(T.cmp x.b y.b==0)
theorem L.cmp_zero(x y:L):(L.cmp x y==0)=L.same x y:=by obtain⟨p,a,b⟩:=x;obtain⟨q,a',d⟩:=y;unfold L.cmp L.same;cases p<;>cases q<;>by_cases c:T.cmp a a'=0<;>simp[c]
variable {P:Program}
structure LL where
 p:Bool
 a:TT
 b:TT
def LL.cells(x:LL):al:= .bool x.p::(x.a.cells++x.b.cells)
def LL.enc(x:LL):DV:= .agg x.cells
def LL.ok(x:LL):Prop:=x.a.ok/\x.b.ok
def LL.erase(x:LL):L:=⟨x.p,x.a.erase,x.b.erase⟩
theorem LL.qfU(x:LL):x.enc.clr=x.erase.enc .sub:=by have c:=TT.qdA x.a;have d:=TT.qdA x.b;rw[DV.qaw]at c d;simp only[LL.enc,LL.cells,DV.clr,DV.qaw,bA,c6,c,d,LL.erase,L.enc];rfl
variable{e:TypeId}
theorem Td(c:α->al)(ok:α->Prop){t:TypeId}{x:al}(n:P.underlying t=some (.slice e))(hE:∀y:al,Shape P e y->∃s:α,y=c s/\ok s)(h:Shape P t x):
 ∃(g:Tag) (l:List α),x=[.sl g (l.map fun s=>d_ P e (c s))]/\l.length<=maxLen/\∀s,s∈l->ok s:=by
 obtain⟨g,xs,rfl,q,C,m,o⟩:=qtv n h;have key:∀xs:al,(∀y:DV,y∈xs->y=d_ P e y.cells)->(∀y:DV,y∈xs->Shape P e y.cells)->∃l:List α,xs=(l.map fun s=>d_ P e (c s))/\∀s,s∈l->ok s:=by
  intro xs
  induction xs with
  |nil=>intro _ _;exact⟨[],rfl,by simp⟩
  |cons y r w=>intro k i;obtain⟨l,rfl,a⟩:=w (fun z d=>k z (by simp[d])) (fun z d=>i z (by simp[d]));obtain⟨s,p,b⟩:=hE _ (i y (by simp));refine⟨s::l,?_,by simpa[b]using a⟩;have:=k y (by simp);rw[p]at this;rw[bA,<-this]
 obtain⟨l,rfl,a⟩:=key xs m o;exact⟨g,l,rfl,by simpa using q,a⟩
structure BB where
 v:Int
 t:TT
def BB.cells(x:BB):al:= .int .i64 x.v::x.t.cells
def BB.enc(x:BB):DV:= .agg x.cells
def BB.ok(x:BB):Prop:=(-9223372036854775808<=x.v/\x.v<=9223372036854775807)/\x.t.ok
def BB.erase(x:BB):Bd:=⟨x.v,x.t.erase⟩
theorem BB.qfU(x:BB):x.enc.clr=x.erase.enc .sub:=by have a:=TT.qdA x.t;rw[DV.qaw]at a;simp only[BB.enc,BB.cells,DV.clr,DV.qaw,bA,a,BB.erase,Bd.enc]
def sH(g:Tag)(l:aX):DV:= .sl g (l.map (.int .u8))
theorem VI(g:Tag)(l:aX):(sH g l).clr= .sl .sub (l.map (.int .u8)):=by simp only[sH,Nx,et,lH,CJ]
theorem PH{t:TypeId}{x:al}(b:P.underlying t=some (.slice e))(a:P.underlying e=some (.int .u8))(h:Shape P t x):∃g l,x=[sH g l]/\l.length<=maxLen:=by
 obtain⟨g,l,rfl,c,_⟩:=Td (fun n:Int=>[DV.int .u8 n]) (fun _=>True) b (fun y d=>by obtain⟨n,rfl,_⟩:=Zp a d;exact⟨n,rfl,trivial⟩) h
 exact⟨g,l,by simp[sH,d_,a],c⟩
end Go.Proofs.YtpcoohnjllclnaaGreat.VS
