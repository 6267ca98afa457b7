/- Contracts of the program's functions on the evaluator without names, and plain lemmas: part 6. -/
import Derived.Test.YtbcbkiaineacpaaGreatXP5
set_option linter.unusedSimpArgs false
set_option linter.unusedVariables false
namespace Go.Proofs.YtbcbkiaineacpaaGreat.VS
def getB(u:List Bd)(v:Int):Option T:=(u.find? fun b=>b.v==v).map Bd.t
def qZk(u w:List Bd):Prop:=∀v t,getB u v=some t->getB w v=some t
theorem qZk.refl(u:List Bd):qZk u u:=fun _ _ h=>h
def Cov(w:List Bd)(t:T):Prop:=∀x,x∈t.nodes->x.f= -1->(getB w x.v).isSome=true
def Gl.holds(s:List SymL)(w:List Bd)(g:Gl):Prop:=
 (∀x,x∈g.ps->Cov w x)/\(g.many=true->(flatK s g.f (g.ps.map (qUA s w))).Perm g.ts)/\(g.many=false->g.ps.map (qUA s w)=g.ts)
theorem qhK{s:List SymL}{p t:T}(hp:qcb s p=true)(ht:qcb s t=true)(hw:qdC t=false):Inv s [qbY p t] []:=by
 unfold qcb at hp ht;simp only[Bool.and_eq_true,decide_eq_true_eq]at hp ht;refine⟨fun g hg=> ?_,fun b hb=>by(cases hb),?_⟩
 ·rw[List.mem_singleton]at hg;subst hg
  refine⟨?_,fun x hx=> ?_,fun x hx=> ?_,fun e=>by(cases e),fun _=>⟨_,_,rfl,rfl⟩⟩
  ·simp only[qbY,qaH]
   have:qaQ []=0:=rfl;omega
  ·simp only[qbY,List.mem_singleton]at hx;subst hx;exact⟨hw,ht.2.2⟩
  ·simp only[qbY,List.mem_singleton]at hx;subst hx;exact hp.2.2
 ·rw[qaT,qhN]
  have:qdw []=0:=rfl;simp only[List.length_nil];omega
theorem qBA(p t:T):qdw [qbY p t]=3*p.inner+2:=by rw[qaT,qhN];rfl
theorem MS.qr2:∀(es:List (Option (List Bd))) (S:MS) (x:List Bd),x∈(S.run es).ways->x∈S.ways\/some x∈es
 | [],S,x,h=> .inl h
 |e::es,S,x,h=>by
  rcases MS.qr2 es (S.ev e) x h with h|h
  ·unfold MS.ev at h
   split at h
   ·exact .inl h
   ·cases e with
    |none=>exact .inl h
    |some u=>
     simp only at h;split at h
     ·exact .inl h
     ·rcases List.mem_append.1 h with h|h
      ·exact .inl h
      ·rw[List.mem_singleton]at h;subst h
       exact .inr (List.mem_cons_self ..)
  ·exact .inr (List.mem_cons_of_mem _ h)
def qf7(s:List SymL)(p t:T):Bool:=qcb s p&&(qcb s t&& !qdC t)
def qfW:MS:=⟨[],0,false⟩
def qge(s:List SymL)(p t:T):MS:=qfW.run (evs s (3*p.inner+3) [qbY p t] [])
def qa8(s:List SymL)(p t:T):List (List Bd)×Bool:=if qf7 s p t=true/\(qge s p t).done=false then((qge s p t).ways,true)else([],false)
theorem qit:qfW.good:=⟨by decide,by decide,by decide,fun w hw=>by cases hw⟩
theorem qpC{s:List SymL}{t:T}(h:qcb s t=true):t.inner+1<=60:=by
 unfold qcb at h;simp only[Bool.and_eq_true,decide_eq_true_eq]at h;exact h.2.1
theorem qfp(s:List SymL)(p t:T):qf7 s p t=true↔qcb s p=true/\qcb s t=true/\qdC t=false:=by
 unfold qf7;simp
theorem qmj(s:List SymL)(hs:s.length<=1099511627776)(hn:∀i,i<s.length->(qax s i).name.size<=1099511627776)(p t:T)(hp:p.inner<=1099511627776)(ht:t.inner<=1099511627776):
 qac XV 307 [.d (sg s),.d (p.enc .sub),.d (t.enc .sub)] []=some (.d (.tup [qbn (qa8 s p t).1,.bool (qa8 s p t).2]),[]):=by
 have h1:=qhM s hs hn p hp;have h2:=qhM s hs hn t ht;have h3:=qtM t ht;rw[qah XV _ _ _ qHa rfl qAt rfl];cases c:qf7 s p t with
 |false=>
  have hm:qa8 s p t=([],false):=by unfold qa8;rw[c];simp
  rw[hm];unfold qf7 at c;obtain⟨pf,pv,pk⟩:=p;obtain⟨tf,tv,tk⟩:=t;cases c1:qcb s (.node pf pv pk)with
  |false=>simp[qHa,qmN,qmM,qmL,qmK,qmJ,qmI,qmH,qmG,h1,c1]
  |true=>
   cases c2:qcb s (.node tf tv tk)with
   |false=>simp[qHa,qmN,qmM,qmL,qmK,qmJ,qmI,qmH,qmG,h1,h2,c1,c2]
   |true=>
    cases c3:qdC (.node tf tv tk)with
    |true=>simp[qHa,qmN,qmM,qmL,qmK,qmJ,qmI,qmH,qmG,h1,h2,h3,c1,c2,c3]
    |false=>rw[c1,c2,c3]at c;cases c
 |true=>
  obtain⟨c1,c2,c3⟩:=(qfp s p t).1 c;have hi:=qhK c1 c2 c3;rw[c1]at h1;rw[c2]at h2;rw[c3]at h3;have hf:qac XV 318 [.ptr 2 0,.d (qaU .sub [qbY p t]),.d (binds .sub [])] [some [.d (.int .i64 p.f),.d (.int .i64 p.v),.d (qaa .sub p.kids)],some [.d (.int .i64 t.f),.d (.int .i64 t.v),.d (qaa .sub t.kids)],some (mB s qfW)]=some (.d (.tup []),[some [.d (.int .i64 p.f),.d (.int .i64 p.v),.d (qaa .sub p.kids)],some [.d (.int .i64 t.f),.d (.int .i64 t.v),.d (qaa .sub t.kids)],some (mB s (qge s p t))]):=
   qxi s hs (3*p.inner+3) [qbY p t] [] qfW [some [.d (.int .i64 p.f),.d (.int .i64 p.v),.d (qaa .sub p.kids)],some [.d (.int .i64 t.f),.d (.int .i64 t.v),.d (qaa .sub t.kids)]] [] hi (by rw[qBA];omega) qit
  have hd:qac XV 319 [.ptr 2 0] [some [.d (.int .i64 p.f),.d (.int .i64 p.v),.d (qaa .sub p.kids)],some [.d (.int .i64 t.f),.d (.int .i64 t.v),.d (qaa .sub t.kids)],some (mB s (qge s p t))]=some (.d (.bool (qge s p t).done),[some [.d (.int .i64 p.f),.d (.int .i64 p.v),.d (qaa .sub p.kids)],some [.d (.int .i64 t.f),.d (.int .i64 t.v),.d (qaa .sub t.kids)],some (mB s (qge s p t))]):=
   qgY s (qge s p t) [some [.d (.int .i64 p.f),.d (.int .i64 p.v),.d (qaa .sub p.kids)],some [.d (.int .i64 t.f),.d (.int .i64 t.v),.d (qaa .sub t.kids)]] []
  have hm:qa8 s p t=if(qge s p t).done=true then([],false)else((qge s p t).ways,true):=by
   unfold qa8;rw[c];cases(qge s p t).done<;>simp
  rw[hm];have hE:(qbY p t).enc .sub= .agg [.bool false,.int .i64 0,.sl .sub [p.enc .sub],.sl .sub [t.enc .sub]]:=rfl;simp only[qaU,List.map_cons,List.map_nil,hE,binds]at hf;have hst:mB s qfW=[.d (sg s),.d (.sl U []),.d (.int .i64 60),.d (.int .i64 0),.d (.int .i64 20000),.d (.bool false)]:=rfl;rw[hst]at hf;generalize qge s p t=S at*
  have hen:mB s S=[.d (sg s),.d (qbn S.ways),.d (.int .i64 60),.d (.int .i64 S.steps),.d (.int .i64 20000),.d (.bool S.over)]:=rfl;obtain⟨pf,pv,pk⟩:=p;obtain⟨tf,tv,tk⟩:=t;simp only[T.qbg,T.qdQ,T.qbd]at hf hd;cases hdd:S.done with
  |true=>
   rw[hdd]at hd;simp[qHa,qmN,qmM,qmL,qmK,qmJ,qmI,qmH,qmG,h1,h2,h3,hf,hd,splice]
  |false=>
   rw[hdd]at hd;rw[hen]at hf hd;simp[qHa,qmN,qmM,qmL,qmK,qmJ,qmI,qmH,qmG,h1,h2,h3,hf,hd,splice]
theorem MS.good.fuel{S:MS}(h:S.good)(hd:S.done=false):S.steps<=20000/\S.ways.length<=60:=by
 have h1:=h.o;unfold MS.done at hd;simp only[Bool.or_eq_false_iff,decide_eq_false_iff_not]at hd;rw[hd.1]at h1;have:¬20000<S.steps:=by simpa using h1.symm
 exact⟨by omega,by omega⟩
theorem qI4{s:List SymL}{p t:T}(h:qf7 s p t=true):(qge s p t).good:=by
 obtain⟨c1,c2,c3⟩:=(qfp s p t).1 h;exact MS.good.run _ qit fun w hw=>qlF _ (qhK c1 c2 c3) hw
theorem qmi(s:List SymL)(hs:s.length<=1099511627776)(hn:∀i,i<s.length->(qax s i).name.size<=1099511627776)(p t:T)(hp:p.inner<=1099511627776)(ht:t.inner<=1099511627776):
 qac XV 306 [.d (sg s),.d (p.enc .sub),.d (t.enc .sub)] []=some (.d (.tup [qbn (qa8 s p t).1,.bool (qa8 s p t).2]),[]):=by
 have h1:=qhd s hs hn p hp;have h2:=qhd s hs hn t ht;have h3:=qqN t ht;rw[qah XV _ _ _ qGi rfl qAu rfl];cases c:qf7 s p t with
 |false=>
  have hm:qa8 s p t=([],false):=by unfold qa8;rw[c];simp
  rw[hm];unfold qf7 at c;obtain⟨pf,pv,pk⟩:=p;obtain⟨tf,tv,tk⟩:=t;cases c1:qcb s (.node pf pv pk)with
  |false=>simp[qGi,qky,qkx,qkw,qkv,qku,qkt,qks,qkr,qkq,h1,c1]
  |true=>
   cases c2:qcb s (.node tf tv tk)with
   |false=>simp[qGi,qky,qkx,qkw,qkv,qku,qkt,qks,qkr,qkq,h1,h2,c1,c2]
   |true=>
    cases c3:qdC (.node tf tv tk)with
    |true=>simp[qGi,qky,qkx,qkw,qkv,qku,qkt,qks,qkr,qkq,h1,h2,h3,c1,c2,c3]
    |false=>rw[c1,c2,c3]at c;cases c
 |true=>
  obtain⟨c1,c2,c3⟩:=(qfp s p t).1 c;have hi:=qhK c1 c2 c3;have hpi:=qpC c1;rw[c1]at h1;rw[c2]at h2;rw[c3]at h3;obtain⟨q,hq,hR⟩:=qLS s hs (3*p.inner+3) [qbY p t] [] qfW [] 20000 0 [some [.d (.int .i64 p.f),.d (.int .i64 p.v),.d (qaa .sub p.kids)],some [.d (.int .i64 t.f),.d (.int .i64 t.v),.d (qaa .sub t.kids)]] hi (by rw[qBA];omega) (by omega) qit
   ⟨by decide,by decide,by decide,fun w hw=>(by cases hw),fun _=>⟨rfl,rfl⟩,fun h=>(by cases h)⟩ (by omega)
  have hf:qac XV 310 [.ptr 2 0,.d (qaK [qbY p t]),.d (binds .sub [])] [some [.d (.int .i64 p.f),.d (.int .i64 p.v),.d (qaa .sub p.kids)],some [.d (.int .i64 t.f),.d (.int .i64 t.v),.d (qaa .sub t.kids)],some (rB s [] 20000)]=some (.d (.tup []),[some [.d (.int .i64 p.f),.d (.int .i64 p.v),.d (qaa .sub p.kids)],some [.d (.int .i64 t.f),.d (.int .i64 t.v),.d (qaa .sub t.kids)],some (rB s q.1 q.2)]):=hq [];rw[show qfW.run (evs s (3*p.inner+3) [qbY p t] [])=qge s p t from rfl]at hR;have hm:qa8 s p t=if(qge s p t).done=true then([],false)else((qge s p t).ways,true):=by
   unfold qa8;rw[c];cases(qge s p t).done<;>simp
  rw[hm];have heg:=qI4 c;have hE:(qbY p t).encR= .agg [.int .i64 (-1),.sl .sub [p.enc .sub],.sl .sub [t.enc .sub]]:=rfl;simp only[qaK,List.map_cons,List.map_nil,hE,binds]at hf;have hst:rB s [] 20000=[.d (sg s),.d (.sl U []),.d (.int .i64 20000)]:=rfl;rw[hst]at hf;generalize qge s p t=S at*
  obtain⟨ws,fuel⟩:=q;simp only at hf hR;have hen:rB s ws fuel=[.d (sg s),.d (qbn ws),.d (.int .i64 fuel)]:=rfl;rw[hen]at hf;obtain⟨pf,pv,pk⟩:=p;obtain⟨tf,tv,tk⟩:=t;simp only[T.qbg,T.qdQ,T.qbd]at hf;cases hdd:S.done with
  |true=>
   have hd:=hR.d hdd
   by_cases c4:fuel<0
   ·simp[qGi,qky,qkx,qkw,qkv,qku,qkt,qks,qkr,qkq,h1,h2,h3,hf,c4,splice]
   ·have c5:(60:Int)<(ws.length:Int):=by omega
    simp[qGi,qky,qkx,qkw,qkv,qku,qkt,qks,qkr,qkq,h1,h2,h3,hf,c4,c5,splice]
  |false=>
   obtain⟨hw1,hf1⟩:=hR.nd hdd;have hd2:=heg.fuel hdd;subst hw1;have c4:¬fuel<0:=by omega
   have c5:¬(60:Int)<(S.ways.length:Int):=by omega
   simp[qGi,qky,qkx,qkw,qkv,qku,qkt,qks,qkr,qkq,h1,h2,h3,hf,c4,c5,splice]
theorem qty(s:List SymL)(p t:T)(w:List Bd)(hw:w∈(qa8 s p t).1):w.length<=1000000/\∀b,b∈w->b.t.inner<=1000:=by
 unfold qa8 at hw;split at hw
 ·rename_i h
  obtain⟨c1,c2,c3⟩:=(qfp s p t).1 h.1;rcases MS.qr2 _ _ _ hw with h1|h1
  ·cases h1
  ·have h2:=qt0 (P:=Inv s) (fun gl u c hp hc=>(qds hp c hc).1) _ _ _ _ (qhK c1 c2 c3) h1
   exact⟨by have:=h2.m;omega,fun b hb=>(h2.b b hb).1⟩
 ·cases hw
theorem qnq:∀(l:List Bd),(∀b,b∈l->b.t.inner<=1000)->qb0 l<=2003*l.length
 | [],_=>by simp[qb0]
 |b::l,h=>by
  have h1:=qnq l fun x hx=>h x (List.mem_cons_of_mem _ hx)
  have h2:=h b (List.mem_cons_self ..);simp only[qb0,List.length_cons];omega
theorem qoZ(l:List (List Bd))(hl:l.length<=1099511627776)(hb:∀w,w∈l->small w):qac XV 242 [.d (qcs .sub l),.d (qcs .sub l)] []=some (.d (.bool true),[]):=by
 rw[qah XV _ _ _ qQ2 rfl qAS rfl];have hloop:=qag (X:=XV) (T:=XV.lin 242) (L:=0) (live:=[0,1,5]) (b:=qxD) (n:=l.length) (γ:=Unit) (st:=fun(_:Unit) i=>⟨[(0,.d (qcs .sub l)),(1,.d (qcs .sub l)),(5,.d (.int .i64 i))],[]⟩) (step:=fun _ _=> .inl ())
  (F:=fun _=>(.exit 0,⟨[(0,.d (qcs .sub l)),(1,.d (qcs .sub l)),(5,.d (.int .i64 l.length)),(14,.d (.bool false))],[]⟩)) (R:=fun _=>(.ret,⟨[],[]⟩))
  (fun _=>⟨by simp,by simp[qxD,qC3,qC0,qC2]⟩)
  (fun _ i hi=>by
   have hw:=qae (n:=i) (by omega);have hs:=hb _ (qj2 hi);have hc':=qrh (wAt l i) hs.1 hs.2;exact⟨_,by simp[qxD,qC3,qU2,qC0,qC2,hi,hw,cut,qgD hi,hc'];rfl,by simp[qad,qab]⟩)
  l.length () 0 ⟨[(0,.d (qcs .sub l)),(1,.d (qcs .sub l)),(5,.d (.int .i64 0))],[]⟩ (by omega) (by simp[qad,qab])
 rw[qdp]at hloop;simp only[qOv]at hloop;simp[qQ2,qKP,qKO,qKN,qKM,qKL];rw[hloop];simp
def wbs(b:Nat):List (List Bd)->qal
 | []=>[]
 |w::q=>bBs b w++wbs (b+(bBs b w).length) q
def qaS(b:Nat):List (List Bd)->List AV
 | []=>[]
 |w::q=>tBs b w::qaS (b+(bBs b w).length) q
def tW(b:Nat)(ws:List (List Bd)):AV:=if ws=[]then .d (qcs .sub [])else .tsl false (b+(wbs b ws).length) 1 ws.length
def bW(b:Nat)(ws:List (List Bd)):qal:=if ws=[]then []else wbs b ws++[some (qaS b ws)]
theorem qey:∀(ws:List (List Bd)) (b:Nat),(qaS b ws).length=ws.length
 | [],b=>rfl
 |w::q,b=>by simp[qaS,qey q]
theorem qch:∀(a c:List (List Bd)) (b:Nat),wbs b (a++c)=wbs b a++wbs (b+(wbs b a).length) c
 | [],c,b=>by simp[wbs]
 |w::q,c,b=>by simp[wbs,qch q c,Nat.add_assoc]
theorem qeX:∀(a c:List (List Bd)) (b:Nat),qaS b (a++c)=qaS b a++qaS (b+(wbs b a).length) c
 | [],c,b=>by simp[qaS,wbs]
 |w::q,c,b=>by simp[qaS,qeX q c,wbs,Nat.add_assoc]
theorem qx9(b:Nat)(w:List Bd):thw b (binds .sub w)=([tBs b w],bBs b w):=by
 cases w with
 |nil=>rfl
 |cons x r=>
  have h:=qmt (x::r) b;simp only[List.map_cons]at h;have ha:qtH (x.enc .sub)=true:=rfl;show thw b (.sl .sub (x.enc .sub::r.map (Bd.enc .sub)))=_;simp only[thw,h,tBs,bBs];simp[ha,qbm]
theorem qpA:∀(ws:List (List Bd)) (b:Nat),qeZ b (ws.map (binds .sub))=(qaS b ws,wbs b ws)
 | [],b=>rfl
 |w::q,b=>by
  rw[List.map_cons];simp only[qeZ,qx9];rw[qpA q];rfl
theorem qBo(b:Nat)(ws:List (List Bd)):(qcs .sub ws).thaw b=(tW b ws,bW b ws):=by
 cases ws with
 |nil=>rfl
 |cons w q=>
  have h:=qpA (w::q) b;simp only[List.map_cons]at h;show qaV b (.sl .sub (binds .sub w::q.map (binds .sub)))=_;simp only[qaV,thw,h,tW,bW];simp[qtH,DV.cells]
theorem qIS(w:List Bd)(n:Nat)(P Q:qal)(hn:(bBs P.length w).length<=n):AV.frzC (P++bBs P.length w++Q) n (tBs P.length w)=some (binds .sub w):=by
 by_cases hp:w=[]
 ·subst hp;simp[tBs,qjq]
 ·have hb:P++bBs P.length w++Q=P++T.bxs P.length (ts w)++(some (qaR P.length w)::Q):=by simp[bBs,hp]
  have hl:(P++T.bxs P.length (ts w)).length=P.length+T.nbs (ts w):=by rw[yg_,qbm]
  have hg:qcu (P++T.bxs P.length (ts w)++(some (qaR P.length w)::Q)) (P.length+T.nbs (ts w))=some (qaR P.length w):=by
   unfold qcu;rw[<-hl,get_at]
  rw[quq,if_neg hp]at hn;rw[hb];unfold tBs;rw[if_neg hp];obtain⟨m,rfl⟩:∃m,n=m+1:=⟨n-1,by omega⟩;simp only[AV.frzC];rw[hg,Option.bind_some,qq3 w m P _ (by omega),Option.bind_some];have hok:=qun .sub w;have hfl:(flat (w.map (Bd.enc .sub))).length=w.length*4:=by rw[qck (fun x hx=>(hok x hx).1)];simp
  rw[if_pos hfl];have hch:=qcG (w.map (Bd.enc .sub)) hok;rw[List.length_map]at hch;rw[hch];rfl
theorem qUw:∀(ws:List (List Bd)) (n:Nat) (P Q:qal),(wbs P.length ws).length<=n->qiK (AV.frzC (P++wbs P.length ws++Q) n) (qaS P.length ws)=some (ws.map (binds .sub))
 | [],n,P,Q,_=>rfl
 |w::q,n,P,Q,hn=>by
  simp only[wbs,yg_]at hn;have h1:=qIS w n P (wbs (P.length+(bBs P.length w).length) q++Q) (by omega);have h2:=qUw q n (P++bBs P.length w) Q (by rw[yg_];omega);rw[yg_]at h2;have e1:P++bBs P.length w++(wbs (P.length+(bBs P.length w).length) q++Q)=P++wbs P.length (w::q)++Q:=by simp[wbs]
  have e2:P++bBs P.length w++wbs (P.length+(bBs P.length w).length) q++Q=P++wbs P.length (w::q)++Q:=by simp[wbs]
  rw[e1]at h1;rw[e2]at h2
  simp only[qaS,qeL,h1,h2,qeK,List.map_cons]
  try rfl
theorem qEM(g:Tag)(ws:List (List Bd)):flat (ws.map (binds g))=ws.map (binds g):=by
 induction ws with
 |nil=>rfl
 |cons r q ih=>simp[flat,qxq]at ih⊢;exact ih
theorem qsk(g:Tag)(l:List (List Bd)):∀x:DV,x∈l.map (binds g)->qrk false 1 x:=fun x hx=>by
 obtain⟨s,_,rfl⟩:=List.mem_map.1 hx;exact⟨rfl,rfl,fun h=>by simp at h,by simp⟩
theorem qUt(ws:List (List Bd))(P Q:qal):AV.frz (P++bW P.length ws++Q) (tW P.length ws)=some (qcs .sub ws):=by
 by_cases hp:ws=[]
 ·subst hp;simp[tW,bW,AV.frz,qjq]
 ·have hb:P++bW P.length ws++Q=P++wbs P.length ws++(some (qaS P.length ws)::Q):=by simp[bW,hp]
  have hg:qcu (P++wbs P.length ws++(some (qaS P.length ws)::Q)) (P.length+(wbs P.length ws).length)=some (qaS P.length ws):=by
   unfold qcu;rw[<-yg_,get_at]
  rw[hb];unfold tW;rw[if_neg hp];obtain⟨m,hm⟩:∃m,(P++wbs P.length ws++(some (qaS P.length ws)::Q)).length=m+1:=⟨P.length+(wbs P.length ws).length+Q.length,by simp;omega⟩;simp only[AV.frz];rw[hm];simp only[AV.frzC];rw[hg,Option.bind_some,qUw ws m P _ (by simp at hm;omega),Option.bind_some,if_pos (by simp)];have hch:=qcG (ws.map (binds .sub)) (qsk .sub ws);rw[List.length_map,qEM]at hch;rw[hch];rfl
theorem qVe(b:Nat)(ws:List (List Bd)):(tW b ws).clr=tW b ws:=by
 unfold tW;split
 ·simp[AV.clr,DV.clr,DV.clrs]
 ·simp only[AV.clr]
def mkW:List (List Bd)->Nat->List (List Bd)
 | [],_=>[]
 |w::q,k=>mkB w k::mkW q (k+qb0 w)
def qcA:List (List Bd)->Nat
 | []=>0
 |w::q=>qb0 w+qcA q
theorem qoE:∀(ws:List (List Bd)) (k:Nat),(mkW ws k).length=ws.length
 | [],k=>rfl
 |w::q,k=>by simp[mkW,qoE q]
theorem qw1:∀(ws:List (List Bd)) (k:Nat) (w:List Bd),mkW (ws++[w]) k=mkW ws k++[mkB w (k+qcA ws)]
 | [],k,w=>by simp[mkW,qcA]
 |a::q,k,w=>by simp[mkW,qw1 q,qcA,Nat.add_assoc]
theorem qlM:∀(ws:List (List Bd)) (w:List Bd),qcA (ws++[w])=qcA ws+qb0 w
 | [],w=>by simp[qcA]
 |a::q,w=>by simp[qcA,qlM q,Nat.add_assoc]
theorem qg1:∀(a c:List (List Bd)),qcA (a++c)=qcA a+qcA c
 | [],c=>by simp[qcA]
 |r::q,c=>by simp[qcA,qg1 q c,Nat.add_assoc]
theorem qm7:∀(a c:List (List Bd)) (k:Nat),mkW (a++c) k=mkW a k++mkW c (k+qcA a)
 | [],c,k=>by simp[mkW,qcA]
 |r::q,c,k=>by simp[mkW,qm7 q c,qcA,Nat.add_assoc]
theorem qoH{w:List Bd}{k:Nat}:mkB w k=[]↔w=[]:=by
 have:=qgT w k;rw[<-List.length_eq_zero_iff,<-List.length_eq_zero_iff,this]
theorem qRl(b:Nat)(w:List Bd)(k:Nat):tBs b (mkB w k)=tBs b w:=by
 unfold tBs
 by_cases h:w=[]
 ·rw[if_pos (qoH.2 h),if_pos h]
 ·rw[if_neg (fun e=>h (qoH.1 e)),if_neg h,qgS,qgT]
theorem qfE:∀(ws:List (List Bd)) (b k:Nat),(wbs b (mkW ws k)).length=(wbs b ws).length
 | [],b,k=>rfl
 |w::q,b,k=>by simp only[mkW,wbs,yg_,qtv,qfE q]
theorem qj1:∀(ws:List (List Bd)) (b k:Nat),qaS b (mkW ws k)=qaS b ws
 | [],b,k=>rfl
 |w::q,b,k=>by simp only[mkW,qaS,qRl,qtv,qj1 q]
def upW(ws:List (List Bd))(k i:Nat):List (List Bd):=mkW (ws.take i) k++ws.drop i
theorem quE(ws:List (List Bd))(k:Nat):upW ws k 0=ws:=by simp[upW,mkW]
theorem qMS(ws:List (List Bd))(k:Nat):upW ws k ws.length=mkW ws k:=by simp[upW]
theorem qMR(ws:List (List Bd))(b k i:Nat):(wbs b (upW ws k i)).length=(wbs b ws).length:=by
 unfold upW;have h:wbs b ws=wbs b (ws.take i)++wbs (b+(wbs b (ws.take i)).length) (ws.drop i):=by rw[<-qch,List.take_append_drop]
 rw[qch,h,yg_,yg_,qfE]
theorem qBi(ws:List (List Bd))(i:Nat)(hi:i<ws.length):ws.take (i+1)=ws.take i++[wAt ws i]:=by
 rw[<-qgD hi,List.take_append_getElem hi]
theorem qIw(l:List Bd)(hs:small l)(k:Nat)(hk:k+qb0 l<=4611686018427387904)(B0 B1:qal):
 qac XV 293 [tBs B0.length l,.d (.int .i64 (k:Int))] (B0++bBs B0.length l++B1)=some (.d (.int .i64 ((k+qb0 l:Nat):Int)),B0++bBs B0.length (mkB l k)++B1):=by
 have h:=qqL l hs.1 hs.2 k hk B0 B1;have e:(if l=[]then([]:qal)else T.bxs B0.length (ts (mkB l k))++[some (qaR B0.length (mkB l k))])=bBs B0.length (mkB l k):=by
  unfold bBs
  by_cases hl:l=[]
  ·rw[if_pos hl,if_pos (qoH.2 hl)]
  ·rw[if_neg hl,if_neg (fun h=>hl (qoH.1 h))]
 rwa[e]at h
theorem qtz(ws:List (List Bd))(k:Nat)(hl:ws.length<=1099511627776)(hs:∀w,w∈ws->small w)(hk:k+qcA ws<=4611686018427387904)(B0 B1:qal):
 qac XV 245 [tW B0.length ws,.d (.int .i64 (k:Int))] (B0++bW B0.length ws++B1)=some (.d (.int .i64 ((k+qcA ws:Nat):Int)),B0++bW B0.length (mkW ws k)++B1):=by
 rw[qah XV _ _ _ qPW rfl qAP rfl]
 by_cases hp:ws=[]
 ·subst hp
  have h:=qag (X:=XV) (T:=XV.lin 245) (L:=(B0++B1).length) (live:=[0,1,5]) (b:=qnB) (n:=0) (β:=Unit) (γ:=Unit) (st:=fun _ i=>⟨[(0,.d (.sl .sub [])),(1,.d (.int .i64 k)),(5,.d (.int .i64 i))],B0++B1⟩) (step:=fun _ _=> .inl ())
   (F:=fun _=>(.exit 0,⟨[(0,.d (.sl .sub [])),(1,.d (.int .i64 k)),(5,.d (.int .i64 0)),(9,.d (.bool false))],B0++B1⟩)) (R:=fun _=>(.ret,⟨[],[]⟩)) (fun a=>⟨by simp,by simp[qnB,qwc,qwa,qwb]⟩) (fun a i hi=>by omega) 0 () 0 ⟨[(0,.d (.sl .sub [])),(1,.d (.int .i64 k)),(5,.d (.int .i64 0))],B0++B1⟩ (by omega) (by simp[qad,qab];exact List.take_of_length_le (by simp))
  simp only[runN,yg_,qEc]at h;have htk:List.take (B0.length+B1.length) (B0++B1)=B0++B1:=List.take_of_length_le (by simp);simp[tW,bW,mkW,qcA,qcs,qPW,qCU,qCT,qCS];rw[h];simp[htk]
 ·have hlen:∀i,(B0++wbs B0.length (upW ws k i)).length=B0.length+(wbs B0.length ws).length:=fun i=>by rw[yg_,qMR]
  have h:=qag (X:=XV) (T:=XV.lin 245) (L:=B0.length+(wbs B0.length ws).length+(B1.length+1)) (live:=[0,1,5]) (b:=qnB) (n:=ws.length) (γ:=Unit) (st:=fun(_:Unit) i=>⟨[(0,.tsl false (B0.length+(wbs B0.length ws).length) 1 ws.length),(1,.d (.int .i64 ((k+qcA (ws.take i):Nat):Int))),(5,.d (.int .i64 i))],(B0++wbs B0.length (upW ws k i))++some (qaS B0.length ws)::B1⟩) (step:=fun _ _=> .inl ())
   (F:=fun _=>(.exit 0,⟨[(0,.tsl false (B0.length+(wbs B0.length ws).length) 1 ws.length),(1,.d (.int .i64 ((k+qcA ws:Nat):Int))),(5,.d (.int .i64 ws.length)),(9,.d (.bool false))],(B0++wbs B0.length (upW ws k ws.length))++some (qaS B0.length ws)::B1⟩)) (R:=fun _=>(.ret,⟨[],[]⟩))
   (fun _=>⟨by simp,by rw[List.take_length];generalize ((k+qcA ws:Nat):Int)=K;simp[qnB,qwc,qwa,qwb]⟩)
   (fun _ i hi=>by
    have hw:=qae (n:=i) (by omega);have hspl:ws=ws.take i++wAt ws i::ws.drop (i+1):=by
     rw[<-qgD hi,<-List.drop_eq_getElem_cons hi,List.take_append_drop]
    have hcs:=qlM (ws.take i) (wAt ws i);rw[<-qBi ws i hi]at hcs;have hcl:qcA (ws.take (i+1))<=qcA ws:=by
     have:=qg1 (ws.take (i+1)) (ws.drop (i+1));rw[List.take_append_drop]at this;omega
    have hm:=qIw (wAt ws i) (hs _ (qj2 hi)) (k+qcA (ws.take i)) (by omega) (B0++wbs B0.length (mkW (ws.take i) k)) (wbs (B0.length+(wbs B0.length (ws.take (i+1))).length) (ws.drop (i+1))++some (qaS B0.length ws)::B1);rw[yg_,qfE]at hm;have hl1:(wbs B0.length (ws.take (i+1))).length=(wbs B0.length (ws.take i)).length+(bBs (B0.length+(wbs B0.length (ws.take i)).length) (wAt ws i)).length:=by
     rw[qBi ws i hi,qch,yg_];simp[wbs]
    have e1:B0++wbs B0.length (mkW (ws.take i) k)++bBs (B0.length+(wbs B0.length (ws.take i)).length) (wAt ws i)++(wbs (B0.length+(wbs B0.length (ws.take (i+1))).length) (ws.drop (i+1))++some (qaS B0.length ws)::B1)=(B0++wbs B0.length (upW ws k i))++some (qaS B0.length ws)::B1:=by
     unfold upW;rw[qch,List.drop_eq_getElem_cons hi,qgD hi,qfE,hl1];simp[wbs,Nat.add_assoc]
    have e2:B0++wbs B0.length (mkW (ws.take i) k)++bBs (B0.length+(wbs B0.length (ws.take i)).length) (mkB (wAt ws i) (k+qcA (ws.take i)))++(wbs (B0.length+(wbs B0.length (ws.take (i+1))).length) (ws.drop (i+1))++some (qaS B0.length ws)::B1)=(B0++wbs B0.length (upW ws k (i+1)))++some (qaS B0.length ws)::B1:=by
     have hm1:mkW (ws.take (i+1)) k=mkW (ws.take i) k++[mkB (wAt ws i) (k+qcA (ws.take i))]:=by rw[qBi ws i hi,qw1]
     unfold upW;rw[qch,qfE,hm1,qch,qfE];simp[wbs]
    rw[e1,e2,show k+qcA (ws.take i)+qb0 (wAt ws i)=k+qcA (ws.take (i+1))by omega]at hm;have hcell:(qaS B0.length ws)[i]?=some (tBs (B0.length+(wbs B0.length (ws.take i)).length) (wAt ws i)):=by
     rw[hspl,qeX];have hti:(ws.take i).length=i:=by simp;omega
     rw[<-hspl,yd_ (by rw[qey];omega),qey,hti,Nat.sub_self];simp[qaS]
    have hcl2:=qFB (B0.length+(wbs B0.length (ws.take i)).length) (wAt ws i);have hl1:=hlen i;have hl2:=hlen (i+1);generalize tBs (B0.length+(wbs B0.length (ws.take i)).length) (wAt ws i)=y at hm hcell hcl2;generalize qaS B0.length ws=cs at hm hcell⊢
    generalize ((k+qcA (ws.take i):Nat):Int)=K0 at hm⊢
    generalize hK1:((k+qcA (ws.take (i+1)):Nat):Int)=K1 at hm;generalize B0++wbs B0.length (upW ws k i)=Bi at hm hl1⊢
    generalize hBj:B0++wbs B0.length (upW ws k (i+1))=Bj at hm hl2;rw[<-hl1];have hget:∀(c:List AV) (r:qal),(Bi++some c::r)[Bi.length]?=some (some c):=fun c r=>get_at Bi (some c) r
    exact⟨⟨[(0,.tsl false Bi.length 1 ws.length),(1,.d (.int .i64 K1)),(5,.d (.int .i64 ((i+1:Nat):Int)))],Bj++some cs::B1⟩,by
     simp[qnB,qwc,qwa,qwb,hi,hw,hcell,hcl2,hm],qaO (e:=[]) (by rw[<-hK1,hl1];rfl) (by simp[qab,qaE]) (by rw[hBj,yg_,hl2,hl1];rfl) (by rw[hBj];simp)⟩)
   ws.length () 0 ⟨[(0,.tsl false (B0.length+(wbs B0.length ws).length) 1 ws.length),(1,.d (.int .i64 (k:Int))),(5,.d (.int .i64 0))],(B0++wbs B0.length ws)++some (qaS B0.length ws)::B1⟩ (by omega) (qaO (e:=[]) (by simp[qcA]) (by simp[qab,qaE]) (by rw[quE];simp;omega) (by simp[quE]))
  rw[qdp,qMS]at h;have hmn:mkW ws k≠[]:=fun e=>hp (by have:=qoE ws k;rw[e]at this;exact List.length_eq_zero_iff.1 this.symm)
  have hap:∀(X:qal) (c:List AV),B0++(X++[some c])++B1=(B0++X)++some c::B1:=fun X c=>by simp
  have hln2:((B0++wbs B0.length ws)++some (qaS B0.length ws)::B1).length=B0.length+(wbs B0.length ws).length+(B1.length+1):=by simp;omega
  have hln3:((B0++wbs B0.length (mkW ws k))++some (qaS B0.length ws)::B1).length=B0.length+(wbs B0.length ws).length+(B1.length+1):=by simp[qfE];omega
  simp only[tW,bW,if_neg hp,if_neg hmn,qj1];rw[hap,hap];simp only[qEc]at h;generalize hQ:(B0++wbs B0.length ws)++some (qaS B0.length ws)::B1=Q at h hln2⊢
  generalize hQ':(B0++wbs B0.length (mkW ws k))++some (qaS B0.length ws)::B1=Q' at h hln3⊢
  generalize ((k+qcA ws:Nat):Int)=Kn at h⊢
  rw[<-hln2]at h;have htk:List.take Q.length Q'=Q':=List.take_of_length_le (by omega);simp[qPW,qCU,qCT,qCS];rw[h];simp[htk]
theorem qtP(ws:List (List Bd))(k:Nat)(hl:ws.length<=1099511627776)(hs:∀w,w∈ws->small w)(hk:k+qcA ws<=4611686018427387904)(B0 B1:qal):
 qac XV 246 [tW B0.length ws,.d (.int .i64 (k:Int))] (B0++bW B0.length (mkW ws k)++B1)=some (.d (.int .i64 ((k+qcA ws:Nat):Int)),B0++bW B0.length (mkW ws k)++B1):=by
 rw[qah XV _ _ _ qPV rfl qAO rfl]
 by_cases hp:ws=[]
 ·subst hp
  have h:=qag (X:=XV) (T:=XV.lin 246) (L:=(B0++B1).length) (live:=[0,1,5]) (b:=qnA) (n:=0) (β:=Unit) (γ:=Unit) (st:=fun _ i=>⟨[(0,.d (.sl .sub [])),(1,.d (.int .i64 k)),(5,.d (.int .i64 i))],B0++B1⟩) (step:=fun _ _=> .inl ())
   (F:=fun _=>(.exit 0,⟨[(0,.d (.sl .sub [])),(1,.d (.int .i64 k)),(5,.d (.int .i64 0)),(9,.d (.bool false))],B0++B1⟩)) (R:=fun _=>(.ret,⟨[],[]⟩)) (fun a=>⟨by simp,by simp[qnA,qv9,qv7,qv6,qv5,qv8]⟩) (fun a i hi=>by omega) 0 () 0 ⟨[(0,.d (.sl .sub [])),(1,.d (.int .i64 k)),(5,.d (.int .i64 0))],B0++B1⟩ (by omega) (by simp[qad,qab];exact List.take_of_length_le (by simp))
  simp only[runN,yg_,qEb]at h;have htk:List.take (B0.length+B1.length) (B0++B1)=B0++B1:=List.take_of_length_le (by simp);simp[tW,bW,mkW,qcA,qcs,qPV,qCR,qCQ,qCP];rw[h];simp[htk]
 ·have hmn:mkW ws k≠[]:=fun e=>hp (by have:=qoE ws k;rw[e]at this;exact List.length_eq_zero_iff.1 this.symm)
  have hap:∀(X:qal) (c:List AV),B0++(X++[some c])++B1=(B0++X)++some c::B1:=fun X c=>by simp
  have hlB:(B0++wbs B0.length (mkW ws k)).length=B0.length+(wbs B0.length ws).length:=by rw[yg_,qfE]
  have h:=qag (X:=XV) (T:=XV.lin 246) (L:=B0.length+(wbs B0.length ws).length+(B1.length+1)) (live:=[0,1,5]) (b:=qnA) (n:=ws.length) (γ:=Unit) (st:=fun(_:Unit) i=>⟨[(0,.tsl false (B0.length+(wbs B0.length ws).length) 1 ws.length),(1,.d (.int .i64 ((k+qcA (ws.take i):Nat):Int))),(5,.d (.int .i64 i))],(B0++wbs B0.length (mkW ws k))++some (qaS B0.length ws)::B1⟩) (step:=fun _ _=> .inl ())
   (F:=fun _=>(.exit 0,⟨[(0,.tsl false (B0.length+(wbs B0.length ws).length) 1 ws.length),(1,.d (.int .i64 ((k+qcA ws:Nat):Int))),(5,.d (.int .i64 ws.length)),(9,.d (.bool false))],(B0++wbs B0.length (mkW ws k))++some (qaS B0.length ws)::B1⟩)) (R:=fun _=>(.ret,⟨[],[]⟩))
   (fun _=>⟨by simp,by rw[List.take_length];generalize ((k+qcA ws:Nat):Int)=K;simp[qnA,qv9,qv7,qv6,qv5,qv8]⟩)
   (fun _ i hi=>by
    have hw:=qae (n:=i) (by omega);have hspl:ws=ws.take i++wAt ws i::ws.drop (i+1):=by
     rw[<-qgD hi,<-List.drop_eq_getElem_cons hi,List.take_append_drop]
    have hcs:=qlM (ws.take i) (wAt ws i);rw[<-qBi ws i hi]at hcs;have hcl:qcA (ws.take (i+1))<=qcA ws:=by
     have:=qg1 (ws.take (i+1)) (ws.drop (i+1));rw[List.take_append_drop]at this;omega
    have hsi:=hs _ (qj2 hi);have hm:=qqX (wAt ws i) hsi.1 hsi.2 (k+qcA (ws.take i)) (by omega) (B0++wbs B0.length (mkW (ws.take i) k)) (wbs (B0.length+(wbs B0.length (ws.take (i+1))).length) (mkW (ws.drop (i+1)) (k+qcA (ws.take (i+1))))++some (qaS B0.length ws)::B1);rw[yg_,qfE]at hm;have hl1:(wbs B0.length (ws.take (i+1))).length=(wbs B0.length (ws.take i)).length+(bBs (B0.length+(wbs B0.length (ws.take i)).length) (wAt ws i)).length:=by
     rw[qBi ws i hi,qch,yg_];simp[wbs]
    have e1:B0++wbs B0.length (mkW (ws.take i) k)++bBs (B0.length+(wbs B0.length (ws.take i)).length) (mkB (wAt ws i) (k+qcA (ws.take i)))++(wbs (B0.length+(wbs B0.length (ws.take (i+1))).length) (mkW (ws.drop (i+1)) (k+qcA (ws.take (i+1))))++some (qaS B0.length ws)::B1)=(B0++wbs B0.length (mkW ws k))++some (qaS B0.length ws)::B1:=by
     have hmw:mkW ws k=mkW (ws.take i) k++mkB (wAt ws i) (k+qcA (ws.take i))::mkW (ws.drop (i+1)) (k+qcA (ws.take (i+1))):=by
      conv=>lhs;rw[hspl]
      rw[qm7,mkW,hcs,Nat.add_assoc]
     rw[hmw,qch,qfE,hl1];simp[wbs,qtv,Nat.add_assoc]
    rw[e1,show k+qcA (ws.take i)+qb0 (wAt ws i)=k+qcA (ws.take (i+1))by omega]at hm;have hcell:(qaS B0.length ws)[i]?=some (tBs (B0.length+(wbs B0.length (ws.take i)).length) (wAt ws i)):=by
     rw[hspl,qeX];have hti:(ws.take i).length=i:=by simp;omega
     rw[<-hspl,yd_ (by rw[qey];omega),qey,hti,Nat.sub_self];simp[qaS]
    have hcl2:=qFB (B0.length+(wbs B0.length (ws.take i)).length) (wAt ws i);have hnn:¬(((k+qcA (ws.take (i+1)):Nat):Int)<0):=by omega
    generalize tBs (B0.length+(wbs B0.length (ws.take i)).length) (wAt ws i)=y at hm hcell hcl2;generalize qaS B0.length ws=cs at hm hcell⊢
    generalize ((k+qcA (ws.take i):Nat):Int)=K0 at hm⊢
    generalize hK1:((k+qcA (ws.take (i+1)):Nat):Int)=K1 at hm hnn;generalize B0++wbs B0.length (mkW ws k)=Bi at hm hlB⊢
    rw[<-hlB];have hget:∀(c:List AV) (r:qal),(Bi++some c::r)[Bi.length]?=some (some c):=fun c r=>get_at Bi (some c) r
    exact⟨⟨[(0,.tsl false Bi.length 1 ws.length),(1,.d (.int .i64 K1)),(5,.d (.int .i64 ((i+1:Nat):Int)))],Bi++some cs::B1⟩,by
     simp[qnA,qv9,qv7,qv6,qv5,qv8,hi,hw,hcell,hcl2,hm,hnn],qaO (e:=[]) (by rw[<-hK1,hlB];rfl) (by simp[qab,qaE]) (by rw[yg_,hlB];rfl) (by simp)⟩)
   ws.length () 0 ⟨[(0,.tsl false (B0.length+(wbs B0.length ws).length) 1 ws.length),(1,.d (.int .i64 (k:Int))),(5,.d (.int .i64 0))],(B0++wbs B0.length (mkW ws k))++some (qaS B0.length ws)::B1⟩ (by omega) (qaO (e:=[]) (by simp[qcA]) (by simp[qab,qaE]) (by rw[yg_,hlB];rfl) (by simp))
  rw[qdp]at h;have hln3:((B0++wbs B0.length (mkW ws k))++some (qaS B0.length ws)::B1).length=B0.length+(wbs B0.length ws).length+(B1.length+1):=by simp[qfE];omega
  simp only[tW,bW,if_neg hp,if_neg hmn,qj1];rw[hap];simp only[qEb]at h;generalize hQ':(B0++wbs B0.length (mkW ws k))++some (qaS B0.length ws)::B1=Q' at h hln3⊢
  generalize ((k+qcA ws:Nat):Int)=Kn at h⊢
  rw[<-hln3]at h;simp[qPV,qCR,qCQ,qCP];rw[h];simp
theorem qnH:∀l:List (List Bd),DV.allUs (l.map (binds U))=true
 | []=>rfl
 |w::l=>by
  have h:(binds U w).allU=true:=ql7 w;simp only[List.map_cons,DV.allUs,h,qnH l,Bool.and_self]
theorem qzR(l:List (List Bd)):(qbn l).allUT=true:=by
 cases l with
 |nil=>rfl
 |cons w l=>
  have h1:(binds U w).allU=true:=ql7 w;have h2:=qnH l;show(DV.sl U (binds U w::l.map (binds U))).allU=true;generalize binds U w=x at*
  generalize l.map (binds U)=xs at*
  simp only[DV.allU,DV.allUs,h1,h2,decide_true,Bool.and_self]
theorem qJy(a:List (List Bd))(q:Bool):(DV.tup [qbn a,.bool q]).allUT=true:=by
 have h:(qbn a).allU=true:=qzR a;show DV.allUs [qbn a,.bool q]=true;rw[DV.allUs,DV.allUs,DV.allUs,h];rfl
theorem qMY(c:Bool){a:List (List Bd)}{b:Nat}{p:AV}{R:qal}(h:(qcs .sub a).thaw b=(p,R)):(DV.tup [qcs .sub a,.bool c]).thaw b=(.ag true [p,.d (.bool c)],R):=by
 have e:qbG b [qcs .sub a,.bool c]=([p,.d (.bool c)],R++[]):=by
  unfold qbG;rw[show qaV b (qcs .sub a)=(qcs .sub a).thaw b from rfl,h];rfl
 show(AV.ag true (qbG b [qcs .sub a,.bool c]).1,(qbG b [qcs .sub a,.bool c]).2)=_;rw[e,List.append_nil]
structure ThW(l:List (List Bd))(b:Nat)(y:AV)(R R':qal)(k K:Nat):Prop where
 th:(qcs .sub l).thaw b=(y,R)
 cl:y.clr=y
 ic:y.isCell=true
 len:R'.length=R.length
 frz:∀P Q:qal,P.length=b->AV.frz (P++(R++Q)) y=some (qcs .sub l)
 mark:∀P Q:qal,P.length=b->qac XV 245 [y,.d (.int .i64 (k:Int))] (P++(R++Q))=some (.d (.int .i64 (K:Int)),P++(R'++Q))
theorem qX2(b:Nat)(l:List (List Bd))(k:Nat):(bW b (mkW l k)).length=(bW b l).length:=by
 unfold bW;have:=qoE l k
 by_cases h:l=[]
 ·subst h;rfl
 ·rw[if_neg h,if_neg (fun e=>h (by rw[e]at this;exact List.length_eq_zero_iff.1 this.symm)),yg_,yg_,qfE];rfl
theorem qM0(l:List (List Bd))(hl:l.length<=1099511627776)(hs:∀w,w∈l->small w)(b k:Nat)(hk:k+qcA l<=4611686018427387904):∃y R R',ThW l b y R R' k (k+qcA l)/\∀P Q:qal,P.length=b->qac XV 246 [y,.d (.int .i64 (k:Int))] (P++(R'++Q))=some (.d (.int .i64 ((k+qcA l:Nat):Int)),P++(R'++Q)):=
 ⟨tW b l,bW b l,bW b (mkW l k),⟨qBo b l,qVe b l,by unfold tW;split<;>rfl,qX2 b l k,
  fun P Q hP=>by subst hP;rw[<-yh_];exact qUt l P Q,
  fun P Q hP=>by subst hP;rw[<-yh_,<-yh_];exact qtz l k hl hs hk P Q⟩,fun P Q hP=>by subst hP;rw[<-yh_];exact qtP l k hl hs hk P Q⟩
theorem qnp(m:Nat):∀(l:List (List Bd)),(∀w,w∈l->qb0 w<=m)->qcA l<=m*l.length
 | [],_=>by simp[qcA]
 |w::l,h=>by
  have h1:=qnp m l fun x hx=>h x (List.mem_cons_of_mem _ hx)
  have h2:=h w (List.mem_cons_self ..);simp only[qcA,List.length_cons,Nat.mul_add];omega
theorem qtx(s:List SymL)(p t:T):(qa8 s p t).1.length<=61:=by
 unfold qa8;split
 ·exact MS.qGe qfW _ (by decide)
 ·simp
theorem qqK(s:List SymL)(p t:T):(qa8 s p t).1.length<=1099511627776/\(∀w,w∈(qa8 s p t).1->small w)/\qcA (qa8 s p t).1<=1099511627776:=by
 have h1:=qtx s p t;have h2:=qty s p t;have h3:=qnp 2003000000 (qa8 s p t).1 fun w hw=>by
  have:=h2 w hw;have h4:=qnq w this.2;omega
 exact⟨by omega,fun w hw=>⟨by have:=(h2 w hw).1;omega,fun i hi=>Nat.le_trans ((h2 w hw).2 _ (qFV hi)) (by omega)⟩,by omega⟩
theorem qjH(l:List SymL)(hl:l.length<=maxLen)(hol:∀s,s∈l->s.ok)(p:T)(hp:p.ok)(t:T)(ht:t.ok):∃B,qac XV 305 [.d (sg l),.d (p.enc .sub),.d (t.enc .sub)] []=some (.d (.bool true),B):=by
 rw[qah XV _ _ _ qJE rfl qAv rfl];have z1:=qBv l (1048576) hl hol (by omega) (by omega)
 by_cases h1_:(1048576:Int)-qdh l<0
 ·rw[qd1 h1_]at z1
  simp[qJE,qqm,qql,qqk,qqj,qqi,qqh,qqg,qqf,qqe,qqd,qk6,qk5,qk4,qk3,qk2,qk1,qk0,qkZ,qkY,qkX,qkW,qkV,qkU,qkT,qkS,qkR,qkQ,qkP,qkO,qkN,qkM,qkL,qkK,qkJ,qkI,qkH,qkG,qkF,qkE,qkD,qkC,qkB,qkA,qkz,z1]
 rw[qeG h1_]at z1;have z2:=qj6 p (1048576-qdh l) hp (by omega) (by omega)
 by_cases h2_:(1048576:Int)-qdh l-p.inner<0
 ·rw[qd1 h2_]at z2
  simp[qJE,qqm,qql,qqk,qqj,qqi,qqh,qqg,qqf,qqe,qqd,qk6,qk5,qk4,qk3,qk2,qk1,qk0,qkZ,qkY,qkX,qkW,qkV,qkU,qkT,qkS,qkR,qkQ,qkP,qkO,qkN,qkM,qkL,qkK,qkJ,qkI,qkH,qkG,qkF,qkE,qkD,qkC,qkB,qkA,qkz,z1,z2,h1_]
 rw[qeG h2_]at z2;have z3:=qj6 t (1048576-qdh l-p.inner) ht (by omega) (by omega)
 by_cases h3_:(1048576:Int)-qdh l-p.inner-t.inner<0
 ·rw[qd1 h3_]at z3
  simp[qJE,qqm,qql,qqk,qqj,qqi,qqh,qqg,qqf,qqe,qqd,qk6,qk5,qk4,qk3,qk2,qk1,qk0,qkZ,qkY,qkX,qkW,qkV,qkU,qkT,qkS,qkR,qkQ,qkP,qkO,qkN,qkM,qkL,qkK,qkJ,qkI,qkH,qkG,qkF,qkE,qkD,qkC,qkB,qkA,qkz,z1,z2,z3,h1_,h2_]
 rw[qeG h3_]at z3;have hl0:l.length<=1048576:=by unfold qdh at*;omega
 have hls:l.length<=1099511627776:=by omega
 have hpi:p.inner<=1099511627776:=by omega
 have hti:t.inner<=1099511627776:=by omega
 have hnm:∀i,i<l.length->(qax l i).name.size<=1099511627776:=fun i hi=>by have:=qN3 l i hi;omega
 have s2:=qmj l hls hnm p t hpi hti;have s1:=qmi l hls hnm p t hpi hti;obtain⟨hal,hab,hac⟩:=qqK l p t;generalize (qa8 l p t).2=q at*
 generalize (qa8 l p t).1=a at*
 have ub:=qF8 true;have e_l:=qt3 l hls;have t_l:=qBk l hls;have u_l:=qzS l;have e_p:=qfu p hpi;have t_p:=qj4 p hpi;have u_p:=qrX p;have e_t:=qfu t hti;have t_t:=qj4 t hti;have u_t:=qrX t;have e_a:=qoZ a hal hab;have u_q:=qJy a q;obtain⟨y1,R1,R1',H1⟩:=qRj l hls (2) (1) (by omega) (by omega);obtain⟨w2,y2,R2,R2',H2⟩:=qJF p hpi (R1.length+1+1) (1+3*l.length) (by omega);obtain⟨w3,y3,R3,R3',H3⟩:=qJF t hti (R1.length+(R2.length+1)+1+1) (1+3*l.length+2*p.inner) (by omega);obtain⟨y4,R4,R4',H4,HH4⟩:=qM0 a hal hab (R1.length+(R2.length+(R3.length+1+1))+1+1) (1) (by omega);have k3:¬(((1+3*l.length+2*p.inner+2*t.inner:Nat):Int)<0):=by omega
 have k4:¬(((1+qcA a:Nat):Int)<0):=by omega
 generalize 1+3*l.length+2*p.inner+2*t.inner=K3 at*
 generalize 1+3*l.length+2*p.inner=K2 at*
 generalize 1+3*l.length=K1 at*
 generalize 1+qcA a=K4 at*
 generalize hgCp:(some [.d (.int .i64 p.f),.d (.int .i64 p.v),.d (qaa .sub p.kids)]:Option (List AV))=Cp;generalize hgCt:(some [.d (.int .i64 t.f),.d (.int .i64 t.v),.d (qaa .sub t.kids)]:Option (List AV))=Ct;generalize hgCX2:(some [.d (.int .i64 p.f),.d (.int .i64 p.v),w2]:Option (List AV))=CX2;generalize hgCX3:(some [.d (.int .i64 t.f),.d (.int .i64 t.v),w3]:Option (List AV))=CX3;have n1:=H1.len;have n2:=H2.len;have n3:=H3.len;have n4:=H4.len;have f1:=fun Q:qal=>H1.frz (Cp::Ct::[]) Q (by simp only[List.length_cons,List.length_nil]<;>omega)
 have fe1:=H1.frz (Cp::Ct::[]) [] (by simp only[List.length_cons,List.length_nil]<;>omega);have m1:=fun Q:qal=>H1.mark (Cp::Ct::[]) Q (by simp only[List.length_cons,List.length_nil]<;>omega)
 have f2:=fun Q:qal=>H2.frz (Cp::Ct::R1) Q (by simp only[List.length_cons]<;>omega)
 have m2:=fun Q:qal=>H2.mark (Cp::Ct::R1') Q (by simp only[List.length_cons,n1]<;>omega)
 have f3:=fun Q:qal=>H3.frz (Cp::Ct::(R1++(R2++[CX2]))) Q (by simp only[List.length_cons,yg_,List.length_nil]<;>omega)
 have m3:=fun Q:qal=>H3.mark (Cp::Ct::(R1'++(R2'++[CX2]))) Q (by simp only[List.length_cons,yg_,List.length_nil,n1,n2]<;>omega)
 have f4:=fun Q:qal=>H4.frz (Cp::Ct::(R1++(R2++(CX2::(R3++[CX3]))))) Q (by simp only[List.length_cons,yg_,List.length_nil]<;>omega)
 have fe4:=H4.frz (Cp::Ct::(R1++(R2++(CX2::(R3++[CX3]))))) [] (by simp only[List.length_cons,yg_,List.length_nil]<;>omega);have fp4:=fun Q:qal=>H4.frz (Cp::Ct::(R1'++(R2'++(CX2::(R3'++[CX3]))))) Q (by simp only[List.length_cons,yg_,List.length_nil,n1,n2,n3]<;>omega)
 have m4:=fun Q:qal=>H4.mark (Cp::Ct::(R1'++(R2'++(CX2::(R3'++[CX3]))))) Q (by simp only[List.length_cons,yg_,List.length_nil,n1,n2,n3]<;>omega)
 have fpe4:=H4.frz (Cp::Ct::(R1'++(R2'++(CX2::(R3'++[CX3]))))) [] (by simp only[List.length_cons,yg_,List.length_nil,n1,n2,n3]<;>omega);have me4:=H4.mark (Cp::Ct::(R1'++(R2'++(CX2::(R3'++[CX3]))))) [] (by simp only[List.length_cons,yg_,List.length_nil,n1,n2,n3]<;>omega);have le4:=HH4 (Cp::Ct::(R1'++(R2'++(CX2::(R3'++[CX3]))))) [] (by simp only[List.length_cons,yg_,List.length_nil,n1,n2,n3]<;>omega);have l4:=fun Q:qal=>HH4 (Cp::Ct::(R1'++(R2'++(CX2::(R3'++[CX3]))))) Q (by simp only[List.length_cons,yg_,List.length_nil,n1,n2,n3]<;>omega)
 subst hgCp;subst hgCt;subst hgCX2;subst hgCX3;simp only[List.cons_append,List.nil_append,yh_,List.append_nil,Int.natCast_one]at f1 fe1 m1 f2 m2 f3 m3 f4 fe4 fp4 m4 fpe4 me4 le4 l4;have x1:=H1.th;have c1:=H1.cl;have i1:=H1.ic
 have x2:=H2.th;have c2:=H2.cl;have i2:=H2.ic
 have d2:=H2.cly;have g2:=H2.ag
 have x3:=H3.th;have c3:=H3.cl;have i3:=H3.ic
 have d3:=H3.cly;have g3:=H3.ag
 have x4:=H4.th;have c4:=H4.cl;have i4:=H4.ic
 have xT:=qMY q H4.th;have v2_:=H2.sf (R1.length+R2.length+1+1) (by omega);have v3_:=H3.sf (R1.length+(R2.length+(R3.length+1))+1+1) (by omega);simp only[sg,qaa,qcs,qbn]at*
 simp[qJE,qqm,qql,qqk,qqj,qqi,qqh,qqg,qqf,qqe,qqd,qk6,qPn,qk5,qk4,qk3,qk2,qk1,qk0,qkZ,qkY,qPm,qkX,qPl,qkW,qkV,qkU,qkT,qkS,qkR,qkQ,qkP,qkO,qkN,qkM,qkL,qkK,qkJ,qkI,qPk,qkH,qkG,qkF,qkE,qkD,qkC,qkB,qkA,qkz,z1,z2,z3,h1_,h2_,h3_,s1,s2,ub,e_l,t_l,u_l,e_p,t_p,u_p,e_t,t_t,u_t,e_a,u_q,k3,k4,n1,n2,n3,n4,f1,m1,f2,m2,f3,m3,fe4,fpe4,me4,le4,x1,c1,x2,c2,i2,d2,g2,x3,c3,i3,d3,g3,c4,xT,v2_,v3_,T.eta,splice,qam,qaf,qai,qgn,qbi,qsA,qaC,qFM,qZF]
mutual
def TT.erase:TT->T
 | .node f v g ks=> .node f v (TT.erases ks)
def TT.erases:List TT->List T
 | []=>[]
 |t::r=>t.erase::TT.erases r
end
theorem TT.qiZ:∀l:List TT,TT.erases l=l.map TT.erase
 | []=>by unfold TT.erases;rfl
 |t::r=>by unfold TT.erases;simp[TT.qiZ r]
mutual
theorem TT.qcT:∀t:TT,DV.clrs t.cells=[.int .i64 t.erase.f,.int .i64 t.erase.v,qaa .sub t.erase.kids]
 | .node f v g ks=>by
  simp only[TT.cells,DV.clrs,DV.clr,TT.erase,T.qbg,T.qdQ,T.qbd,qaa];rw[TT.qd0 ks]
theorem TT.qd0:∀l:List TT,DV.clrs (TT.encs l)=(TT.erases l).map (T.enc .sub)
 | []=>by simp[TT.encs,DV.clrs,TT.erases]
 |t::r=>by
  simp only[TT.encs,DV.clrs,DV.clr,TT.erases,List.map_cons];rw[TT.qcT t,TT.qd0 r,T.qbF]
end
theorem TT.qec(t:TT):t.enc.clr=t.erase.enc .sub:=by
 simp only[TT.enc,DV.clr];rw[TT.qcT,T.qbF]
mutual
theorem TT.qfC:∀t:TT,t.ok->t.erase.ok
 | .node f v g ks,h=>by
  simp only[TT.ok]at h;simp only[TT.erase,T.ok,TT.qiZ,List.length_map];refine⟨h.2.2.1,?_⟩;rw[<-TT.qiZ];exact TT.qma ks h.2.2.2
theorem TT.qma:∀l:List TT,TT.oks l->T.oks (TT.erases l)
 | [],_=>by simp[TT.erases,T.oks]
 |t::r,h=>by
  simp only[TT.oks]at h;simp only[TT.erases,T.oks];exact⟨TT.qfC t h.1,TT.qma r h.2⟩
end
theorem qJb(s:SymL):s.enc.clr=s.enc:=by unfold SymL.enc SymL.cells;simp only[DV.clr,DV.clrs]
theorem qJa(g:Tag)(l:List SymL):(qVt g l).clr= .sl .sub (l.map SymL.enc):=by
 simp only[qVt,qL4,List.map_map,Function.comp_def,qJb]
theorem qyA(hX:XOK XV){k:Nat}{vs:List DV}(h:∃B,qac XV k ((DV.clrs vs).map .d) []=some (.d (.bool true),B)):∃A B,qzI E [] k (vs.map .d) [] Ids.none=some ⟨.d (.bool true),A,B⟩:=by
 obtain⟨B,h⟩:=h;obtain⟨u,A,Bv,h1,h2⟩:=qIz hX (DV.qcw vs) (DV.qcv vs) (d:= .bool true) (by simp[DV.clr]) h;simp only[DV.fit]at h2;subst h2
 exact⟨A,Bv,h1⟩
theorem qX5{P:Program}{a:TypeId}:∀{xs:List (List DV)},qL8 P [a] xs->∃x,xs=[x]
 | [x],_=>⟨x,rfl⟩
 | [],h=>h.elim
 |_::_::_,h=>h.2.elim
theorem qX4{P:Program}{a b:TypeId}:∀{xs:List (List DV)},qL8 P [a,b] xs->∃x y,xs=[x,y]
 |x::r,h=>by obtain⟨y,rfl⟩:=qX5 h.2;exact⟨x,y,rfl⟩
theorem qX3{P:Program}{a b c:TypeId}:∀{xs:List (List DV)},qL8 P [a,b,c] xs->∃x y z,xs=[x,y,z]
 |x::r,h=>by obtain⟨y,z,rfl⟩:=qX4 h.2;exact⟨x,y,z,rfl⟩
structure L where
 p:Bool
 a:T
 b:T
def L.enc(g:Tag)(x:L):DV:= .agg [.bool x.p,.int .i64 x.a.f,.int .i64 x.a.v,qaa g x.a.kids,.int .i64 x.b.f,.int .i64 x.b.v,qaa g x.b.kids]
def L.ok(x:L):Prop:=x.a.ok/\x.b.ok
@[simp] theorem L.qeP(g:Tag)(x:L):(x.enc g).cells=[.bool x.p,.int .i64 x.a.f,.int .i64 x.a.v,qaa g x.a.kids,.int .i64 x.b.f,.int .i64 x.b.v,qaa g x.b.kids]:=rfl
@[simp] theorem L.qi0(g:Tag)(x:L):(AV.d (x.enc g)).cells=[.d (.bool x.p),.d (.int .i64 x.a.f),.d (.int .i64 x.a.v),.d (qaa g x.a.kids),.d (.int .i64 x.b.f),.d (.int .i64 x.b.v),.d (qaa g x.b.kids)]:=rfl
@[simp] theorem L.qiY(g:Tag)(x:L):(x.enc g).isCell=false:=rfl
@[simp] theorem L.qec(g:Tag)(x:L):(x.enc g).clr=x.enc .sub:=by
 simp only[L.enc,DV.clr,DV.clrs,qaa,DV.qaA,qd9]
theorem L.agg_enc(g:Tag)(x:L):DV.agg [.bool x.p,.int .i64 x.a.f,.int .i64 x.a.v,qaa g x.a.kids,.int .i64 x.b.f,.int .i64 x.b.v,qaa g x.b.kids]=x.enc g:=rfl
def L.cmp(x y:L):Int:=if !x.p&&y.p then-1 else if x.p&& !y.p then 1 else if T.cmp x.a y.a≠0 then T.cmp x.a y.a else T.cmp x.b y.b
def L.same(x y:L):Bool:=x.p==y.p&&(T.cmp x.a y.a==0)&&(T.cmp x.b y.b==0)
theorem L.cmp_zero(x y:L):(L.cmp x y==0)=L.same x y:=by
 obtain⟨p,a,b⟩:=x;obtain⟨q,a',b'⟩:=y;unfold L.cmp L.same;cases p<;>cases q<;>by_cases c:T.cmp a a'=0<;>simp[c]
end Go.Proofs.YtbcbkiaineacpaaGreat.VS
namespace Go.Proofs.YtbcbkiaineacpaaGreat.VS
variable {P:Program}
structure LL where
 p:Bool
 a:TT
 b:TT
def LL.cells(x:LL):List DV:= .bool x.p::(x.a.cells++x.b.cells)
def LL.enc(x:LL):DV:= .agg x.cells
def LL.ok(x:LL):Prop:=x.a.ok/\x.b.ok
def LL.erase(x:LL):L:=⟨x.p,x.a.erase,x.b.erase⟩
theorem LL.qfC(x:LL)(h:x.ok):x.erase.ok:=⟨TT.qfC _ h.1,TT.qfC _ h.2⟩
theorem LL.qec(x:LL):x.enc.clr=x.erase.enc .sub:=by
 have ha:=TT.qcT x.a;have hb:=TT.qcT x.b;rw[DV.qaA]at ha hb;simp only[LL.enc,LL.cells,DV.clr,DV.qaA,List.map_cons,List.map_append,ha,hb,LL.erase,L.enc];rfl
structure BB where
 v:Int
 t:TT
def BB.cells(x:BB):List DV:= .int .i64 x.v::x.t.cells
def BB.enc(x:BB):DV:= .agg x.cells
def BB.ok(x:BB):Prop:=(-9223372036854775808<=x.v/\x.v<=9223372036854775807)/\x.t.ok
def BB.erase(x:BB):Bd:=⟨x.v,x.t.erase⟩
theorem BB.qec(x:BB):x.enc.clr=x.erase.enc .sub:=by
 have ha:=TT.qcT x.t;rw[DV.qaA]at ha;simp only[BB.enc,BB.cells,DV.clr,DV.qaA,List.map_cons,ha,BB.erase,Bd.enc]
theorem BB.qma{l:List BB}(h:∀s,s∈l->BB.ok s):∀s,s∈l.map BB.erase->Bd.ok s:=by
 intro s hs;obtain⟨t,ht,rfl⟩:=List.mem_map.1 hs;exact⟨(h t ht).1,TT.qfC _ (h t ht).2⟩
end Go.Proofs.YtbcbkiaineacpaaGreat.VS
