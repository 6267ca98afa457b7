/- Contracts of the program's functions on the evaluator without names, and plain lemmas: part 6. -/
import Derived.Test.YtbcbkiaineacpaaGreatXP5
set_option linter.unusedSimpArgs false
set_option linter.unusedVariables false
namespace Go.Proofs.YtbcbkiaineacpaaGreat.VS
def getB(u:List Bd)(v:Int):Option T:=(u.find? fun b=>b.v==v).map Bd.t
def qYw(u w:List Bd):Prop:=∀v t,getB u v=some t->getB w v=some t
theorem qYw.refl(u:List Bd):qYw u u:=fun _ _ h=>h
def Cov(w:List Bd)(t:T):Prop:=∀x,x∈t.nodes->x.f= -1->(getB w x.v).isSome=true
def Gl.holds(s:List SymL)(w:List Bd)(g:Gl):Prop:=
 (∀x,x∈g.ps->Cov w x)/\(g.many=true->(flatK s g.f (g.ps.map (qTM s w))).Perm g.ts)/\(g.many=false->g.ps.map (qTM s w)=g.ts)
theorem qhA{s:List SymL}{p t:T}(hp:qcb s p=true)(ht:qcb s t=true)(hw:qdy t=false):Inv s [qbY p t] []:=by
 unfold qcb at hp ht;simp only[Bool.and_eq_true,decide_eq_true_eq]at hp ht;refine⟨fun g hg=> ?_,fun b hb=>by(cases hb),?_⟩
 ·rw[List.mem_singleton]at hg;subst hg
  refine⟨?_,fun x hx=> ?_,fun x hx=> ?_,fun e=>by(cases e),fun _=>⟨_,_,rfl,rfl⟩⟩
  ·simp only[qbY,qaG]
   have:qaQ []=0:=rfl;omega
  ·simp only[qbY,List.mem_singleton]at hx;subst hx;exact⟨hw,ht.2.2⟩
  ·simp only[qbY,List.mem_singleton]at hx;subst hx;exact hp.2.2
 ·rw[qaR,qhD]
  have:qds []=0:=rfl;simp only[List.length_nil];omega
theorem qBb(p t:T):qds [qbY p t]=3*p.inner+2:=by rw[qaR,qhD];rfl
theorem MS.qrL:∀(es:List (Option (List Bd))) (S:MS) (x:List Bd),x∈(S.run es).ways->x∈S.ways\/some x∈es
 | [],S,x,h=> .inl h
 |e::es,S,x,h=>by
  rcases MS.qrL es (S.ev e) x h with h|h
  ·unfold MS.ev at h
   split at h
   ·exact .inl h
   ·cases e with
    |none=>exact .inl h
    |some u=>
     simp only at h;split at h
     ·exact .inl h
     ·rcases List.mem_append.1 h with h|h
      ·exact .inl h
      ·rw[List.mem_singleton]at h;subst h
       exact .inr (List.mem_cons_self ..)
  ·exact .inr (List.mem_cons_of_mem _ h)
def qfY(s:List SymL)(p t:T):Bool:=qcb s p&&(qcb s t&& !qdy t)
def qgD:MS:=⟨[],0,false⟩
def qf8(s:List SymL)(p t:T):MS:=qgD.run (evs s (3*p.inner+3) [qbY p t] [])
def qa4(s:List SymL)(p t:T):List (List Bd)×Bool:=if qfY s p t=true/\(qf8 s p t).done=false then((qf8 s p t).ways,true)else([],false)
theorem qij:qgD.good:=⟨by decide,by decide,by decide,fun w hw=>by cases hw⟩
theorem qpn{s:List SymL}{t:T}(h:qcb s t=true):t.inner+1<=60:=by
 unfold qcb at h;simp only[Bool.and_eq_true,decide_eq_true_eq]at h;exact h.2.1
theorem qfh(s:List SymL)(p t:T):qfY s p t=true↔qcb s p=true/\qcb s t=true/\qdy t=false:=by
 unfold qfY;simp
theorem ql9(s:List SymL)(hs:s.length<=1099511627776)(hn:∀i,i<s.length->(qav s i).name.size<=1099511627776)(p t:T)(hp:p.inner<=1099511627776)(ht:t.inner<=1099511627776):
 qac XV 307 [.d (sg s),.d (p.enc .sub),.d (t.enc .sub)] []=some (.d (.tup [qbJ (qa4 s p t).1,.bool (qa4 s p t).2]),[]):=by
 have h1:=qhC s hs hn p hp;have h2:=qhC s hs hn t ht;have h3:=qtr t ht;rw[qah XV _ _ _ qGx rfl qAa rfl];cases c:qfY s p t with
 |false=>
  have hm:qa4 s p t=([],false):=by unfold qa4;rw[c];simp
  rw[hm];unfold qfY at c;obtain⟨pf,pv,pk⟩:=p;obtain⟨tf,tv,tk⟩:=t;cases c1:qcb s (.node pf pv pk)with
  |false=>simp[qGx,qmD,qmC,qmB,qmA,qmz,qmy,qmx,qmw,h1,c1]
  |true=>
   cases c2:qcb s (.node tf tv tk)with
   |false=>simp[qGx,qmD,qmC,qmB,qmA,qmz,qmy,qmx,qmw,h1,h2,c1,c2]
   |true=>
    cases c3:qdy (.node tf tv tk)with
    |true=>simp[qGx,qmD,qmC,qmB,qmA,qmz,qmy,qmx,qmw,h1,h2,h3,c1,c2,c3]
    |false=>rw[c1,c2,c3]at c;cases c
 |true=>
  obtain⟨c1,c2,c3⟩:=(qfh s p t).1 c;have hi:=qhA c1 c2 c3;rw[c1]at h1;rw[c2]at h2;rw[c3]at h3;have hf:qac XV 318 [.ptr 2 0,.d (qaS .sub [qbY p t]),.d (binds .sub [])] [some [.d (.int .i64 p.f),.d (.int .i64 p.v),.d (qaa .sub p.kids)],some [.d (.int .i64 t.f),.d (.int .i64 t.v),.d (qaa .sub t.kids)],some (mB s qgD)]=some (.d (.tup []),[some [.d (.int .i64 p.f),.d (.int .i64 p.v),.d (qaa .sub p.kids)],some [.d (.int .i64 t.f),.d (.int .i64 t.v),.d (qaa .sub t.kids)],some (mB s (qf8 s p t))]):=
   qwX s hs (3*p.inner+3) [qbY p t] [] qgD [some [.d (.int .i64 p.f),.d (.int .i64 p.v),.d (qaa .sub p.kids)],some [.d (.int .i64 t.f),.d (.int .i64 t.v),.d (qaa .sub t.kids)]] [] hi (by rw[qBb];omega) qij
  have hd:qac XV 319 [.ptr 2 0] [some [.d (.int .i64 p.f),.d (.int .i64 p.v),.d (qaa .sub p.kids)],some [.d (.int .i64 t.f),.d (.int .i64 t.v),.d (qaa .sub t.kids)],some (mB s (qf8 s p t))]=some (.d (.bool (qf8 s p t).done),[some [.d (.int .i64 p.f),.d (.int .i64 p.v),.d (qaa .sub p.kids)],some [.d (.int .i64 t.f),.d (.int .i64 t.v),.d (qaa .sub t.kids)],some (mB s (qf8 s p t))]):=
   qgP s (qf8 s p t) [some [.d (.int .i64 p.f),.d (.int .i64 p.v),.d (qaa .sub p.kids)],some [.d (.int .i64 t.f),.d (.int .i64 t.v),.d (qaa .sub t.kids)]] []
  have hm:qa4 s p t=if(qf8 s p t).done=true then([],false)else((qf8 s p t).ways,true):=by
   unfold qa4;rw[c];cases(qf8 s p t).done<;>simp
  rw[hm];have hE:(qbY p t).enc .sub= .agg [.bool false,.int .i64 0,.sl .sub [p.enc .sub],.sl .sub [t.enc .sub]]:=rfl;simp only[qaS,List.map_cons,List.map_nil,hE,binds]at hf;have hst:mB s qgD=[.d (sg s),.d (.sl U []),.d (.int .i64 60),.d (.int .i64 0),.d (.int .i64 20000),.d (.bool false)]:=rfl;rw[hst]at hf;generalize qf8 s p t=S at*
  have hen:mB s S=[.d (sg s),.d (qbJ S.ways),.d (.int .i64 60),.d (.int .i64 S.steps),.d (.int .i64 20000),.d (.bool S.over)]:=rfl;obtain⟨pf,pv,pk⟩:=p;obtain⟨tf,tv,tk⟩:=t;simp only[T.qbe,T.qdM,T.qbc]at hf hd;cases hdd:S.done with
  |true=>
   rw[hdd]at hd;simp[qGx,qmD,qmC,qmB,qmA,qmz,qmy,qmx,qmw,h1,h2,h3,hf,hd,splice]
  |false=>
   rw[hdd]at hd;rw[hen]at hf hd;simp[qGx,qmD,qmC,qmB,qmA,qmz,qmy,qmx,qmw,h1,h2,h3,hf,hd,splice]
theorem MS.good.fuel{S:MS}(h:S.good)(hd:S.done=false):S.steps<=20000/\S.ways.length<=60:=by
 have h1:=h.o;unfold MS.done at hd;simp only[Bool.or_eq_false_iff,decide_eq_false_iff_not]at hd;rw[hd.1]at h1;have:¬20000<S.steps:=by simpa using h1.symm
 exact⟨by omega,by omega⟩
theorem qIq{s:List SymL}{p t:T}(h:qfY s p t=true):(qf8 s p t).good:=by
 obtain⟨c1,c2,c3⟩:=(qfh s p t).1 h;exact MS.good.run _ qij fun w hw=>qlx _ (qhA c1 c2 c3) hw
theorem ql8(s:List SymL)(hs:s.length<=1099511627776)(hn:∀i,i<s.length->(qav s i).name.size<=1099511627776)(p t:T)(hp:p.inner<=1099511627776)(ht:t.inner<=1099511627776):
 qac XV 306 [.d (sg s),.d (p.enc .sub),.d (t.enc .sub)] []=some (.d (.tup [qbJ (qa4 s p t).1,.bool (qa4 s p t).2]),[]):=by
 have h1:=qg3 s hs hn p hp;have h2:=qg3 s hs hn t ht;have h3:=qqx t ht;rw[qah XV _ _ _ qFE rfl qAb rfl];cases c:qfY s p t with
 |false=>
  have hm:qa4 s p t=([],false):=by unfold qa4;rw[c];simp
  rw[hm];unfold qfY at c;obtain⟨pf,pv,pk⟩:=p;obtain⟨tf,tv,tk⟩:=t;cases c1:qcb s (.node pf pv pk)with
  |false=>simp[qFE,qkW,qkV,qkU,qkT,qkS,qkR,qkQ,qkP,qkO,h1,c1]
  |true=>
   cases c2:qcb s (.node tf tv tk)with
   |false=>simp[qFE,qkW,qkV,qkU,qkT,qkS,qkR,qkQ,qkP,qkO,h1,h2,c1,c2]
   |true=>
    cases c3:qdy (.node tf tv tk)with
    |true=>simp[qFE,qkW,qkV,qkU,qkT,qkS,qkR,qkQ,qkP,qkO,h1,h2,h3,c1,c2,c3]
    |false=>rw[c1,c2,c3]at c;cases c
 |true=>
  obtain⟨c1,c2,c3⟩:=(qfh s p t).1 c;have hi:=qhA c1 c2 c3;have hpi:=qpn c1;rw[c1]at h1;rw[c2]at h2;rw[c3]at h3;obtain⟨q,hq,hR⟩:=qLa s hs (3*p.inner+3) [qbY p t] [] qgD [] 20000 0 [some [.d (.int .i64 p.f),.d (.int .i64 p.v),.d (qaa .sub p.kids)],some [.d (.int .i64 t.f),.d (.int .i64 t.v),.d (qaa .sub t.kids)]] hi (by rw[qBb];omega) (by omega) qij
   ⟨by decide,by decide,by decide,fun w hw=>(by cases hw),fun _=>⟨rfl,rfl⟩,fun h=>(by cases h)⟩ (by omega)
  have hf:qac XV 310 [.ptr 2 0,.d (qaJ [qbY p t]),.d (binds .sub [])] [some [.d (.int .i64 p.f),.d (.int .i64 p.v),.d (qaa .sub p.kids)],some [.d (.int .i64 t.f),.d (.int .i64 t.v),.d (qaa .sub t.kids)],some (rB s [] 20000)]=some (.d (.tup []),[some [.d (.int .i64 p.f),.d (.int .i64 p.v),.d (qaa .sub p.kids)],some [.d (.int .i64 t.f),.d (.int .i64 t.v),.d (qaa .sub t.kids)],some (rB s q.1 q.2)]):=hq [];rw[show qgD.run (evs s (3*p.inner+3) [qbY p t] [])=qf8 s p t from rfl]at hR;have hm:qa4 s p t=if(qf8 s p t).done=true then([],false)else((qf8 s p t).ways,true):=by
   unfold qa4;rw[c];cases(qf8 s p t).done<;>simp
  rw[hm];have heg:=qIq c;have hE:(qbY p t).encR= .agg [.int .i64 (-1),.sl .sub [p.enc .sub],.sl .sub [t.enc .sub]]:=rfl;simp only[qaJ,List.map_cons,List.map_nil,hE,binds]at hf;have hst:rB s [] 20000=[.d (sg s),.d (.sl U []),.d (.int .i64 20000)]:=rfl;rw[hst]at hf;generalize qf8 s p t=S at*
  obtain⟨ws,fuel⟩:=q;simp only at hf hR;have hen:rB s ws fuel=[.d (sg s),.d (qbJ ws),.d (.int .i64 fuel)]:=rfl;rw[hen]at hf;obtain⟨pf,pv,pk⟩:=p;obtain⟨tf,tv,tk⟩:=t;simp only[T.qbe,T.qdM,T.qbc]at hf;cases hdd:S.done with
  |true=>
   have hd:=hR.d hdd
   by_cases c4:fuel<0
   ·simp[qFE,qkW,qkV,qkU,qkT,qkS,qkR,qkQ,qkP,qkO,h1,h2,h3,hf,c4,splice]
   ·have c5:(60:Int)<(ws.length:Int):=by omega
    simp[qFE,qkW,qkV,qkU,qkT,qkS,qkR,qkQ,qkP,qkO,h1,h2,h3,hf,c4,c5,splice]
  |false=>
   obtain⟨hw1,hf1⟩:=hR.nd hdd;have hd2:=heg.fuel hdd;subst hw1;have c4:¬fuel<0:=by omega
   have c5:¬(60:Int)<(S.ways.length:Int):=by omega
   simp[qFE,qkW,qkV,qkU,qkT,qkS,qkR,qkQ,qkP,qkO,h1,h2,h3,hf,c4,c5,splice]
def qbN(s:List SymL)(p t:T):List Bd×Bool:=
 if(qa4 s p t).2=true/\(qa4 s p t).1.length≠0 then(wAt (qa4 s p t).1 0,true)else([],false)
theorem qmY{s:List SymL}{p t:T}(h:(qa4 s p t).2=false):(qa4 s p t).1=[]:=by
 unfold qa4 at*
 split at h
 ·cases h
 ·rename_i hc;rw[if_neg hc]
theorem qGv(g:Tag){ws:List (List Bd)}(h:ws.length≠0):(ws.map (binds g))[0]?=some (binds g (wAt ws 0)):=by
 cases ws with
 |nil=>simp at h
 |cons w ws=>rfl
theorem qlp(s:List SymL)(hs:s.length<=1099511627776)(hn:∀i,i<s.length->(qav s i).name.size<=1099511627776)(p t:T)(hp:p.inner<=1099511627776)(ht:t.inner<=1099511627776):
 qac XV 336 [.d (sg s),.d (p.enc .sub),.d (t.enc .sub)] []=some (.d (.tup [binds U (qbN s p t).1,.bool (qbN s p t).2]),[]):=by
 have h1:=ql9 s hs hn p t hp ht;rw[qah XV _ _ _ qL6 rfl qzX rfl];have hno:=qmY (s:=s) (p:=p) (t:=t);unfold qbN;generalize qa4 s p t=q at*
 obtain⟨ws,ok⟩:=q;obtain⟨pf,pv,pk⟩:=p;obtain⟨tf,tv,tk⟩:=t;simp only at h1 hno⊢
 cases ok with
 |false=>simp[qL6,quE,quD,quC,quB,quA,h1]
 |true=>
  by_cases c:ws.length=0
  ·have c1:(ws.length:Int)=0:=by omega
   have c2:((ws.length:Int)==0)=true:=by simp[c1]
   simp[qL6,quE,quD,quC,quB,quA,h1,c]
  ·have c1:¬(ws.length:Int)=0:=by omega
   have c2:((ws.length:Int)==0)=false:=by simpa using c1
   have hg:=qGv U c;simp[qL6,quE,quD,quC,quB,quA,h1,c,c2,hg,cut]
theorem qjY(s:List SymL)(hs:s.length<=1099511627776)(hn:∀i,i<s.length->(qav s i).name.size<=1099511627776)(p t:T)(hp:p.inner<=1099511627776)(ht:t.inner<=1099511627776):
 ∃g,qac XV 370 [.d (sg s),.d (p.enc .sub),.d (t.enc .sub)] []=some (.d (.tup [binds g (qbN s p t).1,.bool (qbN s p t).2]),[]):=by
 have h1:=ql8 s hs hn p t hp ht;rw[qah XV _ _ _ qL5 rfl qzV rfl];have hno:=qmY (s:=s) (p:=p) (t:=t);unfold qbN;generalize qa4 s p t=q at*
 obtain⟨ws,ok⟩:=q;obtain⟨pf,pv,pk⟩:=p;obtain⟨tf,tv,tk⟩:=t;simp only at h1 hno⊢
 cases ok with
 |false=>
  rw[hno rfl]at h1⊢
  exact⟨U,by simp[qL5,quz,quy,qux,quw,quv,h1]⟩
 |true=>
  by_cases c:ws.length=0
  ·have c1:(ws.length:Int)=0:=by omega
   have c2:((ws.length:Int)==0)=true:=by simp[c1]
   exact⟨U,by simp[qL5,quz,quy,qux,quw,quv,h1,c]⟩
  ·have c1:¬(ws.length:Int)=0:=by omega
   have c2:((ws.length:Int)==0)=false:=by simpa using c1
   have hg0:ws[0]?=some (wAt ws 0):=by cases ws with|nil=>simp at c|cons w ws=>rfl
   exact⟨.sub,by simp[qL5,quz,quy,qux,quw,quv,h1,c,c2,hg0,cut]⟩
theorem qIV(a:List Bd)(q:Bool):(DV.tup [binds U a,.bool q]).allUT=true:=by
 have h:(binds U a).allU=true:=qt8 a;show DV.allUs [binds U a,.bool q]=true;unfold DV.allUs;rw[h];rfl
theorem qMg(c:Bool){a:List Bd}{b:Nat}{p:AV}{R:qam}(h:(binds .sub a).thaw b=(p,R)):(DV.tup [binds .sub a,.bool c]).thaw b=(.ag true [p,.d (.bool c)],R):=by
 have e:qbE b [binds .sub a,.bool c]=([p,.d (.bool c)],R++[]):=by
  unfold qbE;rw[show qaT b (binds .sub a)=(binds .sub a).thaw b from rfl,h];rfl
 show(AV.ag true (qbE b [binds .sub a,.bool c]).1,(qbE b [binds .sub a,.bool c]).2)=_;rw[e,List.append_nil]
theorem qtf(s:List SymL)(p t:T)(w:List Bd)(hw:w∈(qa4 s p t).1):w.length<=1000000/\∀b,b∈w->b.t.inner<=1000:=by
 unfold qa4 at hw;split at hw
 ·rename_i h
  obtain⟨c1,c2,c3⟩:=(qfh s p t).1 h.1;rcases MS.qrL _ _ _ hw with h1|h1
  ·cases h1
  ·have h2:=qtE (P:=Inv s) (fun gl u c hp hc=>(qdo hp c hc).1) _ _ _ _ (qhA c1 c2 c3) h1
   exact⟨by have:=h2.m;omega,fun b hb=>(h2.b b hb).1⟩
 ·cases hw
theorem qnf:∀(l:List Bd),(∀b,b∈l->b.t.inner<=1000)->qb1 l<=2003*l.length
 | [],_=>by simp[qb1]
 |b::l,h=>by
  have h1:=qnf l fun x hx=>h x (List.mem_cons_of_mem _ hx)
  have h2:=h b (List.mem_cons_self ..);simp only[qb1,List.length_cons];omega
theorem qot(s:List SymL)(p t:T):(qbN s p t).1.length<=1099511627776/\(∀i,i<(qbN s p t).1.length->(bAt (qbN s p t).1 i).t.inner<=1099511627776)/\qb1 (qbN s p t).1<=1099511627776:=by
 unfold qbN;split
 ·rename_i h
  obtain⟨h1,h2⟩:=qtf s p t (wAt (qa4 s p t).1 0) (qr3 (by omega));have h3:=qnf _ h2;exact⟨by simp only;omega,fun i hi=>Nat.le_trans (h2 _ (qFi hi)) (by omega),by simp only;omega⟩
 ·exact⟨by simp,fun i hi=>by simp at hi,by simp[qb1]⟩
theorem qiP(l:List SymL)(hl:l.length<=maxLen)(hol:∀s,s∈l->s.ok)(p:T)(hp:p.ok)(t:T)(ht:t.ok):∃B,qac XV 369 [.d (sg l),.d (p.enc .sub),.d (t.enc .sub)] []=some (.d (.bool true),B):=by
 rw[qah XV _ _ _ qI1 rfl qzW rfl];have z1:=qA6 l (1048576) hl hol (by omega) (by omega)
 by_cases h1_:(1048576:Int)-qde l<0
 ·rw[qdX h1_]at z1
  simp[qI1,qpY,qpX,qpW,qpV,qpU,qpT,qpS,qpR,qpQ,qpP,qkG,qkF,qkE,qkD,qkC,qkB,qkA,qkz,qky,qkx,qkw,qkv,qku,qkt,qks,qkr,qkq,qkp,qko,qkn,qkm,qkl,qkk,qkj,qki,qkh,qkg,qkf,qke,qkd,qkc,qkb,qka,qj9,z1]
 rw[qeC h1_]at z1;have z2:=qjV p (1048576-qde l) hp (by omega) (by omega)
 by_cases h2_:(1048576:Int)-qde l-p.inner<0
 ·rw[qdX h2_]at z2
  simp[qI1,qpY,qpX,qpW,qpV,qpU,qpT,qpS,qpR,qpQ,qpP,qkG,qkF,qkE,qkD,qkC,qkB,qkA,qkz,qky,qkx,qkw,qkv,qku,qkt,qks,qkr,qkq,qkp,qko,qkn,qkm,qkl,qkk,qkj,qki,qkh,qkg,qkf,qke,qkd,qkc,qkb,qka,qj9,z1,z2,h1_]
 rw[qeC h2_]at z2;have z3:=qjV t (1048576-qde l-p.inner) ht (by omega) (by omega)
 by_cases h3_:(1048576:Int)-qde l-p.inner-t.inner<0
 ·rw[qdX h3_]at z3
  simp[qI1,qpY,qpX,qpW,qpV,qpU,qpT,qpS,qpR,qpQ,qpP,qkG,qkF,qkE,qkD,qkC,qkB,qkA,qkz,qky,qkx,qkw,qkv,qku,qkt,qks,qkr,qkq,qkp,qko,qkn,qkm,qkl,qkk,qkj,qki,qkh,qkg,qkf,qke,qkd,qkc,qkb,qka,qj9,z1,z2,z3,h1_,h2_]
 rw[qeC h3_]at z3;have hl0:l.length<=1048576:=by unfold qde at*;omega
 have hls:l.length<=1099511627776:=by omega
 have hpi:p.inner<=1099511627776:=by omega
 have hti:t.inner<=1099511627776:=by omega
 have hnm:∀i,i<l.length->(qav l i).name.size<=1099511627776:=fun i hi=>by have:=qNk l i hi;omega
 have s2:=qlp l hls hnm p t hpi hti;obtain⟨gw,s1⟩:=qjY l hls hnm p t hpi hti;obtain⟨hal,hab,hac⟩:=qot l p t;generalize (qbN l p t).2=q at*
 generalize (qbN l p t).1=a at*
 have ub:=qFv true;have e_l:=qtH l hls;have t_l:=qAW l hls;have u_l:=qzw l;have e_p:=qfm p hpi;have t_p:=qjT p hpi;have u_p:=qrG p;have e_t:=qfm t hti;have t_t:=qjT t hti;have u_t:=qrG t;have e_a:=qq1 a hal hab;have u_q:=qIV a q;obtain⟨y1,R1,R1',H1⟩:=qQz l hls (2) (1) (by omega) (by omega);obtain⟨w2,y2,R2,R2',H2⟩:=qI2 p hpi (R1.length+1+1) (1+3*l.length) (by omega);obtain⟨w3,y3,R3,R3',H3⟩:=qI2 t hti (R1.length+(R2.length+1)+1+1) (1+3*l.length+2*p.inner) (by omega);obtain⟨y4,R4,R4',H4,HH4⟩:=qMh a hal hab (R1.length+(R2.length+(R3.length+1+1))+1+1) (1) (by omega);have k3:¬(((1+3*l.length+2*p.inner+2*t.inner:Nat):Int)<0):=by omega
 have k4:¬(((1+qb1 a:Nat):Int)<0):=by omega
 generalize 1+3*l.length+2*p.inner+2*t.inner=K3 at*
 generalize 1+3*l.length+2*p.inner=K2 at*
 generalize 1+3*l.length=K1 at*
 generalize 1+qb1 a=K4 at*
 generalize hgCp:(some [.d (.int .i64 p.f),.d (.int .i64 p.v),.d (qaa .sub p.kids)]:Option (List AV))=Cp;generalize hgCt:(some [.d (.int .i64 t.f),.d (.int .i64 t.v),.d (qaa .sub t.kids)]:Option (List AV))=Ct;generalize hgCX2:(some [.d (.int .i64 p.f),.d (.int .i64 p.v),w2]:Option (List AV))=CX2;generalize hgCX3:(some [.d (.int .i64 t.f),.d (.int .i64 t.v),w3]:Option (List AV))=CX3;have n1:=H1.len;have n2:=H2.len;have n3:=H3.len;have n4:=H4.len;have f1:=fun Q:qam=>H1.frz (Cp::Ct::[]) Q (by simp only[List.length_cons,List.length_nil]<;>omega)
 have fe1:=H1.frz (Cp::Ct::[]) [] (by simp only[List.length_cons,List.length_nil]<;>omega);have m1:=fun Q:qam=>H1.mark (Cp::Ct::[]) Q (by simp only[List.length_cons,List.length_nil]<;>omega)
 have f2:=fun Q:qam=>H2.frz (Cp::Ct::R1) Q (by simp only[List.length_cons]<;>omega)
 have m2:=fun Q:qam=>H2.mark (Cp::Ct::R1') Q (by simp only[List.length_cons,n1]<;>omega)
 have f3:=fun Q:qam=>H3.frz (Cp::Ct::(R1++(R2++[CX2]))) Q (by simp only[List.length_cons,yg_,List.length_nil]<;>omega)
 have m3:=fun Q:qam=>H3.mark (Cp::Ct::(R1'++(R2'++[CX2]))) Q (by simp only[List.length_cons,yg_,List.length_nil,n1,n2]<;>omega)
 have f4:=fun Q:qam=>H4.frz (Cp::Ct::(R1++(R2++(CX2::(R3++[CX3]))))) Q (by simp only[List.length_cons,yg_,List.length_nil]<;>omega)
 have fe4:=H4.frz (Cp::Ct::(R1++(R2++(CX2::(R3++[CX3]))))) [] (by simp only[List.length_cons,yg_,List.length_nil]<;>omega);have fp4:=fun Q:qam=>H4.frz (Cp::Ct::(R1'++(R2'++(CX2::(R3'++[CX3]))))) Q (by simp only[List.length_cons,yg_,List.length_nil,n1,n2,n3]<;>omega)
 have m4:=fun Q:qam=>H4.mark (Cp::Ct::(R1'++(R2'++(CX2::(R3'++[CX3]))))) Q (by simp only[List.length_cons,yg_,List.length_nil,n1,n2,n3]<;>omega)
 have fpe4:=H4.frz (Cp::Ct::(R1'++(R2'++(CX2::(R3'++[CX3]))))) [] (by simp only[List.length_cons,yg_,List.length_nil,n1,n2,n3]<;>omega);have me4:=H4.mark (Cp::Ct::(R1'++(R2'++(CX2::(R3'++[CX3]))))) [] (by simp only[List.length_cons,yg_,List.length_nil,n1,n2,n3]<;>omega);have le4:=HH4 (Cp::Ct::(R1'++(R2'++(CX2::(R3'++[CX3]))))) [] (by simp only[List.length_cons,yg_,List.length_nil,n1,n2,n3]<;>omega);have l4:=fun Q:qam=>HH4 (Cp::Ct::(R1'++(R2'++(CX2::(R3'++[CX3]))))) Q (by simp only[List.length_cons,yg_,List.length_nil,n1,n2,n3]<;>omega)
 subst hgCp;subst hgCt;subst hgCX2;subst hgCX3;simp only[List.cons_append,List.nil_append,yh_,List.append_nil,Int.natCast_one]at f1 fe1 m1 f2 m2 f3 m3 f4 fe4 fp4 m4 fpe4 me4 le4 l4;have x1:=H1.th;have c1:=H1.cl;have i1:=H1.ic
 have x2:=H2.th;have c2:=H2.cl;have i2:=H2.ic
 have d2:=H2.cly;have g2:=H2.ag
 have x3:=H3.th;have c3:=H3.cl;have i3:=H3.ic
 have d3:=H3.cly;have g3:=H3.ag
 have x4:=H4.th;have c4:=H4.cl;have i4:=H4.ic
 have xT:=qMg q H4.th;have v2_:=H2.sf (R1.length+R2.length+1+1) (by omega);have v3_:=H3.sf (R1.length+(R2.length+(R3.length+1))+1+1) (by omega);simp only[sg,qaa,binds]at*
 simp[qI1,qpY,qpX,qpW,qpV,qpU,qpT,qpS,qpR,qpQ,qpP,qkG,qOx,qkF,qkE,qkD,qkC,qkB,qkA,qkz,qky,qOw,qkx,qOv,qkw,qkv,qku,qkt,qks,qkr,qkq,qkp,qko,qkn,qkm,qkl,qkk,qkj,qki,qOu,qkh,qkg,qkf,qke,qkd,qkc,qkb,qka,qj9,z1,z2,z3,h1_,h2_,h3_,s1,s2,ub,e_l,t_l,u_l,e_p,t_p,u_p,e_t,t_t,u_t,e_a,u_q,k3,k4,n1,n2,n3,n4,f1,m1,f2,m2,f3,m3,fe4,fpe4,me4,le4,x1,c1,x2,c2,i2,d2,g2,x3,c3,i3,d3,g3,c4,xT,v2_,v3_,T.eta,splice,qal,qae,qai,qgh,qbh,qsj,qaC,qE9,qYR]
mutual
def TT.erase:TT->T
 | .node f v g ks=> .node f v (TT.erases ks)
def TT.erases:List TT->List T
 | []=>[]
 |t::r=>t.erase::TT.erases r
end
theorem TT.qiR:∀l:List TT,TT.erases l=l.map TT.erase
 | []=>by unfold TT.erases;rfl
 |t::r=>by unfold TT.erases;simp[TT.qiR r]
mutual
theorem TT.qcP:∀t:TT,DV.clrs t.cells=[.int .i64 t.erase.f,.int .i64 t.erase.v,qaa .sub t.erase.kids]
 | .node f v g ks=>by
  simp only[TT.cells,DV.clrs,DV.clr,TT.erase,T.qbe,T.qdM,T.qbc,qaa];rw[TT.qdW ks]
theorem TT.qdW:∀l:List TT,DV.clrs (TT.encs l)=(TT.erases l).map (T.enc .sub)
 | []=>by simp[TT.encs,DV.clrs,TT.erases]
 |t::r=>by
  simp only[TT.encs,DV.clrs,DV.clr,TT.erases,List.map_cons];rw[TT.qcP t,TT.qdW r,T.qbD]
end
theorem TT.qd8(t:TT):t.enc.clr=t.erase.enc .sub:=by
 simp only[TT.enc,DV.clr];rw[TT.qcP,T.qbD]
mutual
theorem TT.qfu:∀t:TT,t.ok->t.erase.ok
 | .node f v g ks,h=>by
  simp only[TT.ok]at h;simp only[TT.erase,T.ok,TT.qiR,List.length_map];refine⟨h.2.2.1,?_⟩;rw[<-TT.qiR];exact TT.ql0 ks h.2.2.2
theorem TT.ql0:∀l:List TT,TT.oks l->T.oks (TT.erases l)
 | [],_=>by simp[TT.erases,T.oks]
 |t::r,h=>by
  simp only[TT.oks]at h;simp only[TT.erases,T.oks];exact⟨TT.qfu t h.1,TT.ql0 r h.2⟩
end
theorem qIx(s:SymL):s.enc.clr=s.enc:=by unfold SymL.enc SymL.cells;simp only[DV.clr,DV.clrs]
theorem qIw(g:Tag)(l:List SymL):(qUE g l).clr= .sl .sub (l.map SymL.enc):=by
 simp only[qUE,qLm,List.map_map,Function.comp_def,qIx]
theorem qye(hX:XOK XV){k:Nat}{vs:List DV}(h:∃B,qac XV k ((DV.clrs vs).map .d) []=some (.d (.bool true),B)):∃A B,qzn E [] k (vs.map .d) [] Ids.none=some ⟨.d (.bool true),A,B⟩:=by
 obtain⟨B,h⟩:=h;obtain⟨u,A,Bv,h1,h2⟩:=qHW hX (DV.qct vs) (DV.qcs vs) (d:= .bool true) (by simp[DV.clr]) h;simp only[DV.fit]at h2;subst h2
 exact⟨A,Bv,h1⟩
theorem qXh{P:Program}{a:TypeId}:∀{xs:List (List DV)},qLq P [a] xs->∃x,xs=[x]
 | [x],_=>⟨x,rfl⟩
 | [],h=>h.elim
 |_::_::_,h=>h.2.elim
theorem qXg{P:Program}{a b:TypeId}:∀{xs:List (List DV)},qLq P [a,b] xs->∃x y,xs=[x,y]
 |x::r,h=>by obtain⟨y,rfl⟩:=qXh h.2;exact⟨x,y,rfl⟩
theorem qXf{P:Program}{a b c:TypeId}:∀{xs:List (List DV)},qLq P [a,b,c] xs->∃x y z,xs=[x,y,z]
 |x::r,h=>by obtain⟨y,z,rfl⟩:=qXg h.2;exact⟨x,y,z,rfl⟩
structure L where
 p:Bool
 a:T
 b:T
def L.enc(g:Tag)(x:L):DV:= .agg [.bool x.p,.int .i64 x.a.f,.int .i64 x.a.v,qaa g x.a.kids,.int .i64 x.b.f,.int .i64 x.b.v,qaa g x.b.kids]
def L.ok(x:L):Prop:=x.a.ok/\x.b.ok
@[simp] theorem L.qeJ(g:Tag)(x:L):(x.enc g).cells=[.bool x.p,.int .i64 x.a.f,.int .i64 x.a.v,qaa g x.a.kids,.int .i64 x.b.f,.int .i64 x.b.v,qaa g x.b.kids]:=rfl
@[simp] theorem L.qiS(g:Tag)(x:L):(AV.d (x.enc g)).cells=[.d (.bool x.p),.d (.int .i64 x.a.f),.d (.int .i64 x.a.v),.d (qaa g x.a.kids),.d (.int .i64 x.b.f),.d (.int .i64 x.b.v),.d (qaa g x.b.kids)]:=rfl
@[simp] theorem L.qiQ(g:Tag)(x:L):(x.enc g).isCell=false:=rfl
@[simp] theorem L.qd8(g:Tag)(x:L):(x.enc g).clr=x.enc .sub:=by
 simp only[L.enc,DV.clr,DV.clrs,qaa,DV.qaA,qd5]
theorem L.agg_enc(g:Tag)(x:L):DV.agg [.bool x.p,.int .i64 x.a.f,.int .i64 x.a.v,qaa g x.a.kids,.int .i64 x.b.f,.int .i64 x.b.v,qaa g x.b.kids]=x.enc g:=rfl
def L.cmp(x y:L):Int:=if !x.p&&y.p then-1 else if x.p&& !y.p then 1 else if T.cmp x.a y.a≠0 then T.cmp x.a y.a else T.cmp x.b y.b
def L.same(x y:L):Bool:=x.p==y.p&&(T.cmp x.a y.a==0)&&(T.cmp x.b y.b==0)
theorem L.cmp_zero(x y:L):(L.cmp x y==0)=L.same x y:=by
 obtain⟨p,a,b⟩:=x;obtain⟨q,a',b'⟩:=y;unfold L.cmp L.same;cases p<;>cases q<;>by_cases c:T.cmp a a'=0<;>simp[c]
end Go.Proofs.YtbcbkiaineacpaaGreat.VS
namespace Go.Proofs.YtbcbkiaineacpaaGreat.VS
variable {P:Program}
structure LL where
 p:Bool
 a:TT
 b:TT
def LL.cells(x:LL):List DV:= .bool x.p::(x.a.cells++x.b.cells)
def LL.enc(x:LL):DV:= .agg x.cells
def LL.ok(x:LL):Prop:=x.a.ok/\x.b.ok
def LL.erase(x:LL):L:=⟨x.p,x.a.erase,x.b.erase⟩
theorem LL.qfu(x:LL)(h:x.ok):x.erase.ok:=⟨TT.qfu _ h.1,TT.qfu _ h.2⟩
theorem LL.qd8(x:LL):x.enc.clr=x.erase.enc .sub:=by
 have ha:=TT.qcP x.a;have hb:=TT.qcP x.b;rw[DV.qaA]at ha hb;simp only[LL.enc,LL.cells,DV.clr,DV.qaA,List.map_cons,List.map_append,ha,hb,LL.erase,L.enc];rfl
structure BB where
 v:Int
 t:TT
def BB.cells(x:BB):List DV:= .int .i64 x.v::x.t.cells
def BB.enc(x:BB):DV:= .agg x.cells
def BB.ok(x:BB):Prop:=(-9223372036854775808<=x.v/\x.v<=9223372036854775807)/\x.t.ok
def BB.erase(x:BB):Bd:=⟨x.v,x.t.erase⟩
theorem BB.qd8(x:BB):x.enc.clr=x.erase.enc .sub:=by
 have ha:=TT.qcP x.t;rw[DV.qaA]at ha;simp only[BB.enc,BB.cells,DV.clr,DV.qaA,List.map_cons,ha,BB.erase,Bd.enc]
theorem BB.ql0{l:List BB}(h:∀s,s∈l->BB.ok s):∀s,s∈l.map BB.erase->Bd.ok s:=by
 intro s hs;obtain⟨t,ht,rfl⟩:=List.mem_map.1 hs;exact⟨(h t ht).1,TT.qfu _ (h t ht).2⟩
end Go.Proofs.YtbcbkiaineacpaaGreat.VS
