/- Contracts of the program's functions on the evaluator without names, and plain lemmas: part 6. -/
import Derived.Test.YtbcbkiaineacpaaGreatXP5
set_option linter.unusedSimpArgs false
set_option linter.unusedVariables false
namespace Go.Proofs.YtbcbkiaineacpaaGreat.VS
theorem ql6{s:List SymL}{p t:T}(hp:qcf s p=true)(ht:qcf s t=true)(hw:qem t=false):Inv s [qb1 p t] []:=by
 unfold qcf at hp ht;simp only[Bool.and_eq_true,decide_eq_true_eq]at hp ht;refine⟨fun g hg=> ?_,fun b hb=>by(cases hb),?_⟩
 ·rw[List.mem_singleton]at hg;subst hg
  refine⟨?_,fun x hx=> ?_,fun x hx=> ?_,fun e=>by(cases e),fun _=>⟨_,_,rfl,rfl⟩⟩
  ·simp only[qb1,qaJ]
   have:qcm []=0:=rfl;omega
  ·simp only[qb1,List.mem_singleton]at hx;subst hx;exact⟨hw,ht.2.2⟩
  ·simp only[qb1,List.mem_singleton]at hx;subst hx;exact hp.2.2
 ·rw[qaN,qh0]
  have:qef []=0:=rfl;simp only[List.length_nil];omega
theorem qAn(p t:T):qef [qb1 p t]=3*p.inner+2:=by rw[qaN,qh0];rfl
def qgC(s:List SymL)(p t:T):Bool:=qcf s p&&(qcf s t&& !qem t)
def qhf:MS:=⟨[],0,false⟩
def qgL(s:List SymL)(p t:T):MS:=qhf.run (evs s (3*p.inner+3) [qb1 p t] [])
def qa5(s:List SymL)(p t:T):List (List Bd)×Bool:=if qgC s p t=true/\(qgL s p t).done=false then((qgL s p t).ways,true)else([],false)
theorem qiy:qhf.good:=⟨by decide,by decide,by decide,fun w hw=>by cases hw⟩
theorem qqP{s:List SymL}{t:T}(h:qcf s t=true):t.inner+1<=60:=by
 unfold qcf at h;simp only[Bool.and_eq_true,decide_eq_true_eq]at h;exact h.2.1
theorem qhn(s:List SymL)(p t:T):qgC s p t=true↔qcf s p=true/\qcf s t=true/\qem t=false:=by
 unfold qgC;simp
theorem qmQ(s:List SymL)(hs:s.length<=1099511627776)(hn:∀i,i<s.length->(qax s i).name.size<=1099511627776)(p t:T)(hp:p.inner<=1099511627776)(ht:t.inner<=1099511627776):
 qac XV 307 [.d (sg s),.d (p.enc .sub),.d (t.enc .sub)] []=some (.d (.tup [qbQ (qa5 s p t).1,.bool (qa5 s p t).2]),[]):=by
 have h1:=qhZ s hs hn p hp;have h2:=qhZ s hs hn t ht;have h3:=qui t ht;rw[qah XV _ _ _ qES rfl qzy rfl];cases c:qgC s p t with
 |false=>
  have hm:qa5 s p t=([],false):=by unfold qa5;rw[c];simp
  rw[hm];unfold qgC at c;obtain⟨pf,pv,pk⟩:=p;obtain⟨tf,tv,tk⟩:=t;cases c1:qcf s (.node pf pv pk)with
  |false=>simp[qES,qnH,qnG,qnF,qnE,qnD,qnC,qnB,qnA,h1,h2,h3,c1,splice]
  |true=>
   cases c2:qcf s (.node tf tv tk)with
   |false=>simp[qES,qnH,qnG,qnF,qnE,qnD,qnC,qnB,qnA,h1,h2,h3,c1,c2,splice]
   |true=>
    cases c3:qem (.node tf tv tk)with
    |true=>simp[qES,qnH,qnG,qnF,qnE,qnD,qnC,qnB,qnA,h1,h2,h3,c1,c2,c3,splice]
    |false=>rw[c1,c2,c3]at c;cases c
 |true=>
  obtain⟨c1,c2,c3⟩:=(qhn s p t).1 c;have hi:=ql6 c1 c2 c3;rw[c1]at h1;rw[c2]at h2;rw[c3]at h3;have hf:qac XV 318 [.ptr 2 0,.d (qaO .sub [qb1 p t]),.d (binds .sub [])] [some [.d (.int .i64 p.f),.d (.int .i64 p.v),.d (qaa .sub p.kids)],some [.d (.int .i64 t.f),.d (.int .i64 t.v),.d (qaa .sub t.kids)],some (mB s qhf)]=some (.d (.tup []),[some [.d (.int .i64 p.f),.d (.int .i64 p.v),.d (qaa .sub p.kids)],some [.d (.int .i64 t.f),.d (.int .i64 t.v),.d (qaa .sub t.kids)],some (mB s (qgL s p t))]):=
   qwg s hs (3*p.inner+3) [qb1 p t] [] qhf [some [.d (.int .i64 p.f),.d (.int .i64 p.v),.d (qaa .sub p.kids)],some [.d (.int .i64 t.f),.d (.int .i64 t.v),.d (qaa .sub t.kids)]] [] hi (by rw[qAn];omega) qiy
  have hd:qac XV 319 [.ptr 2 0] [some [.d (.int .i64 p.f),.d (.int .i64 p.v),.d (qaa .sub p.kids)],some [.d (.int .i64 t.f),.d (.int .i64 t.v),.d (qaa .sub t.kids)],some (mB s (qgL s p t))]=some (.d (.bool (qgL s p t).done),[some [.d (.int .i64 p.f),.d (.int .i64 p.v),.d (qaa .sub p.kids)],some [.d (.int .i64 t.f),.d (.int .i64 t.v),.d (qaa .sub t.kids)],some (mB s (qgL s p t))]):=
   qht s (qgL s p t) [some [.d (.int .i64 p.f),.d (.int .i64 p.v),.d (qaa .sub p.kids)],some [.d (.int .i64 t.f),.d (.int .i64 t.v),.d (qaa .sub t.kids)]] []
  have hm:qa5 s p t=if(qgL s p t).done=true then([],false)else((qgL s p t).ways,true):=by
   unfold qa5;rw[c];cases(qgL s p t).done<;>simp
  rw[hm];have hE:(qb1 p t).enc .sub= .agg [.bool false,.int .i64 0,.sl .sub [p.enc .sub],.sl .sub [t.enc .sub]]:=rfl;simp only[qaO,List.map_cons,List.map_nil,hE,binds]at hf;have hst:mB s qhf=[.d (sg s),.d (.sl U []),.d (.int .i64 60),.d (.int .i64 0),.d (.int .i64 20000),.d (.bool false)]:=rfl;rw[hst]at hf;generalize qgL s p t=S at*
  have hen:mB s S=[.d (sg s),.d (qbQ S.ways),.d (.int .i64 60),.d (.int .i64 S.steps),.d (.int .i64 20000),.d (.bool S.over)]:=rfl;obtain⟨pf,pv,pk⟩:=p;obtain⟨tf,tv,tk⟩:=t;simp only[T.qaW,T.qdR,T.qaQ]at hf hd;cases hdd:S.done with
  |true=>
   rw[hdd]at hd;simp[qES,qnH,qnG,qnF,qnE,qnD,qnC,qnB,qnA,h1,h2,h3,hf,hd,splice]
  |false=>
   rw[hdd]at hd;rw[hen]at hf hd;simp[qES,qnH,qnG,qnF,qnE,qnD,qnC,qnB,qnA,h1,h2,h3,hf,hd,splice]
theorem MS.good.fuel{S:MS}(h:S.good)(hd:S.done=false):S.steps<=20000/\S.ways.length<=60:=by
 have h1:=h.o;unfold MS.done at hd;simp only[Bool.or_eq_false_iff,decide_eq_false_iff_not]at hd;rw[hd.1]at h1;have:¬20000<S.steps:=by simpa using h1.symm
 exact⟨by omega,by omega⟩
theorem qGn{s:List SymL}{p t:T}(h:qgC s p t=true):(qgL s p t).good:=by
 obtain⟨c1,c2,c3⟩:=(qhn s p t).1 h;exact MS.good.run _ qiy fun w hw=>qmg _ (ql6 c1 c2 c3) hw
theorem qmP(s:List SymL)(hs:s.length<=1099511627776)(hn:∀i,i<s.length->(qax s i).name.size<=1099511627776)(p t:T)(hp:p.inner<=1099511627776)(ht:t.inner<=1099511627776):
 qac XV 306 [.d (sg s),.d (p.enc .sub),.d (t.enc .sub)] []=some (.d (.tup [qbQ (qa5 s p t).1,.bool (qa5 s p t).2]),[]):=by
 have h1:=qhH s hs hn p hp;have h2:=qhH s hs hn t ht;have h3:=qr0 t ht;rw[qah XV _ _ _ qD3 rfl qzz rfl];cases c:qgC s p t with
 |false=>
  have hm:qa5 s p t=([],false):=by unfold qa5;rw[c];simp
  rw[hm];unfold qgC at c;obtain⟨pf,pv,pk⟩:=p;obtain⟨tf,tv,tk⟩:=t;cases c1:qcf s (.node pf pv pk)with
  |false=>simp[qD3,qlo,qln,qlm,qll,qlk,qlj,qli,qlh,qlg,h1,h2,h3,c1,splice]
  |true=>
   cases c2:qcf s (.node tf tv tk)with
   |false=>simp[qD3,qlo,qln,qlm,qll,qlk,qlj,qli,qlh,qlg,h1,h2,h3,c1,c2,splice]
   |true=>
    cases c3:qem (.node tf tv tk)with
    |true=>simp[qD3,qlo,qln,qlm,qll,qlk,qlj,qli,qlh,qlg,h1,h2,h3,c1,c2,c3,splice]
    |false=>rw[c1,c2,c3]at c;cases c
 |true=>
  obtain⟨c1,c2,c3⟩:=(qhn s p t).1 c;have hi:=ql6 c1 c2 c3;have hpi:=qqP c1;rw[c1]at h1;rw[c2]at h2;rw[c3]at h3;obtain⟨q,hq,hR⟩:=qHQ s hs (3*p.inner+3) [qb1 p t] [] qhf [] 20000 0 [some [.d (.int .i64 p.f),.d (.int .i64 p.v),.d (qaa .sub p.kids)],some [.d (.int .i64 t.f),.d (.int .i64 t.v),.d (qaa .sub t.kids)]] hi (by rw[qAn];omega) (by omega) qiy
   ⟨by decide,by decide,by decide,fun w hw=>(by cases hw),fun _=>⟨rfl,rfl⟩,fun h=>(by cases h)⟩ (by omega)
  have hf:qac XV 310 [.ptr 2 0,.d (qaH [qb1 p t]),.d (binds .sub [])] [some [.d (.int .i64 p.f),.d (.int .i64 p.v),.d (qaa .sub p.kids)],some [.d (.int .i64 t.f),.d (.int .i64 t.v),.d (qaa .sub t.kids)],some (rB s [] 20000)]=some (.d (.tup []),[some [.d (.int .i64 p.f),.d (.int .i64 p.v),.d (qaa .sub p.kids)],some [.d (.int .i64 t.f),.d (.int .i64 t.v),.d (qaa .sub t.kids)],some (rB s q.1 q.2)]):=hq [];rw[show qhf.run (evs s (3*p.inner+3) [qb1 p t] [])=qgL s p t from rfl]at hR;have hm:qa5 s p t=if(qgL s p t).done=true then([],false)else((qgL s p t).ways,true):=by
   unfold qa5;rw[c];cases(qgL s p t).done<;>simp
  rw[hm];have heg:=qGn c;have hE:(qb1 p t).encR= .agg [.int .i64 (-1),.sl .sub [p.enc .sub],.sl .sub [t.enc .sub]]:=rfl;simp only[qaH,List.map_cons,List.map_nil,hE,binds]at hf;have hst:rB s [] 20000=[.d (sg s),.d (.sl U []),.d (.int .i64 20000)]:=rfl;rw[hst]at hf;generalize qgL s p t=S at*
  obtain⟨ws,fuel⟩:=q;simp only at hf hR;have hen:rB s ws fuel=[.d (sg s),.d (qbQ ws),.d (.int .i64 fuel)]:=rfl;rw[hen]at hf;obtain⟨pf,pv,pk⟩:=p;obtain⟨tf,tv,tk⟩:=t;simp only[T.qaW,T.qdR,T.qaQ]at hf;cases hdd:S.done with
  |true=>
   have hd:=hR.d hdd
   by_cases c4:fuel<0
   ·simp[qD3,qlo,qln,qlm,qll,qlk,qlj,qli,qlh,qlg,h1,h2,h3,hf,c4,splice]
   ·have c5:(60:Int)<(ws.length:Int):=by omega
    simp[qD3,qlo,qln,qlm,qll,qlk,qlj,qli,qlh,qlg,h1,h2,h3,hf,c4,c5,splice]
  |false=>
   obtain⟨hw1,hf1⟩:=hR.nd hdd;have hd2:=heg.fuel hdd;subst hw1;have c4:¬fuel<0:=by omega
   have c5:¬(60:Int)<(S.ways.length:Int):=by omega
   simp[qD3,qlo,qln,qlm,qll,qlk,qlj,qli,qlh,qlg,h1,h2,h3,hf,c4,c5,splice]
def qcg(s:List SymL)(p t:T):List Bd×Bool:=
 if(qa5 s p t).2=true/\(qa5 s p t).1.length≠0 then(wAt (qa5 s p t).1 0,true)else([],false)
theorem qoF{s:List SymL}{p t:T}(h:(qa5 s p t).2=false):(qa5 s p t).1=[]:=by
 unfold qa5 at*
 split at h
 ·cases h
 ·rename_i hc;rw[if_neg hc]
theorem quX(g:Tag){ws:List (List Bd)}(h:ws.length≠0):(ws.map (binds g))[0]?=some (binds g (wAt ws 0)):=by
 cases ws with
 |nil=>simp at h
 |cons w ws=>rfl
theorem ql7(s:List SymL)(hs:s.length<=1099511627776)(hn:∀i,i<s.length->(qax s i).name.size<=1099511627776)(p t:T)(hp:p.inner<=1099511627776)(ht:t.inner<=1099511627776):
 qac XV 336 [.d (sg s),.d (p.enc .sub),.d (t.enc .sub)] []=some (.d (.tup [binds U (qcg s p t).1,.bool (qcg s p t).2]),[]):=by
 have h1:=qmQ s hs hn p t hp ht;rw[qah XV _ _ _ qIH rfl qzl rfl];have hno:=qoF (s:=s) (p:=p) (t:=t);unfold qcg;generalize qa5 s p t=q at*
 obtain⟨ws,ok⟩:=q;obtain⟨pf,pv,pk⟩:=p;obtain⟨tf,tv,tk⟩:=t;simp only at h1 hno⊢
 cases ok with
 |false=>simp[qIH,qvi,qvh,qvg,qvf,qve,h1,splice]
 |true=>
  by_cases c:ws.length=0
  ·have c1:(ws.length:Int)=0:=by omega
   have c2:((ws.length:Int)==0)=true:=by simp[c1]
   simp[qIH,qvi,qvh,qvg,qvf,qve,h1,c,c1,c2,splice]
  ·have c1:¬(ws.length:Int)=0:=by omega
   have c2:((ws.length:Int)==0)=false:=by simpa using c1
   have hg:=quX U c;have hg0:ws[0]?=some (wAt ws 0):=by cases ws with|nil=>simp at c|cons w ws=>rfl
   simp[qIH,qvi,qvh,qvg,qvf,qve,h1,c,c1,c2,hg,hg0,splice,cut]
theorem qkF(s:List SymL)(hs:s.length<=1099511627776)(hn:∀i,i<s.length->(qax s i).name.size<=1099511627776)(p t:T)(hp:p.inner<=1099511627776)(ht:t.inner<=1099511627776):
 ∃g,qac XV 370 [.d (sg s),.d (p.enc .sub),.d (t.enc .sub)] []=some (.d (.tup [binds g (qcg s p t).1,.bool (qcg s p t).2]),[]):=by
 have h1:=qmP s hs hn p t hp ht;rw[qah XV _ _ _ qIG rfl qzk rfl];have hno:=qoF (s:=s) (p:=p) (t:=t);unfold qcg;generalize qa5 s p t=q at*
 obtain⟨ws,ok⟩:=q;obtain⟨pf,pv,pk⟩:=p;obtain⟨tf,tv,tk⟩:=t;simp only at h1 hno⊢
 cases ok with
 |false=>
  rw[hno rfl]at h1⊢
  exact⟨U,by simp[qIG,qvd,qvc,qvb,qva,qu9,h1,splice]⟩
 |true=>
  by_cases c:ws.length=0
  ·have c1:(ws.length:Int)=0:=by omega
   have c2:((ws.length:Int)==0)=true:=by simp[c1]
   exact⟨U,by simp[qIG,qvd,qvc,qvb,qva,qu9,h1,c,c1,c2,splice]⟩
  ·have c1:¬(ws.length:Int)=0:=by omega
   have c2:((ws.length:Int)==0)=false:=by simpa using c1
   have hg:=quX U c;have hg0:ws[0]?=some (wAt ws 0):=by cases ws with|nil=>simp at c|cons w ws=>rfl
   exact⟨.sub,by simp[qIG,qvd,qvc,qvb,qva,qu9,h1,c,c1,c2,hg,hg0,splice,cut]⟩
theorem ql8(s:List SymL)(hs:s.length<=1099511627776)(hn:∀i,i<s.length->(qax s i).name.size<=1099511627776)(p t:T)(hp:p.inner<=1099511627776)(ht:t.inner<=1099511627776):
 qac XV 335 [.d (sg s),.d (p.enc .sub),.d (t.enc .sub)] []=some (.d (.bool (qcg s p t).2),[]):=by
 have h1:=ql7 s hs hn p t hp ht;rw[qah XV _ _ _ qLV rfl qzm rfl];generalize qcg s p t=q at*
 obtain⟨pf,pv,pk⟩:=p;obtain⟨tf,tv,tk⟩:=t;simp[qLV,qG7,qG6,qG5,h1,splice]
theorem qkG(s:List SymL)(hs:s.length<=1099511627776)(hn:∀i,i<s.length->(qax s i).name.size<=1099511627776)(p t:T)(hp:p.inner<=1099511627776)(ht:t.inner<=1099511627776):
 qac XV 372 [.d (sg s),.d (p.enc .sub),.d (t.enc .sub)] []=some (.d (.bool (qcg s p t).2),[]):=by
 obtain⟨g,h1⟩:=qkF s hs hn p t hp ht;rw[qah XV _ _ _ qLU rfl qzi rfl];generalize qcg s p t=q at*
 obtain⟨pf,pv,pk⟩:=p;obtain⟨tf,tv,tk⟩:=t;simp[qLU,qG4,qG3,qG2,h1,splice]
theorem qi7(l:List SymL)(hl:l.length<=maxLen)(ho:∀s,s∈l->s.ok)(a:T)(ha:a.ok)(b:T)(hb:b.ok):∃B,qac XV 371 [.d (sg l),.d (a.enc .sub),.d (b.enc .sub)] []=some (.d (.bool true),B):=by
 rw[qah XV _ _ _ qGX rfl qzj rfl];have z0:=qAi l 1048576 hl ho (by omega) (by omega)
 by_cases h0:(1048576:Int)-qd5 l<0
 ·rw[qey h0]at z0
  simp[qGX,qrg,qrf,qre,qrd,qrc,qrb,qra,qq9,qq8,qq7,qk8,qqf,qk7,qk6,qk5,qk4,qk3,qk2,qk1,qk0,qqe,qkZ,qqd,qkY,qkX,z0]
 rw[qfx h0]at z0;have hls:l.length<=1099511627776:=by unfold qd5 at h0;omega
 have hn:∀i,i<l.length->(qax l i).name.size<=1099511627776:=fun i hi=>by have:=qJy l i hi;omega
 have z1:=qkC a (1048576-qd5 l) ha (by omega) (by omega)
 by_cases h1:(1048576:Int)-qd5 l-a.inner<0
 ·rw[qey h1]at z1
  simp[qGX,qrg,qrf,qre,qrd,qrc,qrb,qra,qq9,qq8,qq7,qk8,qqf,qk7,qk6,qk5,qk4,qk3,qk2,qk1,qk0,qqe,qkZ,qqd,qkY,qkX,z0,h0,z1]
 rw[qfx h1]at z1;have z2:=qkC b (1048576-qd5 l-a.inner) hb (by omega) (by omega)
 by_cases h2:(1048576:Int)-qd5 l-a.inner-b.inner<0
 ·rw[qey h2]at z2
  simp[qGX,qrg,qrf,qre,qrd,qrc,qrb,qra,qq9,qq8,qq7,qk8,qqf,qk7,qk6,qk5,qk4,qk3,qk2,qk1,qk0,qqe,qkZ,qqd,qkY,qkX,z0,h0,z1,h1,z2]
 rw[qfx h2]at z2;have t0:=qAe l hls;have t1:=qkA a (by omega);have t2:=qkA b (by omega);have s1:=qkG l hls hn a b (by omega) (by omega);have s2:=ql8 l hls hn a b (by omega) (by omega);generalize (qcg l a b).2=q at*
 have hq:(q !=q)=false:=by simp
 have e0:=quw l hls;have e1:=qhs a (by omega);have e2:=qhs b (by omega);simp[qGX,qrg,qrf,qre,qrd,qrc,qrb,qra,qq9,qq8,qq7,qk8,qqf,qk7,qk6,qk5,qk4,qk3,qk2,qk1,qk0,qqe,qkZ,qqd,qkY,qkX,z0,h0,z1,h1,z2,h2,t0,t1,t2,s1,s2,e0,e1,e2,hq,splice,qag,qae,qaf,qm5,qbh,qaB,qR4,qaj]
mutual
def TT.erase:TT->T
 | .node f v g ks=> .node f v (TT.erases ks)
def TT.erases:List TT->List T
 | []=>[]
 |t::r=>t.erase::TT.erases r
end
theorem TT.qi9:∀l:List TT,TT.erases l=l.map TT.erase
 | []=>by unfold TT.erases;rfl
 |t::r=>by unfold TT.erases;simp[TT.qi9 r]
mutual
theorem TT.qdM:∀t:TT,DV.clrs t.cells=[.int .i64 t.erase.f,.int .i64 t.erase.v,qaa .sub t.erase.kids]
 | .node f v g ks=>by
  simp only[TT.cells,DV.clrs,DV.clr,TT.erase,T.qaW,T.qdR,T.qaQ,qaa];rw[TT.qex ks]
theorem TT.qex:∀l:List TT,DV.clrs (TT.encs l)=(TT.erases l).map (T.enc .sub)
 | []=>by simp[TT.encs,DV.clrs,TT.erases]
 |t::r=>by
  simp only[TT.encs,DV.clrs,DV.clr,TT.erases,List.map_cons];rw[TT.qdM t,TT.qex r,T.qcJ]
end
theorem TT.qfq(t:TT):t.enc.clr=t.erase.enc .sub:=by
 simp only[TT.enc,DV.clr];rw[TT.qdM,T.qcJ]
mutual
theorem TT.qf6:∀t:TT,t.ok->t.erase.ok
 | .node f v g ks,h=>by
  simp only[TT.ok]at h;simp only[TT.erase,T.ok,TT.qi9,List.length_map];refine⟨h.2.2.1,?_⟩;rw[<-TT.qi9];exact TT.qmH ks h.2.2.2
theorem TT.qmH:∀l:List TT,TT.oks l->T.oks (TT.erases l)
 | [],_=>by simp[TT.erases,T.oks]
 |t::r,h=>by
  simp only[TT.oks]at h;simp only[TT.erases,T.oks];exact⟨TT.qf6 t h.1,TT.qmH r h.2⟩
end
theorem qGw(s:SymL):s.enc.clr=s.enc:=by unfold SymL.enc SymL.cells;simp only[DV.clr,DV.clrs]
theorem qGv(g:Tag)(l:List SymL):(qPx g l).clr= .sl .sub (l.map SymL.enc):=by
 simp only[qPx,qHZ,List.map_map,Function.comp_def,qGw]
theorem qxL(hX:XOK XV){k:Nat}{vs:List DV}(h:∃B,qac XV k ((DV.clrs vs).map .d) []=some (.d (.bool true),B)):∃A B,qyN E [] k (vs.map .d) [] Ids.none=some ⟨.d (.bool true),A,B⟩:=by
 obtain⟨B,h⟩:=h;obtain⟨u,A,Bv,h1,h2⟩:=qFS hX (DV.qcL vs) (DV.qcK vs) (d:= .bool true) (by simp[DV.clr]) h;simp only[DV.fit]at h2;subst h2
 exact⟨A,Bv,h1⟩
theorem qR7{P:Program}{a:TypeId}:∀{xs:List (List DV)},qH3 P [a] xs->∃x,xs=[x]
 | [x],_=>⟨x,rfl⟩
 | [],h=>h.elim
 |_::_::_,h=>h.2.elim
theorem qR6{P:Program}{a b:TypeId}:∀{xs:List (List DV)},qH3 P [a,b] xs->∃x y,xs=[x,y]
 |x::r,h=>by obtain⟨y,rfl⟩:=qR7 h.2;exact⟨x,y,rfl⟩
theorem qR5{P:Program}{a b c:TypeId}:∀{xs:List (List DV)},qH3 P [a,b,c] xs->∃x y z,xs=[x,y,z]
 |x::r,h=>by obtain⟨y,z,rfl⟩:=qR6 h.2;exact⟨x,y,z,rfl⟩
structure L where
 p:Bool
 a:T
 b:T
def L.enc(g:Tag)(x:L):DV:= .agg [.bool x.p,.int .i64 x.a.f,.int .i64 x.a.v,qaa g x.a.kids,.int .i64 x.b.f,.int .i64 x.b.v,qaa g x.b.kids]
def L.ok(x:L):Prop:=x.a.ok/\x.b.ok
@[simp] theorem L.qfC(g:Tag)(x:L):(x.enc g).cells=[.bool x.p,.int .i64 x.a.f,.int .i64 x.a.v,qaa g x.a.kids,.int .i64 x.b.f,.int .i64 x.b.v,qaa g x.b.kids]:=rfl
@[simp] theorem L.qja(g:Tag)(x:L):(AV.d (x.enc g)).cells=[.d (.bool x.p),.d (.int .i64 x.a.f),.d (.int .i64 x.a.v),.d (qaa g x.a.kids),.d (.int .i64 x.b.f),.d (.int .i64 x.b.v),.d (qaa g x.b.kids)]:=rfl
@[simp] theorem L.qi8(g:Tag)(x:L):(x.enc g).isCell=false:=rfl
@[simp] theorem L.qfq(g:Tag)(x:L):(x.enc g).clr=x.enc .sub:=by
 simp only[L.enc,DV.clr,DV.clrs,qaa,DV.qaw,qe2]
theorem L.agg_enc(g:Tag)(x:L):DV.agg [.bool x.p,.int .i64 x.a.f,.int .i64 x.a.v,qaa g x.a.kids,.int .i64 x.b.f,.int .i64 x.b.v,qaa g x.b.kids]=x.enc g:=rfl
def L.cmp(x y:L):Int:=if !x.p&&y.p then-1 else if x.p&& !y.p then 1 else if T.cmp x.a y.a≠0 then T.cmp x.a y.a else T.cmp x.b y.b
def L.same(x y:L):Bool:=x.p==y.p&&(T.cmp x.a y.a==0)&&(T.cmp x.b y.b==0)
theorem L.cmp_zero(x y:L):(L.cmp x y==0)=L.same x y:=by
 obtain⟨p,a,b⟩:=x;obtain⟨q,a',b'⟩:=y;unfold L.cmp L.same;cases p<;>cases q<;>by_cases c:T.cmp a a'=0<;>simp[c]
end Go.Proofs.YtbcbkiaineacpaaGreat.VS
namespace Go.Proofs.YtbcbkiaineacpaaGreat.VS
variable {P:Program}
structure LL where
 p:Bool
 a:TT
 b:TT
def LL.cells(x:LL):List DV:= .bool x.p::(x.a.cells++x.b.cells)
def LL.enc(x:LL):DV:= .agg x.cells
def LL.ok(x:LL):Prop:=x.a.ok/\x.b.ok
def LL.erase(x:LL):L:=⟨x.p,x.a.erase,x.b.erase⟩
theorem LL.qf6(x:LL)(h:x.ok):x.erase.ok:=⟨TT.qf6 _ h.1,TT.qf6 _ h.2⟩
theorem LL.qfq(x:LL):x.enc.clr=x.erase.enc .sub:=by
 have ha:=TT.qdM x.a;have hb:=TT.qdM x.b;rw[DV.qaw]at ha hb;simp only[LL.enc,LL.cells,DV.clr,DV.qaw,List.map_cons,List.map_append,ha,hb,LL.erase,L.enc];rfl
structure BB where
 v:Int
 t:TT
def BB.cells(x:BB):List DV:= .int .i64 x.v::x.t.cells
def BB.enc(x:BB):DV:= .agg x.cells
def BB.ok(x:BB):Prop:=(-9223372036854775808<=x.v/\x.v<=9223372036854775807)/\x.t.ok
def BB.erase(x:BB):Bd:=⟨x.v,x.t.erase⟩
theorem BB.qfq(x:BB):x.enc.clr=x.erase.enc .sub:=by
 have ha:=TT.qdM x.t;rw[DV.qaw]at ha;simp only[BB.enc,BB.cells,DV.clr,DV.qaw,List.map_cons,ha,BB.erase,Bd.enc]
theorem BB.qmH{l:List BB}(h:∀s,s∈l->BB.ok s):∀s,s∈l.map BB.erase->Bd.ok s:=by
 intro s hs;obtain⟨t,ht,rfl⟩:=List.mem_map.1 hs;exact⟨(h t ht).1,TT.qf6 _ (h t ht).2⟩
end Go.Proofs.YtbcbkiaineacpaaGreat.VS
