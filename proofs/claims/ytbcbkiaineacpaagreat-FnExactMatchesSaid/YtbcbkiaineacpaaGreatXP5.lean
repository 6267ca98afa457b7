/- Contracts of the program's functions on the evaluator without names, and plain lemmas: part 5. -/
import Derived.Test.YtbcbkiaineacpaaGreatXP4
set_option linter.unusedSimpArgs false
set_option linter.unusedVariables false
namespace Go.Proofs.YtbcbkiaineacpaaGreat.VS
theorem qxt{s:List SymL}{f:Int}(h:qaM s f=true):qdD s f=true:=by
 unfold qaM at h;simp only[Bool.and_eq_true]at h;exact h.1
def qbB(s:List SymL):List Gl->List Bd->List (List Gl×List Bd)
 | [],_=>[]
 |⟨true,f,ps,ts⟩::rest,u=>(match ps with
  | []=>if ts.length=0 then [(rest,u)]else []
  |p::ps=>if p.f= -1 then(match qbP u p.v with
   |some j=>(match takeN ts (partsOf f (bAt u j).t)with
    | .inl r=>[(qbk f ps r::rest,u)]
    | .inr _=>[])
   |none=>(List.range (2^ts.length-1)).map fun m=>(qbk f ps (qeQ ts (m+1) ts.length)::rest,qgp u p.v (qcV s f (onB ts (m+1) ts.length))))
   else(List.range ts.length).map fun i=>(qbY p (tAt ts i)::qbk f ps (qbr ts i)::rest,u))
 |⟨false,f,ps,ts⟩::rest,u=>(if(tAt ps 0).f= -1 then(match qbP u (tAt ps 0).v with
  |none=>[(rest,qgp u (tAt ps 0).v (tAt ts 0))]
  |some j=>if T.cmp (bAt u j).t (tAt ts 0)==0 then [(rest,u)]else [])
  else if(tAt ps 0).f≠(tAt ts 0).f then []
  else if qaM s (tAt ps 0).f=true then [(qbk (tAt ps 0).f (tAt ps 0).kids (tAt ts 0).kids::rest,u)]
  else if(tAt ps 0).kids.length≠(tAt ts 0).kids.length then []
  else [(qbo (tAt ps 0).kids (tAt ts 0).kids (tAt ps 0).kids.length++rest,u)])
theorem qba(s:List SymL)(f:Int)(p t:T)(rest:List Gl)(u:List Bd):qbB s (⟨false,f,[p],[t]⟩::rest) u=
 (if p.f= -1 then(match qbP u p.v with
  |none=>[(rest,qgp u p.v t)]
  |some j=>if T.cmp (bAt u j).t t==0 then [(rest,u)]else [])
 else if p.f≠t.f then []
 else if qaM s p.f=true then [(qbk p.f p.kids t.kids::rest,u)]
 else if p.kids.length≠t.kids.length then []
 else [(qbo p.kids t.kids p.kids.length++rest,u)]):=rfl
theorem qlG(s:List SymL)(n:Nat)(u:List Bd):evs s (n+1) [] u=[none,some u]:=rfl
theorem qhX(s:List SymL)(n:Nat)(g:Gl)(rest:List Gl)(u:List Bd):evs s (n+1) (g::rest) u=none::(qbB s (g::rest) u).flatMap fun c=>evs s n c.1 c.2:=by
 obtain⟨m,f,ps,ts⟩:=g;cases m with
 |true=>
  cases ps with
  |nil=>
   by_cases c:ts.length=0
   ·simp[evs,qbB,c]
   ·simp[evs,qbB,c]
  |cons p ps=>
   simp only[evs,qbB]
   by_cases c:p.f= -1
   ·rw[if_pos c,if_pos c]
    cases qbP u p.v with
    |none=>simp only[List.flatMap_map]
    |some j=>
     simp only;cases takeN ts (partsOf f (bAt u j).t)<;>simp
   ·rw[if_neg c,if_neg c]
    simp only[List.flatMap_map]
 |false=>
  simp only[evs,qbB]
  by_cases c:(tAt ps 0).f= -1
  ·rw[if_pos c,if_pos c]
   cases qbP u (tAt ps 0).v with
   |none=>simp
   |some j=>
    simp only;split<;>simp
  ·rw[if_neg c,if_neg c]
   split
   ·simp
   ·split
    ·simp
    ·split
     ·simp
     ·simp[qbo]
def Gl.good(s:List SymL)(g:Gl):Prop:=
 qaQ g.ts<=1000/\(∀x,x∈g.ts->qdC x=false/\T.form s x=true)/\(∀x,x∈g.ps->T.form s x=true)/\(g.many=true->g.ts.length<=12/\qaM s g.f=true/\(∀x,x∈g.ts->x.f≠g.f)/\∀x,x∈g.ps->x.f≠g.f)/\(g.many=false->∃p t,g.ps=[p]/\g.ts=[t])
structure Inv(s:List SymL)(gl:List Gl)(u:List Bd):Prop where
 g:∀g,g∈gl->g.good s
 b:∀b,b∈u->b.t.inner<=1000/\b.t.nf s
 m:u.length+qdw gl<=1000000
theorem qaT(g:Gl)(l:List Gl):qdw (g::l)=glW g+qdw l:=rfl
theorem qfs(a b:List Gl):qdw (a++b)=qdw a+qdw b:=by unfold qdw;rw[List.map_append,List.sum_append]
theorem qel(f:Int)(ps ts:List T):glW (qbk f ps ts)=1+3*qaQ ps:=rfl
theorem qhN(p t:T):glW (qbY p t)=3*p.inner+2:=rfl
theorem qiI:∀l:List Gl,l.length<=qdw l
 | []=>Nat.le_refl _
 |g::l=>by
  have h:=qiI l;rw[qaT];have:1<=glW g:=by unfold glW;split<;>omega
  simp only[List.length_cons];omega
theorem Inv.small{s:List SymL}{gl:List Gl}{u:List Bd}(h:Inv s gl u):small u:=
 ⟨by have:=h.m;omega,fun i hi=>by have:=(h.b _ (qFV hi)).1;omega⟩
theorem qEJ{s:List SymL}{f v:Int}{ks:List T}(h:T.form s (.node f v ks)=true)(hf:f≠-1):qcq s f v ks.length=false/\∀k,k∈ks->T.form s k=true:=by
 cases hb:qcq s f v ks.length with
 |true=>simp[T.form,hf,hb]at h
 |false=>
  refine⟨rfl,fun k hk=> ?_⟩;rw[qq5 s f v ks hf hb]at h;obtain⟨i,hi,rfl⟩:=List.getElem_of_mem hk;rw[qap hi];cases hq:T.form s (tAt ks i)with
  |true=>rfl
  |false=>
   have:=(qhU (fun i=> !T.form s (tAt ks i)||qc9 s f ks i) ks.length 0).2 ⟨i,Nat.zero_le _,by omega,by simp[hq]⟩;rw[Option.isNone_iff_eq_none]at h;rw[h]at this;cases this
theorem qIK{s:List SymL}{f v w:Int}{n m:Nat}(h1:qcq s f v n=false)(h2:qcq s f w m=false)(hb:qaM s f=false):n=m:=by
 unfold qcq at h1 h2;unfold qaM at hb
 by_cases hs:qdD s f=true
 ·rw[hs,Bool.true_and]at hb
  rw[if_pos hs]at h1 h2
  by_cases hv:v=0
  ·by_cases hw:w=0
   ·simp[hb,hv]at h1
    simp[hb,hw]at h2;omega
   ·simp[hw]at h2
  ·simp[hv]at h1
 ·simp[hs]at h1
theorem qBf{f v:Int}{ks:List T}(h:qdC (.node f v ks)=false):ks.length<=12/\∀k,k∈ks->qdC k=false:=by
 simp only[qdC,Bool.or_eq_false_iff,decide_eq_false_iff_not,qin,List.any_eq_false]at h;exact⟨by omega,fun k hk=>by simpa using h.2 k hk⟩
theorem qgs{s:List SymL}{p:T}(h:T.form s p=true)(hf:p.f≠-1):qcq s p.f p.v p.kids.length=false/\∀k,k∈p.kids->T.form s k=true:=by
 obtain⟨f,v,ks⟩:=p;exact qEJ h hf
theorem qx6{t:T}(h:qdC t=false):t.kids.length<=12/\∀k,k∈t.kids->qdC k=false:=by
 obtain⟨f,v,ks⟩:=t;exact qBf h
theorem qwX{s:List SymL}{t:T}(h:t.nf s)(hb:qaM s t.f=true):(∀k,k∈t.kids->k.f≠t.f)/\Srt t.kids:=by
 obtain⟨f,v,ks⟩:=t;simp only[T.nf]at h;exact h.2 hb
theorem qIx(s:List SymL)(f:Int)(ks:List T)(hb:qaM s f=true):(qcV s f ks).nf s:=by
 unfold qcV;split
 ·simp only[T.nf,T.nfs,true_and]
  exact fun _=>⟨fun k hk=>by(cases hk),List.Pairwise.nil⟩
 ·split
  ·exact qts s _
  ·rw[if_pos (qxt hb)];exact qts s _
theorem qgv{a b:List T}(h:a.Sublist b):qaQ a<=qaQ b:=by
 induction h with
 |slnil=>exact Nat.le_refl _
 |cons x _ ih=>rw[qaH];omega
 |cons_cons x _ ih=>rw[qaH,qaH];omega
theorem qnl(l:List T)(j:Nat):(qbr l j).Sublist l:=by
 unfold qbr;rw[<-List.eraseIdx_eq_take_drop_succ];exact List.eraseIdx_sublist l j
theorem qpD:∀(xs l r:List T),takeN l xs= .inl r->r.Sublist l
 | [],l,r,h=>by simp only[takeN,Sum.inl.injEq]at h;subst h;exact List.Sublist.refl _
 |x::xs,l,r,h=>by
  unfold takeN at h;cases hf:qaw (qcW l x) l.length 0 with
  |none=>rw[hf]at h;cases h
  |some j=>rw[hf]at h;exact(qpD xs _ r h).trans (qnl l j)
theorem qio(l:List T)(i:Nat)(h:i<l.length):l.take (i+1)=l.take i++[tAt l i]:=by
 rw[List.take_add_one,qsq h];rfl
theorem qtq(l:List T)(m:Nat):∀i,i<=l.length->(onB l m i).Sublist (l.take i)
 |0,_=>List.nil_sublist _
 |i+1,h=>by
  rw[qio l i h];unfold onB;split
  ·exact(qtq l m i (by omega)).append (List.Sublist.refl _)
  ·exact(qtq l m i (by omega)).trans (List.sublist_append_left _ _)
theorem qoC(l:List T)(m:Nat):∀i,i<=l.length->(qeQ l m i).Sublist (l.take i)
 |0,_=>List.nil_sublist _
 |i+1,h=>by
  rw[qio l i h];unfold qeQ;split
  ·exact(qoC l m i (by omega)).trans (List.sublist_append_left _ _)
  ·exact(qoC l m i (by omega)).append (List.Sublist.refl _)
theorem qox(l:List T)(m:Nat):(onB l m l.length).Sublist l:=by have:=qtq l m l.length (Nat.le_refl _);rwa[List.take_length]at this
theorem qDW(l:List T)(m:Nat):(qeQ l m l.length).Sublist l:=by have:=qoC l m l.length (Nat.le_refl _);rwa[List.take_length]at this
theorem qIN{s:List SymL}{f:Int}{p:T}{ps ts r:List T}(h:(Gl.mk true f (p::ps) ts).good s)(hr:r.Sublist ts):(qbk f ps r).good s:=
 ⟨Nat.le_trans (qgv hr) h.1,fun x hx=>h.2.1 x (hr.subset hx),fun x hx=>h.2.2.1 x (List.mem_cons_of_mem _ hx),fun _=>⟨Nat.le_trans hr.length_le (h.2.2.2.1 rfl).1,(h.2.2.2.1 rfl).2.1,fun x hx=>(h.2.2.2.1 rfl).2.2.1 x (hr.subset hx),fun x hx=>(h.2.2.2.1 rfl).2.2.2 x (List.mem_cons_of_mem _ hx)⟩,fun e=>by(cases e)⟩
theorem qwP(u:List Bd)(v:Int)(t:T):(qgp u v t).length=u.length+1:=by
 unfold qgp;have:qlV u v<=u.length:=List.findIdx_le_length;simp;omega
theorem qwO{u:List Bd}{v:Int}{t:T}{b:Bd}(h:b∈qgp u v t):b=⟨v,t⟩\/b∈u:=by
 unfold qgp at h;rcases List.mem_append.1 h with h|h
 ·exact .inr (List.mem_of_mem_take h)
 ·rcases List.mem_cons.1 h with h|h
  ·exact .inl h
  ·exact .inr (List.mem_of_mem_drop h)
theorem qwT(ps ts:List T):∀n,n<=ps.length->qdw (qbo ps ts n)+n=3*qaQ (ps.take n)
 |0,_=>by simp[qbo,qdw,qaQ,T.inners]
 |n+1,h=>by
  rw[qll,qfs,qio ps n h,qg0,qaT,qhN];have:=qwT ps ts n (by omega);have e:qaQ [tAt ps n]=(tAt ps n).inner+1:=by rw[qaH];simp[qaQ,T.inners]
  have e2:qdw []=0:=rfl;omega
theorem qds{s:List SymL}{gl:List Gl}{u:List Bd}(h:Inv s gl u)(c:List Gl×List Bd)(hc:c∈qbB s gl u):Inv s c.1 c.2/\qdw c.1<qdw gl:=by
 match gl,h,hc with
 | [],h,hc=>simp[qbB]at hc
 |⟨true,f,ps,ts⟩::rest,h,hc=>
  have hm:=h.m;have hg:=h.g _ (List.mem_cons_self ..);have hr:∀g,g∈rest->g.good s:=fun g hg=>h.g g (List.mem_cons_of_mem _ hg)
  rw[qaT]at hm⊢
  cases ps with
  |nil=>
   have e:glW ⟨true,f,[],ts⟩=1:=rfl;simp only[qbB]at hc;split at hc
   ·rw[List.mem_singleton]at hc;subst hc
    exact⟨⟨hr,h.b,by simp only;omega⟩,by simp only;omega⟩
   ·cases hc
  |cons p ps=>
   have e:glW ⟨true,f,p::ps,ts⟩=1+3*(p.inner+1+qaQ ps):=by rw[<-qaH];rfl
   simp only[qbB]at hc;have hmany:∀r:List T,r.Sublist ts->∀g,g∈qbk f ps r::rest->g.good s:=fun r hrs g hg'=>by
    rcases List.mem_cons.1 hg' with rfl|hg'
    ·exact qIN hg hrs
    ·exact hr g hg'
   split at hc
   ·split at hc
    ·rename_i j hj
     split at hc
     ·rename_i r hrr
      rw[List.mem_singleton]at hc;subst hc
      simp only[qaT,qel];exact⟨⟨hmany r (qpD _ _ _ hrr),h.b,by simp only[qaT,qel];omega⟩,by omega⟩
     ·cases hc
    ·obtain⟨m,_,rfl⟩:=List.mem_map.1 hc
     simp only[qaT,qel];refine⟨⟨hmany _ (qDW ts (m+1)),fun b hb=> ?_,?_⟩,by omega⟩
     ·rcases qwO hb with rfl|hb
      ·have h1:=qlr s f (onB ts (m+1) ts.length)
       have h2:=qgv (qox ts (m+1));have h3:=hg.1;simp only at h3⊢
       exact⟨by omega,qIx s f _ (hg.2.2.2.1 rfl).2.1⟩
      ·exact h.b b hb
     ·simp only[qaT,qel,qwP];omega
   ·obtain⟨i,hi,rfl⟩:=List.mem_map.1 hc
    have hi:=List.mem_range.1 hi;simp only[qaT,qel,qhN];refine⟨⟨fun g hg'=> ?_,h.b,?_⟩,by omega⟩
    ·rcases List.mem_cons.1 hg' with rfl|hg'
     ·have h1:=qbC (qav hi)
      have h2:=hg.1;have h3:(tAt ts i).inner+1<=qaQ ts:=by
       have:=qgv (List.singleton_sublist.2 (qav hi));rw[qaH]at this;omega
      refine⟨?_,fun x hx=> ?_,fun x hx=> ?_,fun e=>by(cases e),fun _=>⟨_,_,rfl,rfl⟩⟩
      ·simp only[qbY,qaH]
       have:qaQ []=0:=rfl;simp only at h2;omega
      ·simp only[qbY,List.mem_singleton]at hx;subst hx;exact hg.2.1 _ (qav hi)
      ·simp only[qbY,List.mem_singleton]at hx;subst hx;exact hg.2.2.1 _ (List.mem_cons_self ..)
     ·exact hmany _ (qnl ts i) g hg'
    ·simp only[qaT,qel,qhN];omega
 |⟨false,f,ps,ts⟩::rest,h,hc=>
  have hm:=h.m;have hg:=h.g _ (List.mem_cons_self ..);have hr:∀g,g∈rest->g.good s:=fun g hg=>h.g g (List.mem_cons_of_mem _ hg)
  rw[qaT]at hm⊢
  obtain⟨p,t,hp,ht⟩:=hg.2.2.2.2 rfl;simp only at hp ht;subst hp ht;have e:glW ⟨false,f,[p],[t]⟩=3*p.inner+2:=rfl;have hti:t.inner<=1000:=by have:=hg.1;simp only[qaH]at this;omega
  rw[qba]at hc
  by_cases hv:p.f= -1
  ·rw[if_pos hv]at hc
   split at hc
   ·rw[List.mem_singleton]at hc;subst hc
    refine⟨⟨hr,fun b hb=> ?_,?_⟩,by simp only;omega⟩
    ·rcases qwO hb with rfl|hb
     ·exact⟨hti,qoW s _ (hg.2.1 _ (List.mem_singleton.2 rfl)).2⟩
     ·exact h.b b hb
    ·simp only[qwP];omega
   ·split at hc
    ·rw[List.mem_singleton]at hc;subst hc
     exact⟨⟨hr,h.b,by simp only;omega⟩,by simp only;omega⟩
    ·cases hc
  ·rw[if_neg hv]at hc
   by_cases hff:p.f=t.f
   case neg=>rw[if_pos hff]at hc;cases hc
   case pos=>
    rw[if_neg (fun h=>h hff)]at hc;have hpf:=qgs (hg.2.2.1 _ (List.mem_singleton.2 rfl)) hv;have htf:=qgs (hg.2.1 _ (List.mem_singleton.2 rfl)).2 (by rw[<-hff];exact hv);have htw:=qx6 (hg.2.1 _ (List.mem_singleton.2 rfl)).1;have hpn:=qoW s _ (hg.2.2.1 _ (List.mem_singleton.2 rfl));have htn:=qoW s _ (hg.2.1 _ (List.mem_singleton.2 rfl)).2;have hpi:p.inner=qaQ p.kids:=T.qgB p;have hti2:t.inner=qaQ t.kids:=T.qgB t
    by_cases hbl:qaM s p.f=true
    ·rw[if_pos hbl,List.mem_singleton]at hc;subst hc
     simp only[qaT,qel];refine⟨⟨fun g hg'=> ?_,h.b,?_⟩,by omega⟩
     ·rcases List.mem_cons.1 hg' with rfl|hg'
      ·refine⟨by simp only[qbk];omega,fun x hx=>⟨htw.2 x hx,htf.2 x hx⟩,hpf.2,fun _=>⟨htw.1,hbl,?_,?_⟩,fun e=>by(cases e)⟩
       ·rw[hff]at hbl⊢
        exact(qwX htn hbl).1
       ·exact(qwX hpn hbl).1
      ·exact hr g hg'
     ·simp only[qaT,qel];omega
    ·rw[if_neg hbl]at hc
     by_cases hlen:p.kids.length=t.kids.length
     case neg=>rw[if_pos hlen]at hc;cases hc
     case pos=>
      rw[if_neg (fun h=>h hlen),List.mem_singleton]at hc;subst hc
      have hw:=qwT p.kids t.kids p.kids.length (Nat.le_refl _);rw[List.take_length]at hw;simp only[qfs];refine⟨⟨fun g hg'=> ?_,h.b,?_⟩,by omega⟩
      ·rcases List.mem_append.1 hg' with hg'|hg'
       ·unfold qbo at hg'
        obtain⟨i,hi,rfl⟩:=List.mem_map.1 hg';have hi:=List.mem_range.1 hi;have hit:i<t.kids.length:=by omega
        refine⟨?_,fun x hx=> ?_,fun x hx=> ?_,fun e=>by(cases e),fun _=>⟨_,_,rfl,rfl⟩⟩
        ·have h1:=qgv (List.singleton_sublist.2 (qav hit))
         simp only[qbY];omega
        ·simp only[qbY,List.mem_singleton]at hx;subst hx
         exact⟨htw.2 _ (qav hit),htf.2 _ (qav hit)⟩
        ·simp only[qbY,List.mem_singleton]at hx;subst hx
         exact hpf.2 _ (qav hi)
       ·exact hr g hg'
      ·simp only[qfs];omega
theorem qt0{s:List SymL}{P:List Gl->List Bd->Prop}(hP:∀gl u c,P gl u->c∈qbB s gl u->P c.1 c.2):∀(n:Nat) (gl:List Gl) (u w:List Bd),P gl u->some w∈evs s n gl u->P [] w
 |0,gl,u,w,_,h=>by simp[evs]at h
 |n+1,[],u,w,hp,h=>by
  rw[qlG]at h;simp at h;subst h;exact hp
 |n+1,g::rest,u,w,hp,h=>by
  rw[qhX]at h;simp only[List.mem_cons,List.mem_flatMap,reduceCtorEq,false_or]at h;obtain⟨c,hc,hw⟩:=h;exact qt0 hP n c.1 c.2 w (hP _ _ c hp hc) hw
theorem qlF{s:List SymL}(n:Nat){gl:List Gl}{u w:List Bd}(h:Inv s gl u)(hw:some w∈evs s n gl u):small w:=
 (qt0 (P:=Inv s) (fun gl u c hp hc=>(qds hp c hc).1) n gl u w h hw).small
structure MS.good(S:MS):Prop where
 o:S.over=decide (20000<S.steps)
 n:S.steps<=20001
 l:S.ways.length<=61
 w:∀w,w∈S.ways->small w
theorem MS.good.ev{S:MS}(h:S.good)(e:Option (List Bd))(he:∀w,e=some w->small w):(S.ev e).good:=by
 have hl:=S.qMa e h.l;unfold MS.ev at hl⊢
 split
 ·exact h
 ·rename_i hd
  rw[if_neg hd]at hl;cases e with
  |none=>
   refine⟨rfl,?_,h.l,h.w⟩;have h1:=h.o;unfold MS.done at hd;simp only[Bool.or_eq_true,decide_eq_true_eq,not_or]at hd;have h3:¬20000<S.steps:=fun h4=>hd.1 (by rw[h1];simpa using h4)
   simp only;omega
  |some u=>
   simp only at hl⊢
   split
   ·exact h
   ·rename_i hh
    rw[if_neg hh]at hl;refine⟨h.o,h.n,hl,fun w hw=> ?_⟩;simp only[List.mem_append,List.mem_singleton]at hw;rcases hw with hw|hw
    ·exact h.w w hw
    ·exact he w (by rw[hw])
theorem MS.good.run:∀(es:List (Option (List Bd))) {S:MS},S.good->(∀w,some w∈es->small w)->(S.run es).good
 | [],S,h,_=>h
 |e::es,S,h,he=>MS.good.run es (S:=S.ev e) (h.ev e fun w hw=>he w (by rw[hw];exact List.mem_cons_self ..)) fun w hw=>he w (List.mem_cons_of_mem _ hw)
theorem qb1(pre r e:qal)(x:Option (List AV)):(pre++x::r)++e=pre++x::(r++e):=by simp
theorem qtU(pre r:qal)(x:Option (List AV)):(pre++x::r)[pre.length]?=some x:=by simp
theorem qb6{α:Type}(F:Nat->List α)(n:Nat):(List.range (n+1)).flatMap F=(List.range n).flatMap F++F n:=by
 rw[List.range_succ,List.flatMap_append];simp
theorem qxi(s:List SymL)(hs:s.length<=1099511627776):∀(n:Nat) (gl:List Gl) (u:List Bd) (S:MS) (pre r:qal),Inv s gl u->qdw gl<n->S.good->
 qac XV 318 [.ptr pre.length 0,.d (qaU .sub gl),.d (binds .sub u)] (pre++some (mB s S)::r)=some (.d (.tup []),pre++some (mB s (S.run (evs s n gl u)))::r)
 |0,gl,u,S,pre,r,hi,hn,hS=>absurd hn (Nat.not_lt_zero _)
 |n+1,gl,u,S,pre,r,hi,hn,hS=>by
  by_cases hd:S.done=true
  ·rw[S.qfB hd];exact qER s S gl u pre r hd
  have hd:S.done=false:=by simpa using hd
  by_cases ho:20000<S.steps+1
  ·have h:=qEP s S gl u pre r hd ho hS.n
   have hsd:S.step.done=true:=by unfold MS.step MS.done;simp[ho]
   have he:∃es,evs s (n+1) gl u=none::es:=by
    cases gl with
    |nil=>exact⟨_,qlG ..⟩
    |cons g rest=>exact⟨_,qhX ..⟩
   obtain⟨es,he⟩:=he;rw[he,MS.qeq,MS.qgi S hd,S.step.qfB hsd];exact h
  have ho:S.steps+1<=20000:=by omega
  have hsm:=hi.small;have hdd:=hd;unfold MS.done at hdd;simp only[Bool.or_eq_false_iff,decide_eq_false_iff_not]at hdd;have hSd:S.step.done=false:=by
   unfold MS.step MS.done;simp only[Bool.or_eq_false_iff,decide_eq_false_iff_not];exact⟨by omega,hdd.2⟩
  have hSg:S.step.good:=by rw[<-MS.qgi S hd];exact hS.ev none fun _ h=>by cases h
  match gl,hi,hn with
  | [],hi,hn=>
   rw[qlG,MS.qeq,MS.qgi S hd,MS.qeq,MS.quw _ hSd];exact qIV s S u pre r hd ho hS.w hsm
  |g::rest,hi,hn=>
   have IH:∀(c:List Gl×List Bd),c∈qbB s (g::rest) u->∀(S':MS) (r':qal),S'.good->∀e,qac XV 318 [.ptr pre.length 0,.d (qaU .sub c.1),.d (binds .sub c.2)] ((pre++some (mB s S')::r')++e)=some (.d (.tup []),(pre++some (mB s (S'.run (evs s n c.1 c.2)))::r')++e):=fun c hc S' r' hS' e=>by
    rw[qb1,qb1];exact qxi s hs n c.1 c.2 S' pre (r'++e) (qds hi c hc).1 (by have:=(qds hi c hc).2;omega) hS'
   have IG:∀(c:List Gl×List Bd),c∈qbB s (g::rest) u->∀(S':MS),S'.good->(S'.run (evs s n c.1 c.2)).good:=fun c hc S' hS'=>
    MS.good.run _ hS' fun w hw=>qlF n (qds hi c hc).1 hw
   have hgl:=hi.g _ (List.mem_cons_self ..);have hm:=hi.m;rw[qaT]at hm;have hrl:=qiI rest;have hlen:∀(S':MS) (r':qal),(pre++some (mB s S')::r').length=pre.length+r'.length+1:=fun S' r'=>by simp;omega
   rw[qhX,MS.qeq,MS.qgi S hd];obtain⟨mn,f,ps,ts⟩:=g;cases mn with
   |true=>
    have htl:=(hgl.2.2.2.1 rfl).1;have hcn:=hgl.1;simp only at htl hcn;refine qEQ s S _ f ps ts rest u pre r hd ho fun r'=> ?_
    have hk:pre.length<(pre++some (mB s S.step)::r').length:=by rw[hlen];omega
    cases ps with
    |nil=>
     refine qEh f ts rest u _ _ _ hk (by simp only[hlen]) (fun c=> ?_) (fun c=> ?_)
     ·have:=IH (rest,u) (by simp[qbB,c]) S.step r' hSg
      simpa[qbB,c]using this
     ·simp[qbB,c,MS.run]
    |cons p ps=>
     have hpl:ps.length<=1000000000:=by
      have e:glW ⟨true,f,p::ps,ts⟩=1+3*(p.inner+1+qaQ ps):=by rw[<-qaH];rfl
      have:=qdj ps;omega
     by_cases c:p.f= -1
     ·cases hb:qbP u p.v with
      |some j=>
       refine qyR f ts rest u _ _ _ p ps j c hb hsm hk (by simp only[hlen]) (by omega) hpl (by omega) (fun x hx=>by have:=qbC hx;omega) (fun r0 hr0=> ?_) (fun r0 hr0=> ?_)
       ·have:=IH (qbk f ps r0::rest,u) (by simp[qbB,c,hb,hr0]) S.step r' hSg
        simpa[qbB,c,hb,hr0]using this
       ·simp[qbB,c,hb,hr0,MS.run]
      |none=>
       obtain⟨pf,pv,pk⟩:=p;simp only[T.qbg,T.qdQ]at c hb;subst c;have hnx:qbB s (⟨true,f,.node (-1) pv pk::ps,ts⟩::rest) u=(List.range (2^ts.length-1)).map fun m=>(qbk f ps (qeQ ts (m+1) ts.length)::rest,qgp u pv (qcV s f (onB ts (m+1) ts.length))):=by simp[qbB,hb]
       have hmem:∀i,i<2^ts.length-1->(qbk f ps (qeQ ts (i+1) ts.length)::rest,qgp u pv (qcV s f (onB ts (i+1) ts.length)))∈qbB s (⟨true,f,.node (-1) pv pk::ps,ts⟩::rest) u:=fun i hi=>by
        rw[hnx];exact List.mem_map.2 ⟨i,List.mem_range.2 hi,rfl⟩
       rw[hnx,List.flatMap_map];obtain⟨F,hF⟩:∃F:Nat->List (Option (List Bd)),F=fun m=>evs s n (qbk f ps (qeQ ts (m+1) ts.length)::rest) (qgp u pv (qcV s f (onB ts (m+1) ts.length))):=⟨_,rfl⟩
       have hst:∀i,S.step.run ((List.range (i+1)).flatMap F)=(S.step.run ((List.range i).flatMap F)).run (F i):=fun i=>by rw[qb6,MS.qgA]
       have hgd:∀i,i<=2^ts.length-1->(S.step.run ((List.range i).flatMap F)).good:=fun i=>by
        induction i with
        |zero=>intro _;exact hSg
        |succ i ih=>
         intro hle;rw[hst,hF];exact IG _ (hmem i (by omega)) _ (by have:=ih (by omega);rwa[hF]at this)
       have hx:=qyQ s hs f pv pk ps ts rest u pre.length (fun i=>pre++some (mB s (S.step.run ((List.range i).flatMap F)))::r') (fun i=>(S.step.run ((List.range i).flatMap F)).done) (pre.length+r'.length+1)
        (fun i=>hlen _ _) (by omega) (by omega) hpl htl hsm.1 (fun i e=>by simp only[qb1];exact qgY s _ pre (r'++e)) (fun i=>(mB s (S.step.run ((List.range i).flatMap F))).tail) (fun i=>by simp only[qtU];rfl)
        (fun m=>Nat.le_trans (qgv (qox ts m)) (by omega)) hb (fun i h=>by show(S.step.run ((List.range (i+1)).flatMap F)).done=true;rw[hst,MS.qfB _ h];exact h) (fun i h=>by show pre++some (mB s (S.step.run ((List.range (i+1)).flatMap F)))::r'=pre++some (mB s (S.step.run ((List.range i).flatMap F)))::r';rw[hst,MS.qfB _ h])
        (fun i h1 _ e=>by
         have:=IH _ (hmem i (by omega)) (S.step.run ((List.range i).flatMap F)) r' (hgd i (by omega)) e;simp only[hst];rw[hF]at this⊢
         exact this)
       rw[hF]at hx;exact hx
     ·have hnx:qbB s (⟨true,f,p::ps,ts⟩::rest) u=(List.range ts.length).map fun i=>(qbY p (tAt ts i)::qbk f ps (qbr ts i)::rest,u):=by simp[qbB,c]
      have hmem:∀i,i<ts.length->(qbY p (tAt ts i)::qbk f ps (qbr ts i)::rest,u)∈qbB s (⟨true,f,p::ps,ts⟩::rest) u:=fun i hi=>by
       rw[hnx];exact List.mem_map.2 ⟨i,List.mem_range.2 hi,rfl⟩
      rw[hnx,List.flatMap_map];obtain⟨F,hF⟩:∃F:Nat->List (Option (List Bd)),F=fun i=>evs s n (qbY p (tAt ts i)::qbk f ps (qbr ts i)::rest) u:=⟨_,rfl⟩
      have hst:∀i,S.step.run ((List.range (i+1)).flatMap F)=(S.step.run ((List.range i).flatMap F)).run (F i):=fun i=>by rw[qb6,MS.qgA]
      have hgd:∀i,i<=ts.length->(S.step.run ((List.range i).flatMap F)).good:=fun i=>by
       induction i with
       |zero=>intro _;exact hSg
       |succ i ih=>
        intro hle;rw[hst,hF];exact IG _ (hmem i (by omega)) _ (by have:=ih (by omega);rwa[hF]at this)
      have hx:=qyP f p ps ts rest u pre.length (fun i=>pre++some (mB s (S.step.run ((List.range i).flatMap F)))::r') (pre.length+r'.length+1)
       (fun i=>hlen _ _) c (by omega) (by omega) hpl (by omega)
       (fun i h1 e=>by
        have:=IH _ (hmem i h1) (S.step.run ((List.range i).flatMap F)) r' (hgd i (by omega)) e;simp only[hst];rw[hF]at this⊢
        exact this)
      rw[hF]at hx;exact hx
   |false=>
    obtain⟨p,t,hp,ht⟩:=hgl.2.2.2.2 rfl;simp only at hp ht;subst hp ht;have hti:t.inner<=1000:=by have:=hgl.1;simp only[qaH]at this;omega
    have hpi:p.inner<=1000000:=by
     have e:glW ⟨false,f,[p],[t]⟩=3*p.inner+2:=rfl;omega
    refine qEO s S _ f p t rest u pre r hd ho fun r'=> ?_
    have hk:pre.length<(pre++some (mB s S.step)::r').length:=by rw[hlen];omega
    have hbx:(pre++some (mB s S.step)::r')[pre.length]?=some (some (.d (sg s)::(mB s S.step).tail)):=by rw[qtU];rfl
    by_cases c:p.f= -1
    ·cases hb:qbP u p.v with
     |none=>
      refine qDT s p t rest u _ _ _ hs c hb (hsm.1) hk (by simp only[hlen]) ?_;have:=IH (rest,qgp u p.v t) (by simp[qba,c,hb]) S.step r' hSg;simpa[qba,c,hb]using this
     |some j=>
      refine qyG p t rest u _ _ _ j c hb hsm (by omega) hk (by simp only[hlen]) (fun h0=> ?_) (fun h0=> ?_)
      ·have h1:=h0
       rw[beq_iff_eq]at h1;have:=IH (rest,u) (by simp[qba,c,hb,h1]) S.step r' hSg;simpa[qba,c,hb,h1]using this
      ·have h1:=h0
       rw[beq_eq_false_iff_ne]at h1;simp[qba,c,hb,h1,MS.run]
    ·by_cases c2:p.f=t.f
     ·cases hbl:qaM s p.f with
      |true=>
       refine qyH s p t rest u _ _ _ (mB s S.step).tail hs c c2 hbl hk (by simp only[hlen]) hbx (by omega) ?_;have:=IH (qbk p.f p.kids t.kids::rest,u) (by rw[c2]at c hbl;simp[qba,c,c2,hbl]) S.step r' hSg;rw[c2]at c hbl this⊢
       simpa[qba,c,c2,hbl]using this
      |false=>
       by_cases c3:p.kids.length=t.kids.length
       ·refine qDR s p t rest u _ _ _ (mB s S.step).tail hs c c2 hbl hk (by simp only[hlen]) hbx c3 (by omega) (by have:=T.qgB p;omega) ?_
        have:=IH (qbo p.kids t.kids p.kids.length++rest,u) (by rw[c2]at c hbl;simp[qba,c,c2,hbl,c3]) S.step r' hSg;have hn0:qbB s (⟨false,f,[p],[t]⟩::rest) u=[(qbo p.kids t.kids p.kids.length++rest,u)]:=by rw[c2]at c hbl;simp[qba,c,c2,hbl,c3]
        rw[hn0];simpa using this
       ·have hn0:qbB s (⟨false,f,[p],[t]⟩::rest) u=[]:=by rw[c2]at c hbl;simp[qba,c,c2,hbl,c3]
        rw[hn0];exact qDS s p t rest u _ _ (mB s S.step).tail hs c c2 hbl hk hbx c3
     ·have hn0:qbB s (⟨false,f,[p],[t]⟩::rest) u=[]:=by simp[qba,c,c2]
      rw[hn0];exact qyF p t rest u _ _ c c2 hk
def rB(s:List SymL)(ws:List (List Bd))(fuel:Int):List AV:=[.d (sg s),.d (qbn ws),.d (.int .i64 fuel)]
def Gl.encR(x:Gl):DV:= .agg [.int .i64 (if x.many then x.f else-1),qaa .sub x.ps,qaa .sub x.ts]
abbrev qaK(l:List Gl):DV:= .sl .sub (l.map Gl.encR)
@[simp] theorem Gl.qP3(x:Gl):x.encR.cells=[.int .i64 (if x.many then x.f else-1),qaa .sub x.ps,qaa .sub x.ts]:=rfl
@[simp] theorem Gl.qPM(x:Gl):(AV.d x.encR).cells=[.d (.int .i64 (if x.many then x.f else-1)),.d (qaa .sub x.ps),.d (qaa .sub x.ts)]:=rfl
@[simp] theorem Gl.qPK(x:Gl):x.encR.isCell=false:=rfl
@[simp] theorem Gl.qVE(x:Gl):x.encR.clr=x.encR:=by simp[Gl.encR]
@[simp] theorem qh5:DV.clr∘Gl.encR=Gl.encR:=funext fun w=>by simp
theorem qEz(s:List SymL)(ws:List (List Bd))(fuel:Int)(gl:List Gl)(u:List Bd)(pre r:qal)(h:fuel-1<0\/60<ws.length)(h1: -4611686018427387904<=fuel)(h2:fuel<=20000):
 qac XV 310 [.ptr pre.length 0,.d (qaK gl),.d (binds .sub u)] (pre++some (rB s ws fuel)::r)=some (.d (.tup []),pre++some (rB s ws (fuel-1))::r):=by
 rw[qah XV _ _ _ qj3 rfl qcL rfl];have hl:pre.length<pre.length+(r.length+1):=by omega
 have hn2:¬(pre.length+(r.length+1)<=pre.length):=by omega
 have hw:IntKind.i64.wrap (fuel-1)=fuel-1:=wrap_i64 (by omega) (by omega)
 by_cases c:fuel-1<0
 ·simp[qj3,qfM,qfL,qfK,qmF,qfJ,qfI,qfH,qfG,qdM,qdL,qdK,qdJ,qdI,qdH,qdG,qdF,qdE,rB,hl,splice,hw,c,hn2,qdo]
 ·have c2:(60:Int)<(ws.length:Int):=by omega
  simp[qj3,qfM,qfL,qfK,qmF,qfJ,qfI,qfH,qfG,qdM,qdL,qdK,qdJ,qdI,qdH,qdG,qdF,qdE,rB,hl,splice,hw,c,c2,hn2,qdo]
theorem qUs(s:List SymL)(ws:List (List Bd))(fuel:Int)(u:List Bd)(pre r:qal)(h:¬fuel-1<0)(hl0:ws.length<=60)(h2:fuel<=20000)(hw:∀w,w∈ws->small w)(hu:small u):
 qac XV 310 [.ptr pre.length 0,.d (qaK []),.d (binds .sub u)] (pre++some (rB s ws fuel)::r)=some (.d (.tup []),pre++some (rB s (if qxa ws u then ws else ws++[u]) (fuel-1))::r):=by
 rw[qah XV _ _ _ qj3 rfl qcL rfl];have hl:pre.length<pre.length+(r.length+1):=by omega
 have hn2:¬(pre.length+(r.length+1)<=pre.length):=by omega
 have hwr:IntKind.i64.wrap (fuel-1)=fuel-1:=wrap_i64 (by omega) (by omega);have hg:¬(60:Int)<(ws.length:Int):=by omega
 have hcon:=qIA ws u (by omega) hw hu;have hcp:=qEl u hu;have hap:=qxJ ws U u (by omega);cases hh:qxa ws u with
 |true=>
  rw[hh]at hcon;simp[qj3,qfM,qfL,qfK,qmF,qfJ,qfI,qfH,qfG,qdM,qdL,qdK,qdJ,qdI,qdH,qdG,qdF,qdE,rB,hl,splice,hwr,h,hg,hn2,qdo,hcon]
 |false=>
  rw[hh]at hcon;simp[qj3,qfM,qfL,qfK,qmF,qUZ,qfJ,qfI,qfH,qfG,qdM,qdL,qdK,qdJ,qdI,qdH,qdG,qdF,qdE,rB,hl,splice,hwr,h,hg,hn2,qdo,hcon,hcp,hap]
theorem qOM(s:List SymL)(ws:List (List Bd))(fuel:Int)(f:Int)(ps ts:List T)(rest:List Gl)(u:List Bd)(pre r:qal)(S':List AV)(h:¬fuel-1<0)(hl0:ws.length<=60)(h2:fuel<=20000)(hf:0<=f)(hrl:rest.length<=1000000000)
 (hrec:∀r',qac XV 311 [.ptr pre.length 0,.d ((Gl.mk true f ps ts).encR),.d (qaK rest),.d (binds .sub u)] (pre++some (rB s ws (fuel-1))::r')=some (.d (.tup []),pre++some S'::r')):
 qac XV 310 [.ptr pre.length 0,.d (qaK (⟨true,f,ps,ts⟩::rest)),.d (binds .sub u)] (pre++some (rB s ws fuel)::r)=some (.d (.tup []),pre++some S'::r):=by
 rw[qah XV _ _ _ qj3 rfl qcL rfl];have hl:pre.length<pre.length+(r.length+1):=by omega
 have hn2:¬(pre.length+(r.length+1)<=pre.length):=by omega
 have hwr:IntKind.i64.wrap (fuel-1)=fuel-1:=wrap_i64 (by omega) (by omega);have hg:¬(60:Int)<(ws.length:Int):=by omega
 have hz2:(((rest.length:Int)+1)==0)=false:=by simp;omega
 have hr:=hrec (r++[some [.d (.int .i64 f),.d (qaa .sub ps),.d (qaa .sub ts)]]);unfold rB at hr;have hE:(Gl.mk true f ps ts).encR= .agg [.int .i64 f,qaa .sub ps,qaa .sub ts]:=rfl;rw[hE]at hr;have ht:List.take rest.length (rest.map Gl.encR)=rest.map Gl.encR:=List.take_of_length_le (by simp);simp[qj3,qfM,qfL,qfK,qmF,qfJ,qfI,qfH,qfG,qdM,qdL,qdK,qdJ,qdI,qdH,qdG,qdF,qdE,rB,hl,splice,hwr,h,hg,hn2,qc0,hz2,hf,cut,ht,hr]
theorem qrV(a:List DV)(c:List Gl)(g:Tag)(h2:∀y,y∈a->y.cells.length=3)(hl:(a.length+c.length)*56<=140737488355328):qa7 3 56 (.sl U a) (.sl g (c.map Gl.encR))=some (.sl U (a++c.map Gl.encR)):=by
 have h0:(c.map Gl.encR).all (fun e=>decide (e.cells.length=3/\e.cells.all DV.isCell=true))=true:=by
  rw[List.all_eq_true];intro y hy;obtain⟨z,_,rfl⟩:=List.mem_map.1 hy;simp[DV.isCell]
 have h1:a.all (fun e=>decide (e.cells.length=3))=true:=by
  rw[List.all_eq_true];intro y hy;simpa using h2 y hy
 unfold qa7;simp only;rw[if_pos h0];cases c with
 |nil=>simp
 |cons x r=>
  simp only[List.map_cons,List.isEmpty_cons,Bool.false_eq_true,if_false];rw[if_pos ⟨by simpa using hl,trivial,h1⟩]
theorem sA0{α:Type}{B:List α}{N:Nat}(h:B.length=N)(a v:α)(r:List α):(B++a::r).set N v=B++v::r:=by subst h;simp
theorem sA1{α:Type}{B:List α}{N:Nat}(h:B.length=N)(a b v:α)(r:List α):(B++a::b::r).set (N+1) v=B++a::v::r:=by subst h;rw[List.set_append_right _ _ (by omega),show B.length+1-B.length=1 by omega];rfl
theorem sA2{α:Type}{B:List α}{N:Nat}(h:B.length=N)(a b c v:α)(r:List α):(B++a::b::c::r).set (N+2) v=B++a::b::v::r:=by subst h;rw[List.set_append_right _ _ (by omega),show B.length+2-B.length=2 by omega];rfl
section
variable (s:List SymL) (ws:List (List Bd)) (fuel:Int) (f:Int) (p t:T) (rest:List Gl) (u:List Bd) (pre r:qal) (S':List AV)
theorem qOO(h:¬fuel-1<0)(hl0:ws.length<=60)(h2:fuel<=20000)(hv:p.f= -1)(hb:qbP u p.v=none)(hu:u.length<=549755813888)(ht:t.inner<=1099511627776)(hrl:rest.length<=1000000000)
 (hrec:∀r',qac XV 310 [.ptr pre.length 0,.d (qaK rest),.d (binds .sub (qgp u p.v t))] (pre++some (rB s ws (fuel-1))::r')=some (.d (.tup []),pre++some S'::r')):
 qac XV 310 [.ptr pre.length 0,.d (qaK (⟨false,f,[p],[t]⟩::rest)),.d (binds .sub u)] (pre++some (rB s ws fuel)::r)=some (.d (.tup []),pre++some S'::r):=by
 obtain⟨pf,pv,pk⟩:=p;obtain⟨tf,tv,tk⟩:=t;simp only[T.qbg,T.qdQ]at hv hb hrec;subst hv;have hE:(Gl.mk false f [.node (-1) pv pk] [.node tf tv tk]).encR= .agg [.int .i64 (-1),.sl .sub [(T.node (-1) pv pk).enc .sub],.sl .sub [(T.node tf tv tk).enc .sub]]:=rfl;have hbd:=qeH u pv (by omega);rw[hb]at hbd;obtain⟨xs,hxs,hadd⟩:=qw6 u pv (.node tf tv tk) hu ht;rw[qah XV _ _ _ qj3 rfl qcL rfl];have hl:pre.length<pre.length+(r.length+1):=by omega
 have hn2:¬(pre.length+(r.length+1)<=pre.length):=by omega
 have hwr:IntKind.i64.wrap (fuel-1)=fuel-1:=wrap_i64 (by omega) (by omega);have hg:¬(60:Int)<(ws.length:Int):=by omega
 have hz2:(((rest.length:Int)+1)==0)=false:=by simp;omega
 have htk:List.take rest.length (rest.map Gl.encR)=rest.map Gl.encR:=List.take_of_length_le (by simp);simp[qj3,qfM,qfL,qfK,rB,hl,splice,hwr,h,hg,hn2,hz2];unfold rB at hrec;obtain⟨Q,hQ⟩:∃Q,pre++some [.d (sg s),.d (qbn ws),.d (.int .i64 (fuel-1))]::r=Q:=⟨_,rfl⟩;obtain⟨Q',hQ'⟩:∃Q',pre++some S'::r=Q':=⟨_,rfl⟩;obtain⟨N,hN⟩:∃N,pre.length+(r.length+1)=N:=⟨_,rfl⟩;obtain⟨k,hk⟩:∃k,pre.length=k:=⟨_,rfl⟩;have hq:Q.length=N:=by rw[<-hQ,<-hN];simp
 have hq':Q'.length=N:=by rw[<-hQ',<-hN];simp
 have e2:N+1+1=N+2:=rfl;have n1:¬(N+1<=N):=by omega
 have n3:¬(N+3<=N+1):=by omega
 have n4:¬(N+3<=N+2):=by omega
 have hrec:∀e,qac XV 310 [.ptr k 0,.d (qaK rest),.d (binds .sub (qgp u pv (.node tf tv tk)))] (Q++e)=some (.d (.tup []),Q'++e):=fun e=>by
  have:=hrec (r++e);rw[hk]at this;rw[<-hQ,<-hQ',qb1,qb1];exact this
 have tA0:∀(Q e:qal),Q.length=N->(Q++e).take N=Q:=fun Q e h=>by rw[<-h];simp
 rw[<-qb1,hQ,hN,hk,hQ'];rw[hN,hk]at hn2;clear hN hk hl hQ hQ';have hr:=hrec [some [.d (.int .i64 (-1)),.d (.sl .sub [(T.node (-1) pv pk).enc .sub]),.d (.sl .sub [(T.node tf tv tk).enc .sub])],some [.d (.int .i64 (-1)),.d (.int .i64 pv),.d (qaa .sub pk)],some [.d (.int .i64 tf),.d (.int .i64 tv),.d (qaa .sub tk)]];have hx2:xs.map (DV.clr∘DV.clr)=(qgp u pv (.node tf tv tk)).map (Bd.enc .sub):=by rw[<-List.map_map,hxs,Bd.qd0]
 simp only[binds]at hr;simp[qfJ,qfI,qfH,qfG,qno,qdM,qdL,qdK,qdJ,qdI,qdH,qdG,qdF,qdE,hE,hq,hq',sA0 hq,sA1 hq,sA2 hq,splice,e2,n1,n3,n4,cut,htk,tA0,hbd,hadd,hr,hx2]
theorem qIP(h:¬fuel-1<0)(hl0:ws.length<=60)(h2:fuel<=20000)(j:Nat)(hv:p.f= -1)(hb:qbP u p.v=some j)(hu:small u)(ht:t.inner<=1099511627776)(hc:(T.cmp (bAt u j).t t==0)=true)(hrl:rest.length<=1000000000)
 (hrec:∀r',qac XV 310 [.ptr pre.length 0,.d (qaK rest),.d (binds .sub u)] (pre++some (rB s ws (fuel-1))::r')=some (.d (.tup []),pre++some S'::r')):
 qac XV 310 [.ptr pre.length 0,.d (qaK (⟨false,f,[p],[t]⟩::rest)),.d (binds .sub u)] (pre++some (rB s ws fuel)::r)=some (.d (.tup []),pre++some S'::r):=by
 obtain⟨pf,pv,pk⟩:=p;obtain⟨tf,tv,tk⟩:=t;simp only[T.qbg,T.qdQ]at hv hb;subst hv;have hE:(Gl.mk false f [.node (-1) pv pk] [.node tf tv tk]).encR= .agg [.int .i64 (-1),.sl .sub [(T.node (-1) pv pk).enc .sub],.sl .sub [(T.node tf tv tk).enc .sub]]:=rfl;have hbd:=qeH u pv hu.1;rw[hb]at hbd;have hlk:=qgL u pv hu.1 hu.2;have hle:qoI u pv=(bAt u j).t:=by unfold qoI;rw[hb]
 rw[hle]at hlk;have hj:=(qcd _ _ _ _ (show qaw (fun i=>(bAt u i).v==pv) u.length 0=some j from hb)).2.1;have hsm:=qc7 (bAt u j).t (.node tf tv tk) (hu.2 j (by omega)) ht;rw[hc]at hsm;generalize (bAt u j).t=w at*
 obtain⟨wf,wv,wk⟩:=w;rw[qah XV _ _ _ qj3 rfl qcL rfl];have hl:pre.length<pre.length+(r.length+1):=by omega
 have hn2:¬(pre.length+(r.length+1)<=pre.length):=by omega
 have hwr:IntKind.i64.wrap (fuel-1)=fuel-1:=wrap_i64 (by omega) (by omega);have hg:¬(60:Int)<(ws.length:Int):=by omega
 have hz2:(((rest.length:Int)+1)==0)=false:=by simp;omega
 have htk:List.take rest.length (rest.map Gl.encR)=rest.map Gl.encR:=List.take_of_length_le (by simp);simp[qj3,qfM,qfL,qfK,rB,hl,splice,hwr,h,hg,hn2,hz2];unfold rB at hrec;obtain⟨Q,hQ⟩:∃Q,pre++some [.d (sg s),.d (qbn ws),.d (.int .i64 (fuel-1))]::r=Q:=⟨_,rfl⟩;obtain⟨Q',hQ'⟩:∃Q',pre++some S'::r=Q':=⟨_,rfl⟩;obtain⟨N,hN⟩:∃N,pre.length+(r.length+1)=N:=⟨_,rfl⟩;obtain⟨k,hk⟩:∃k,pre.length=k:=⟨_,rfl⟩;have hq:Q.length=N:=by rw[<-hQ,<-hN];simp
 have hq':Q'.length=N:=by rw[<-hQ',<-hN];simp
 have e2:N+1+1=N+2:=rfl;have n1:¬(N+1<=N):=by omega
 have n3:¬(N+3<=N+1):=by omega
 have n4:¬(N+3<=N+2):=by omega
 have hrec:∀e,qac XV 310 [.ptr k 0,.d (qaK rest),.d (binds .sub u)] (Q++e)=some (.d (.tup []),Q'++e):=fun e=>by
  have:=hrec (r++e);rw[hk]at this;rw[<-hQ,<-hQ',qb1,qb1];exact this
 have tA0:∀(Q e:qal),Q.length=N->(Q++e).take N=Q:=fun Q e h=>by rw[<-h];simp
 rw[<-qb1,hQ,hN,hk,hQ'];rw[hN,hk]at hn2;clear hN hk hl hQ hQ';have hr:=hrec [some [.d (.int .i64 (-1)),.d (.sl .sub [(T.node (-1) pv pk).enc .sub]),.d (.sl .sub [(T.node tf tv tk).enc .sub])],some [.d (.int .i64 (-1)),.d (.int .i64 pv),.d (qaa .sub pk)],some [.d (.int .i64 tf),.d (.int .i64 tv),.d (qaa .sub tk)]];simp[qfJ,qfI,qfH,qfG,qno,qdM,qdL,qdK,qFk,qdJ,qdI,qdH,qdG,qdF,qdE,hE,hq,hq',sA0 hq,sA1 hq,sA2 hq,splice,e2,n1,n3,n4,cut,htk,tA0,hbd,hlk,hsm,hr]
theorem qEy(h:¬fuel-1<0)(hl0:ws.length<=60)(h2:fuel<=20000)(j:Nat)(hv:p.f= -1)(hb:qbP u p.v=some j)(hu:small u)(ht:t.inner<=1099511627776)(hc:(T.cmp (bAt u j).t t==0)=false)(hrl:rest.length<=1000000000)
 :
 qac XV 310 [.ptr pre.length 0,.d (qaK (⟨false,f,[p],[t]⟩::rest)),.d (binds .sub u)] (pre++some (rB s ws fuel)::r)=some (.d (.tup []),pre++some (rB s ws (fuel-1))::r):=by
 obtain⟨pf,pv,pk⟩:=p;obtain⟨tf,tv,tk⟩:=t;simp only[T.qbg,T.qdQ]at hv hb;subst hv;have hE:(Gl.mk false f [.node (-1) pv pk] [.node tf tv tk]).encR= .agg [.int .i64 (-1),.sl .sub [(T.node (-1) pv pk).enc .sub],.sl .sub [(T.node tf tv tk).enc .sub]]:=rfl;have hbd:=qeH u pv hu.1;rw[hb]at hbd;have hlk:=qgL u pv hu.1 hu.2;have hle:qoI u pv=(bAt u j).t:=by unfold qoI;rw[hb]
 rw[hle]at hlk;have hj:=(qcd _ _ _ _ (show qaw (fun i=>(bAt u i).v==pv) u.length 0=some j from hb)).2.1;have hsm:=qc7 (bAt u j).t (.node tf tv tk) (hu.2 j (by omega)) ht;rw[hc]at hsm;generalize (bAt u j).t=w at*
 obtain⟨wf,wv,wk⟩:=w;rw[qah XV _ _ _ qj3 rfl qcL rfl];have hl:pre.length<pre.length+(r.length+1):=by omega
 have hn2:¬(pre.length+(r.length+1)<=pre.length):=by omega
 have hwr:IntKind.i64.wrap (fuel-1)=fuel-1:=wrap_i64 (by omega) (by omega);have hg:¬(60:Int)<(ws.length:Int):=by omega
 have hz2:(((rest.length:Int)+1)==0)=false:=by simp;omega
 have htk:List.take rest.length (rest.map Gl.encR)=rest.map Gl.encR:=List.take_of_length_le (by simp);simp[qj3,qfM,qfL,qfK,rB,hl,splice,hwr,h,hg,hn2,hz2];obtain⟨Q,hQ⟩:∃Q,pre++some [.d (sg s),.d (qbn ws),.d (.int .i64 (fuel-1))]::r=Q:=⟨_,rfl⟩;obtain⟨N,hN⟩:∃N,pre.length+(r.length+1)=N:=⟨_,rfl⟩;obtain⟨k,hk⟩:∃k,pre.length=k:=⟨_,rfl⟩;have hq:Q.length=N:=by rw[<-hQ,<-hN];simp
 have e2:N+1+1=N+2:=rfl;have n1:¬(N+1<=N):=by omega
 have n3:¬(N+3<=N+1):=by omega
 have n4:¬(N+3<=N+2):=by omega
 have tA0:∀(Q e:qal),Q.length=N->(Q++e).take N=Q:=fun Q e h=>by rw[<-h];simp
 rw[<-qb1,hQ,hN,hk];rw[hN,hk]at hn2;clear hN hk hl;simp[qfJ,qfI,qfH,qfG,qno,qdM,qdL,qdK,qFk,qdJ,qdI,qdH,qdG,qdF,qdE,hE,hq,sA0 hq,sA1 hq,sA2 hq,splice,e2,n1,n3,n4,cut,htk,tA0,hbd,hlk,hsm]
theorem qIO(h:¬fuel-1<0)(hl0:ws.length<=60)(h2:fuel<=20000)(hv:p.f≠-1)(hd:p.f≠t.f)(hrl:rest.length<=1000000000)
 :
 qac XV 310 [.ptr pre.length 0,.d (qaK (⟨false,f,[p],[t]⟩::rest)),.d (binds .sub u)] (pre++some (rB s ws fuel)::r)=some (.d (.tup []),pre++some (rB s ws (fuel-1))::r):=by
 obtain⟨pf,pv,pk⟩:=p;obtain⟨tf,tv,tk⟩:=t;simp only[T.qbg]at hv hd;have hv2:(pf== -1)=false:=by simpa using hv
 have hd2:(pf !=tf)=true:=by simpa using hd
 have hE:(Gl.mk false f [.node pf pv pk] [.node tf tv tk]).encR= .agg [.int .i64 (-1),.sl .sub [(T.node pf pv pk).enc .sub],.sl .sub [(T.node tf tv tk).enc .sub]]:=rfl;rw[qah XV _ _ _ qj3 rfl qcL rfl];have hl:pre.length<pre.length+(r.length+1):=by omega
 have hn2:¬(pre.length+(r.length+1)<=pre.length):=by omega
 have hwr:IntKind.i64.wrap (fuel-1)=fuel-1:=wrap_i64 (by omega) (by omega);have hg:¬(60:Int)<(ws.length:Int):=by omega
 have hz2:(((rest.length:Int)+1)==0)=false:=by simp;omega
 have htk:List.take rest.length (rest.map Gl.encR)=rest.map Gl.encR:=List.take_of_length_le (by simp);simp[qj3,qfM,qfL,qfK,rB,hl,splice,hwr,h,hg,hn2,hz2];obtain⟨Q,hQ⟩:∃Q,pre++some [.d (sg s),.d (qbn ws),.d (.int .i64 (fuel-1))]::r=Q:=⟨_,rfl⟩;obtain⟨N,hN⟩:∃N,pre.length+(r.length+1)=N:=⟨_,rfl⟩;obtain⟨k,hk⟩:∃k,pre.length=k:=⟨_,rfl⟩;have hq:Q.length=N:=by rw[<-hQ,<-hN];simp
 have e2:N+1+1=N+2:=rfl;have n1:¬(N+1<=N):=by omega
 have n3:¬(N+3<=N+1):=by omega
 have n4:¬(N+3<=N+2):=by omega
 have tA0:∀(Q e:qal),Q.length=N->(Q++e).take N=Q:=fun Q e h=>by rw[<-h];simp
 rw[<-qb1,hQ,hN,hk];rw[hN,hk]at hn2;clear hN hk hl;simp[qfJ,qfI,qfH,qfG,qno,qdM,qdL,qdK,qdJ,qdI,qdH,qdG,qdF,qdE,hE,hq,sA0 hq,sA1 hq,sA2 hq,splice,e2,n1,n3,n4,cut,htk,tA0,hv2,hd2]
theorem qIQ(h:¬fuel-1<0)(hl0:ws.length<=60)(h2:fuel<=20000)(hs:s.length<=1099511627776)(hv:p.f≠-1)(hd:p.f=t.f)(hbl:qaM s p.f=true)(hrl:rest.length<=1000000000)
 (hrec:∀r',qac XV 310 [.ptr pre.length 0,.d (qaK (qbk p.f p.kids t.kids::rest)),.d (binds .sub u)] (pre++some (rB s ws (fuel-1))::r')=some (.d (.tup []),pre++some S'::r')):
 qac XV 310 [.ptr pre.length 0,.d (qaK (⟨false,f,[p],[t]⟩::rest)),.d (binds .sub u)] (pre++some (rB s ws fuel)::r)=some (.d (.tup []),pre++some S'::r):=by
 obtain⟨pf,pv,pk⟩:=p;obtain⟨tf,tv,tk⟩:=t;simp only[T.qbg,T.qbd]at hv hd hbl hrec;subst hd;have hv2:(pf== -1)=false:=by simpa using hv
 have hE:(Gl.mk false f [.node pf pv pk] [.node pf tv tk]).encR= .agg [.int .i64 (-1),.sl .sub [(T.node pf pv pk).enc .sub],.sl .sub [(T.node pf tv tk).enc .sub]]:=rfl;have hsb:=qei s hs pf;rw[hbl]at hsb;rw[qah XV _ _ _ qj3 rfl qcL rfl];have hl:pre.length<pre.length+(r.length+1):=by omega
 have hn2:¬(pre.length+(r.length+1)<=pre.length):=by omega
 have hwr:IntKind.i64.wrap (fuel-1)=fuel-1:=wrap_i64 (by omega) (by omega);have hg:¬(60:Int)<(ws.length:Int):=by omega
 have hz2:(((rest.length:Int)+1)==0)=false:=by simp;omega
 have htk:List.take rest.length (rest.map Gl.encR)=rest.map Gl.encR:=List.take_of_length_le (by simp);simp[qj3,qfM,qfL,qfK,rB,hl,splice,hwr,h,hg,hn2,hz2];unfold rB at hrec;obtain⟨Q,hQ⟩:∃Q,pre++some [.d (sg s),.d (qbn ws),.d (.int .i64 (fuel-1))]::r=Q:=⟨_,rfl⟩;obtain⟨Q',hQ'⟩:∃Q',pre++some S'::r=Q':=⟨_,rfl⟩;obtain⟨N,hN⟩:∃N,pre.length+(r.length+1)=N:=⟨_,rfl⟩;obtain⟨k,hk⟩:∃k,pre.length=k:=⟨_,rfl⟩;have hq:Q.length=N:=by rw[<-hQ,<-hN];simp
 have hq':Q'.length=N:=by rw[<-hQ',<-hN];simp
 have hkN3:k<N+3:=by omega
 have e2:N+1+1=N+2:=rfl;have n1:¬(N+1<=N):=by omega
 have n3:¬(N+3<=N+1):=by omega
 have n4:¬(N+3<=N+2):=by omega
 have n5:¬(N+3<=k):=by omega
 have hrec:∀e,qac XV 310 [.ptr k 0,.d (qaK (qbk pf pk tk::rest)),.d (binds .sub u)] (Q++e)=some (.d (.tup []),Q'++e):=fun e=>by
  have:=hrec (r++e);rw[hk]at this;rw[<-hQ,<-hQ',qb1,qb1];exact this
 have tA0:∀(Q e:qal),Q.length=N->(Q++e).take N=Q:=fun Q e h=>by rw[<-h];simp
 have hx:∀(h:k<Q.length),Q[k]=some [.d (sg s),.d (qbn ws),.d (.int .i64 (fuel-1))]:=fun h=>by simp only[<-hQ,<-hk];simp
 have hx2:∀e (h:k<(Q++e).length),(Q++e)[k]=some [.d (sg s),.d (qbn ws),.d (.int .i64 (fuel-1))]:=fun e h=>by rw[List.getElem_append_left (by omega)];exact hx _
 have hx3:∀e,(Q++e)[k]?=some (some [.d (sg s),.d (qbn ws),.d (.int .i64 (fuel-1))]):=fun e=>by rw[ye_ (by omega),List.getElem?_eq_getElem (by omega),hx]
 rw[<-qb1,hQ,hN,hk,hQ'];rw[hN,hk]at hn2;clear hN hk hl hQ hQ';have hr:=hrec [some [.d (.int .i64 (-1)),.d (.sl .sub [(T.node pf pv pk).enc .sub]),.d (.sl .sub [(T.node pf tv tk).enc .sub])],some [.d (.int .i64 pf),.d (.int .i64 pv),.d (qaa .sub pk)],some [.d (.int .i64 pf),.d (.int .i64 tv),.d (qaa .sub tk)]];have hap:=qrV [(Gl.mk true pf pk tk).encR] rest .sub (by simp) (by simp;omega);have hEM:(Gl.mk true pf pk tk).encR= .agg [.int .i64 pf,qaa .sub pk,qaa .sub tk]:=rfl;simp only[qbk,hEM]at hr hap;simp only[qaK,List.map_cons,hEM]at hr;simp[qfJ,qfI,qfH,qfG,qno,qdM,qdL,qdK,qdJ,qdI,qFj,qdH,qdG,qdF,qdE,hE,hkN3,hq,hq',sA0 hq,sA1 hq,sA2 hq,splice,e2,n1,n3,n4,n5,cut,htk,tA0,hv2,hsb,hx2,hap,hr]
end
theorem qJw(xs:List DV)(x:DV)(g:Tag)(h:(xs.length+1)*56<=140737488355328)(h2:∀y,y∈xs->y.cells.length=3)(hx:x.cells.length=3)(hc:x.cells.all DV.isCell=true):qa7 3 56 (.sl U xs) (.sl g [x])=some (.sl U (xs++[x])):=by
 have h1:xs.all (fun e=>decide (e.cells.length=3))=true:=by
  rw[List.all_eq_true];intro y hy;simpa using h2 y hy
 unfold qa7;simp only;rw[if_pos (by simp[hx];simpa using hc)];simp only[List.isEmpty_cons,Bool.false_eq_true,if_false];rw[if_pos ⟨by simpa using h,trivial,h1⟩]
def qyr(p t:T):DV:= .agg [.int .i64 (-1),.sl U [p.enc .sub],.sl U [t.enc .sub]]
def qdq(ps ts:List T)(n:Nat):List DV:=(List.range n).map fun i=>qyr (tAt ps i) (tAt ts i)
theorem qsD(ps ts:List T)(n:Nat):qdq ps ts (n+1)=qdq ps ts n++[qyr (tAt ps n) (tAt ts n)]:=by
 unfold qdq;rw[List.range_succ,List.map_append];rfl
theorem qmE(ps ts:List T)(n:Nat):(qdq ps ts n).length=n:=by unfold qdq;simp
theorem qjb(ps ts:List T)(n:Nat):∀y,y∈qdq ps ts n->y.cells.length=3:=fun y hy=>by
 obtain⟨z,_,rfl⟩:=List.mem_map.1 hy;rfl
theorem qyq(ps ts:List T)(n:Nat):(qdq ps ts n).map DV.clr=(qbo ps ts n).map Gl.encR:=by
 unfold qdq qbo;rw[List.map_map,List.map_map];refine List.map_congr_left fun i _=> ?_
 simp[qyr,qbY,Gl.encR]
section
variable (s:List SymL) (ws:List (List Bd)) (fuel:Int) (f:Int) (p t:T) (rest:List Gl) (u:List Bd) (pre r:qal) (S':List AV)
theorem qON(h:¬fuel-1<0)(hl0:ws.length<=60)(h2:fuel<=20000)(hs:s.length<=1099511627776)(hv:p.f≠-1)(hd:p.f=t.f)(hbl:qaM s p.f=false)(he:p.kids.length=t.kids.length)(hpl:p.kids.length<=1000000000)(hrl:rest.length<=1000000000)
 (hrec:∀r',qac XV 310 [.ptr pre.length 0,.d (qaK (qbo p.kids t.kids p.kids.length++rest)),.d (binds .sub u)] (pre++some (rB s ws (fuel-1))::r')=some (.d (.tup []),pre++some S'::r')):
 qac XV 310 [.ptr pre.length 0,.d (qaK (⟨false,f,[p],[t]⟩::rest)),.d (binds .sub u)] (pre++some (rB s ws fuel)::r)=some (.d (.tup []),pre++some S'::r):=by
 obtain⟨pf,pv,pk⟩:=p;obtain⟨tf,tv,tk⟩:=t;simp only[T.qbg,T.qbd]at hv hd hbl hrec he hpl;subst hd;have hv2:(pf== -1)=false:=by simpa using hv
 have hE:(Gl.mk false f [.node pf pv pk] [.node pf tv tk]).encR= .agg [.int .i64 (-1),.sl .sub [(T.node pf pv pk).enc .sub],.sl .sub [(T.node pf tv tk).enc .sub]]:=rfl;have hsb:=qei s hs pf;rw[hbl]at hsb;rw[qah XV _ _ _ qj3 rfl qcL rfl];have hl:pre.length<pre.length+(r.length+1):=by omega
 have hn2:¬(pre.length+(r.length+1)<=pre.length):=by omega
 have hwr:IntKind.i64.wrap (fuel-1)=fuel-1:=wrap_i64 (by omega) (by omega);have hg:¬(60:Int)<(ws.length:Int):=by omega
 have hz2:(((rest.length:Int)+1)==0)=false:=by simp;omega
 have htk:List.take rest.length (rest.map Gl.encR)=rest.map Gl.encR:=List.take_of_length_le (by simp);simp[qj3,qfM,qfL,qfK,rB,hl,splice,hwr,h,hg,hn2,hz2];unfold rB at hrec;obtain⟨Q,hQ⟩:∃Q,pre++some [.d (sg s),.d (qbn ws),.d (.int .i64 (fuel-1))]::r=Q:=⟨_,rfl⟩;obtain⟨Q',hQ'⟩:∃Q',pre++some S'::r=Q':=⟨_,rfl⟩;obtain⟨N,hN⟩:∃N,pre.length+(r.length+1)=N:=⟨_,rfl⟩;obtain⟨k,hk⟩:∃k,pre.length=k:=⟨_,rfl⟩;have hq:Q.length=N:=by rw[<-hQ,<-hN];simp
 have hq':Q'.length=N:=by rw[<-hQ',<-hN];simp
 have hkN3:k<N+3:=by omega
 have e2:N+1+1=N+2:=rfl;have n1:¬(N+1<=N):=by omega
 have n3:¬(N+3<=N+1):=by omega
 have n4:¬(N+3<=N+2):=by omega
 have n5:¬(N+3<=k):=by omega
 have hrec:∀e,qac XV 310 [.ptr k 0,.d (qaK (qbo pk tk pk.length++rest)),.d (binds .sub u)] (Q++e)=some (.d (.tup []),Q'++e):=fun e=>by
  have:=hrec (r++e);rw[hk]at this;rw[<-hQ,<-hQ',qb1,qb1];exact this
 have tA0:∀(Q e:qal),Q.length=N->(Q++e).take N=Q:=fun Q e h=>by rw[<-h];simp
 have hx:∀(h:k<Q.length),Q[k]=some [.d (sg s),.d (qbn ws),.d (.int .i64 (fuel-1))]:=fun h=>by simp only[<-hQ,<-hk];simp
 have hx2:∀e (h:k<(Q++e).length),(Q++e)[k]=some [.d (sg s),.d (qbn ws),.d (.int .i64 (fuel-1))]:=fun e h=>by rw[List.getElem_append_left (by omega)];exact hx _
 have hx3:∀e,(Q++e)[k]?=some (some [.d (sg s),.d (qbn ws),.d (.int .i64 (fuel-1))]):=fun e=>by rw[ye_ (by omega),List.getElem?_eq_getElem (by omega),hx]
 rw[<-qb1,hQ,hN,hk,hQ'];rw[hN,hk]at hn2;clear hN hk hl hQ hQ';have hr:=hrec [some [.d (.int .i64 (-1)),.d (.sl .sub [(T.node pf pv pk).enc .sub]),.d (.sl .sub [(T.node pf tv tk).enc .sub])],some [.d (.int .i64 pf),.d (.int .i64 pv),.d (qaa .sub pk)],some [.d (.int .i64 pf),.d (.int .i64 tv),.d (qaa .sub tk)]];have hE2:(qdq pk tk pk.length++rest.map Gl.encR).map (DV.clr)=(qbo pk tk pk.length++rest).map Gl.encR:=by rw[List.map_append,qyq,List.map_append,List.map_map,qh5]
 have tB:∀(a b c:Option (List AV)) (e:qal),(Q++a::b::c::e).take (N+3)=Q++[a,b,c]:=fun a b c e=>by
  rw[<-hq,show Q++a::b::c::e=(Q++[a,b,c])++e by simp,List.take_left' (by simp)]
 have hl:=qag (X:=XV) (T:=XV.lin 310) (L:=N+3) (live:=[0,2,7,8,9,10,11]) (b:=qxA) (n:=pk.length) (γ:=Nat) (st:=fun(_:Unit) i=>⟨[(0,.ptr k 0),(2,.d (binds .sub u)),(7,.d (qaK rest)),(8,.ptr (N+1) 0),(9,.ptr (N+2) 0),(10,.d (.sl U (qdq pk tk i))),(11,.d (.int .i64 i))],Q++[some [.d (.int .i64 (-1)),.d (.sl .sub [(T.node pf pv pk).enc .sub]),.d (.sl .sub [(T.node pf tv tk).enc .sub])],some [.d (.int .i64 pf),.d (.int .i64 pv),.d (qaa .sub pk)],some [.d (.int .i64 pf),.d (.int .i64 tv),.d (qaa .sub tk)]]⟩) (step:=qcn)
  (F:=fun _=>(.exit 0,⟨[(0,.ptr k 0),(2,.d (binds .sub u)),(7,.d (qaK rest)),(8,.ptr (N+1) 0),(9,.ptr (N+2) 0),(10,.d (.sl U (qdq pk tk pk.length))),(11,.d (.int .i64 pk.length)),(137,.d (.bool false))],Q++[some [.d (.int .i64 (-1)),.d (.sl .sub [(T.node pf pv pk).enc .sub]),.d (.sl .sub [(T.node pf tv tk).enc .sub])],some [.d (.int .i64 pf),.d (.int .i64 pv),.d (qaa .sub pk)],some [.d (.int .i64 pf),.d (.int .i64 tv),.d (qaa .sub tk)]]⟩)) (R:=fun _=>(.ret,⟨[],[]⟩))
  (fun a=>⟨by simp,by simp[qxA,qsW,qsV,hq,n3,he]⟩)
  (fun a i hi=>by
   have hw:=qae (n:=i) (by omega);have hi':i<tk.length:=by omega
   have ha:=qJw (qdq pk tk i) (qyr (tAt pk i) (tAt tk i)) U (by rw[qmE];omega) (qjb _ _ _) rfl (by simp[qyr,qaf,qai]);rw[<-qsD]at ha;have o1:=qap hi;have o2:=qap hi';generalize hR2:qdq pk tk (i+1)=R2 at ha;generalize qdq pk tk i=R1 at*
   unfold qyr at ha;unfold qcn;exact⟨_,by simp[qxA,qsW,qPj,qsV,hi,hi',hw,o1,o2,ha,cut,hq,splice,n3,n4,cut];rfl,by simp[qad,qab,tB,hkN3,hq,hR2]⟩)
  pk.length () 0 ⟨[(0,.ptr k 0),(2,.d (binds .sub u)),(7,.d (qaK rest)),(8,.ptr (N+1) 0),(9,.ptr (N+2) 0),(10,.d (.sl U [])),(11,.d (.int .i64 0))],Q++[some [.d (.int .i64 (-1)),.d (.sl .sub [(T.node pf pv pk).enc .sub]),.d (.sl .sub [(T.node pf tv tk).enc .sub])],some [.d (.int .i64 pf),.d (.int .i64 pv),.d (qaa .sub pk)],some [.d (.int .i64 pf),.d (.int .i64 tv),.d (qaa .sub tk)]]⟩ (by omega) (by simp[qad,qab,qdq,hkN3,tB,hq])
 rw[qkg]at hl;simp only[qOj]at hl;have hap:=qrV (qdq pk tk pk.length) rest .sub (qjb _ _ _) (by rw[qmE];omega);simp only[qaK]at hr hl;generalize qdq pk tk pk.length=R1 at*
 simp[qfJ,qfI,qfH,qfG,qno,qdM,qdL,qdK,qdJ,qdI,qFj,qdH,qdG,qdF,qdE,hE,hkN3,hq,sA0 hq,sA1 hq,sA2 hq,splice,e2,n1,n3,n4,n5,cut,htk,hv2,hsb,hx2];rw[hl];have hE3:List.map DV.clr R1++List.map (DV.clr∘Gl.encR) rest=(qbo pk tk pk.length++rest).map Gl.encR:=by rw[<-hE2,List.map_append,List.map_map]
 have hE4:List.map DV.clr R1++List.map Gl.encR rest=(qbo pk tk pk.length++rest).map Gl.encR:=by rw[<-hE2,List.map_append,List.map_map,qh5]
 simp only[List.map_append]at hE3 hE4 hr;simp[hap,hE4,hr,hq,hq',tA0]
end
theorem qIC(n:Nat)(h:n<=12):qac XV 314 [.d (.int .i64 n),.d (.int .i64 12)] []=some (.d (.int .i64 n),[]):=by
 rw[qah XV _ _ _ qPO rfl qAo rfl]
 by_cases c:(n:Int)<12
 ·simp[qPO,qCh,qCg,qCf,qCe,c]
 ·have:(n:Int)=12:=by omega
  rw[this];simp[qPO,qCh,qCg,qCf,qCe]
theorem qOG{d:DV}{a:T}(h:IsV d a):d.clr=a.enc .sub:=by
 obtain⟨g,X,rfl,hX⟩:=h;rw[T.qbF];simp[hX]
section
variable (s:List SymL) (f:Int) (ts:List T) (rest:List Gl) (u:List Bd) (k:Nat) (Q Q':qal)
theorem qmC(hk:k<Q.length)(hQ:Q'.length=Q.length)(hrec:ts.length=0->∀e,qac XV 310 [.ptr k 0,.d (qaK rest),.d (binds .sub u)] (Q++e)=some (.d (.tup []),Q'++e))(hno:ts.length≠0->Q'=Q):
 qac XV 311 [.ptr k 0,.d (Gl.mk true f [] ts).encR,.d (qaK rest),.d (binds .sub u)] Q=some (.d (.tup []),Q'):=by
 rw[qah XV _ _ _ qsm rfl qg7 rfl]
 by_cases c:ts.length=0
 ·have hc:ts=[]:=List.length_eq_zero_iff.1 c
  have hr:=hrec c [some [.d (.int .i64 f),.d (qaa .sub []),.d (qaa .sub [])]];subst hc;simp[qsm,qhy,qhx,qhw,qhv,qhu,qht,qhs,qhr,qfm,qfl,qfk,qfj,qfi,qfh,qfg,qff,qfe,hr,hQ]
 ·have hc:((ts.length:Int)==0)=false:=by simpa using c
  rw[hno c];simp[qsm,qhy,qhx,qhw,qhv,qhu,qht,qhs,qhr,qfm,qfl,qfk,qfj,qfi,qfh,qfg,qff,qfe,hc]
theorem qkh(p:T)(ps:List T)(j:Nat)(hv:p.f= -1)(hb:qbP u p.v=some j)(hu:small u)(hk:k<Q.length)(hQ:Q'.length=Q.length)(hl:rest.length<=1000000000)(hp:ps.length<=1000000000)
 (htl:ts.length<=1099511627776) (hts:∀x,x∈ts->x.inner<=1099511627776)
 (hrec:∀r,takeN ts (partsOf f (bAt u j).t)= .inl r->∀e,qac XV 310 [.ptr k 0,.d (qaK (qbk f ps r::rest)),.d (binds .sub u)] (Q++e)=some (.d (.tup []),Q'++e)) (hno:∀r,takeN ts (partsOf f (bAt u j).t)= .inr r->Q'=Q):
 qac XV 311 [.ptr k 0,.d (Gl.mk true f (p::ps) ts).encR,.d (qaK rest),.d (binds .sub u)] Q=some (.d (.tup []),Q'):=by
 obtain⟨pf,pv,pk⟩:=p;simp only[T.qbg,T.qdQ]at hv hb hrec;subst hv;have hj:=(qcd _ _ _ _ (show qaw (fun i=>(bAt u i).v==pv) u.length 0=some j from hb)).2.1;rw[qah XV _ _ _ qsm rfl qg7 rfl];have h2:=qeH u pv hu.1;rw[hb]at h2;have h3:=qgL u pv hu.1 hu.2;have hle:qoI u pv=(bAt u j).t:=by unfold qoI;rw[hb]
 rw[hle]at h3;have hw:=hu.2 j (by omega);generalize (bAt u j).t=w at*
 obtain⟨wf,wv,wk⟩:=w;have hwi:∀x,x∈partsOf f (.node wf wv wk)->x.inner<=1099511627776:=fun x hx=>by
  unfold partsOf at hx;split at hx
  ·simp only[T.inner]at hw
   simp only[T.qbd]at hx;have:=T.qay hx;omega
  ·simp at hx;subst hx;exact hw
 have hwl:(partsOf f (.node wf wv wk)).length<=1099511627776:=by
  unfold partsOf;split
  ·have h9:=T.qgB (.node wf wv wk)
   simp only[T.qbd]at h9⊢
   omega
  ·simp
 obtain⟨g,hg,htk⟩:=qEk ts (partsOf f (.node wf wv wk)) htl hwl hts hwi;have hSN:=qBs ts (partsOf f (.node wf wv wk));have hp1:(((ps.length:Int)+1)==0)=false:=by simp;omega
 have ht:List.take ps.length (ps.map (T.enc .sub))=ps.map (T.enc .sub):=List.take_of_length_le (by simp);cases hc:qnR ts (partsOf f (.node wf wv wk))with
 |inl r=>
  rw[hc]at htk hSN;have hc2:takeN ts (partsOf f (.node wf wv wk))= .inl r:=by
   cases hn:takeN ts (partsOf f (.node wf wv wk))with
   |inl r2=>rw[hn]at hSN;simp only[Option.some.injEq]at hSN;rw[hSN]
   |inr r2=>rw[hn]at hSN;cases hSN
  have hr:=hrec r hc2 [some [.d (.int .i64 f),.d (qaa .sub (.node (-1) pv pk::ps)),.d (qaa .sub ts)],some [.d (.int .i64 (-1)),.d (.int .i64 pv),.d (qaa .sub pk)],some [.d (.int .i64 wf),.d (.int .i64 wv),.d (qaa .sub wk)]];have hEM:(qbk f ps r).encR= .agg [.int .i64 f,qaa .sub ps,qaa .sub r]:=rfl;simp only[qaK,List.map_cons,hEM]at hr;have hap:=qrV [.agg [.int .i64 f,qaa .sub ps,qjC (g,r)]] rest .sub (by simp) (by simp;omega)
  by_cases c:wf=f
  ·have ep:partsOf f (.node wf wv wk)=wk:=by unfold partsOf;rw[if_pos (show(T.node wf wv wk).f=f from c)];rfl
   rw[ep]at htk;subst c;rcases hg with rfl|rfl<;>simp only[qjC]at htk hap<;>
    simp[qsm,qhy,qhx,qhw,qhv,qhu,qht,qhs,qhr,qfm,qfl,qfk,qfj,qfi,qfh,qfg,qff,qfe,h2,h3,htk,hap,hr,hQ,hp1,ht,splice,cut]
  ·have ep:partsOf f (.node wf wv wk)=[.node wf wv wk]:=by unfold partsOf;rw[if_neg (show¬(T.node wf wv wk).f=f from c)]
   rw[ep]at htk;have c2:(wf==f)=false:=by simpa using c
   simp only[qaa,List.map_cons,List.map_nil]at htk;rcases hg with rfl|rfl<;>simp only[qjC]at htk hap<;>
    simp[qsm,qhy,qhx,qhw,qhv,qhu,qht,qhs,qhr,qfm,qfl,qfk,qfj,qfi,qfh,qfg,qff,qfe,h2,h3,c2,htk,hap,hr,hQ,hp1,ht,splice,cut]
 |inr r=>
  rw[hc]at htk hSN;have hc2:∃r2,takeN ts (partsOf f (.node wf wv wk))= .inr r2:=by
   cases hn:takeN ts (partsOf f (.node wf wv wk))with
   |inl r2=>rw[hn]at hSN;cases hSN
   |inr r2=>exact⟨_,rfl⟩
  obtain⟨r2,hr2⟩:=hc2;rw[hno r2 hr2]
  by_cases c:wf=f
  ·have ep:partsOf f (.node wf wv wk)=wk:=by unfold partsOf;rw[if_pos (show(T.node wf wv wk).f=f from c)];rfl
   rw[ep]at htk;subst c;rcases hg with rfl|rfl<;>simp only[qjC]at htk<;>
    simp[qsm,qhy,qhx,qhw,qhv,qhu,qht,qhs,qhr,qfm,qfl,qfk,qfj,qfi,qfh,qfg,qff,qfe,h2,h3,htk,hp1,ht,splice,cut]
  ·have ep:partsOf f (.node wf wv wk)=[.node wf wv wk]:=by unfold partsOf;rw[if_neg (show¬(T.node wf wv wk).f=f from c)]
   rw[ep]at htk;have c2:(wf==f)=false:=by simpa using c
   simp only[qaa,List.map_cons,List.map_nil]at htk;rcases hg with rfl|rfl<;>simp only[qjC]at htk<;>
    simp[qsm,qhy,qhx,qhw,qhv,qhu,qht,qhs,qhr,qfm,qfl,qfk,qfj,qfi,qfh,qfg,qff,qfe,h2,h3,c2,htk,hp1,ht,splice,cut]
end
theorem tA2{α:Type}{B:List α}{N:Nat}(h:B.length=N)(a b:α)(r:List α):(B++a::b::r).take (N+2)=B++[a,b]:=by
 subst h;rw[show B++a::b::r=(B++[a,b])++r by simp,List.take_left' (by simp)]
theorem sA3{α:Type}{B:List α}{N:Nat}(h:B.length=N)(a b c d v:α)(r:List α):(B++a::b::c::d::r).set (N+3) v=B++a::b::c::v::r:=by subst h;rw[List.set_append_right _ _ (by omega),show B.length+3-B.length=3 by omega];rfl
theorem qsB(f:Int)(p:T)(ps ts:List T)(rest:List Gl)(u:List Bd)(k:Nat)(Qs:Nat->qal)(N:Nat)(hN:∀i,(Qs i).length=N)(hv:p.f≠-1)(hk:k<N)(hl:rest.length<=1000000000)(hp:ps.length<=1000000000)(htl:ts.length<=1000000000)
 (hrec:∀i,i<ts.length->∀e,qac XV 310 [.ptr k 0,.d (qaK (qbY p (tAt ts i)::qbk f ps (qbr ts i)::rest)),.d (binds .sub u)] (Qs i++e)=some (.d (.tup []),Qs (i+1)++e)):
 qac XV 311 [.ptr k 0,.d (Gl.mk true f (p::ps) ts).encR,.d (qaK rest),.d (binds .sub u)] (Qs 0)=some (.d (.tup []),Qs ts.length):=by
 obtain⟨pf,pv,pk⟩:=p;simp only[T.qbg]at hv;have hv2:(pf== -1)=false:=by simpa using hv
 rw[qah XV _ _ _ qsm rfl qg7 rfl];have hk2:k<N+2:=by omega
 have n1:¬(N+2<=N):=by omega
 have n2:¬(N+2<=N+1):=by omega
 have n3:¬(N+3<=N):=by omega
 have e2:N+1+1=N+2:=rfl;have e3:N+2+1=N+3:=rfl;have h:=qag (X:=XV) (T:=XV.lin 311) (L:=N+2) (live:=[0,2,3,5,8,9,17]) (b:=qxy) (n:=ts.length) (γ:=Nat)
  (st:=fun(_:Unit) i=>⟨[(0,.ptr k 0),(2,.d (qaK rest)),(3,.d (binds .sub u)),(5,.ptr N 0),(8,.ptr (N+1) 0),(9,.d (qaa .sub ps)),(17,.d (.int .i64 i))],
   Qs i++[some [.d (.int .i64 f),.d (qaa .sub (.node pf pv pk::ps)),.d (qaa .sub ts)],some [.d (.int .i64 pf),.d (.int .i64 pv),.d (qaa .sub pk)]]⟩) (step:=qcn)
  (F:=fun _=>(.exit 2,⟨[(0,.ptr k 0),(2,.d (qaK rest)),(3,.d (binds .sub u)),(5,.ptr N 0),(8,.ptr (N+1) 0),(9,.d (qaa .sub ps)),(17,.d (.int .i64 ts.length)),(126,.d (.bool false))],
   Qs ts.length++[some [.d (.int .i64 f),.d (qaa .sub (.node pf pv pk::ps)),.d (qaa .sub ts)],some [.d (.int .i64 pf),.d (.int .i64 pv),.d (qaa .sub pk)]]⟩)) (R:=fun _=>(.ret,⟨[],[]⟩))
  (fun a=>⟨by simp,by
   have hq:=hN ts.length;simp[qxy,qsR,qsN,qsQ,hq]⟩)
  (fun a i hi=>by
   have hw:=qae (n:=i) (by omega);have hq:=hN i;have hq1:=hN (i+1);have hwo:=qjn ts i hi (by omega);have htt:=qap hi;have hr:=hrec i hi;generalize hti:tAt ts i=t at*
   obtain⟨tf,tv,tk⟩:=t;have hr:=hr [some [.d (.int .i64 f),.d (qaa .sub (.node pf pv pk::ps)),.d (qaa .sub ts)],some [.d (.int .i64 pf),.d (.int .i64 pv),.d (qaa .sub pk)],some [.d (.int .i64 (-1)),.d (.sl .sub [(T.node pf pv pk).enc .sub]),.d (.sl .sub [(T.node tf tv tk).enc .sub])],some [.d (.int .i64 f),.d (qaa .sub ps),.d (qaa .sub (qbr ts i))]];have hEP:(qbY (.node pf pv pk) (.node tf tv tk)).encR= .agg [.int .i64 (-1),.sl .sub [(T.node pf pv pk).enc .sub],.sl .sub [(T.node tf tv tk).enc .sub]]:=rfl;have hEM:(qbk f ps (qbr ts i)).encR= .agg [.int .i64 f,qaa .sub ps,qaa .sub (qbr ts i)]:=rfl;simp only[qaK,List.map_cons,hEM,hEP]at hr;have hap:=qrV [.agg [.int .i64 (-1),.sl U [(T.node pf pv pk).enc .sub],.sl U [(T.node tf tv tk).enc .sub]],.agg [.int .i64 f,qaa .sub ps,DV.sl U ((qbr ts i).map (T.enc .sub))]] rest .sub (by simp) (by simp;omega);unfold qcn;refine⟨_,by simp[qxy,qsR,qPh,qPg,qsN,qsQ,hi,hw,cut,htt,hwo,hap,hr,sA1 hq,sA2 hq,sA3 hq,hq,hq1,n1,n2,n3,e2,e3,splice];rfl,?_⟩;simp[qad,qab,hk2,tA2 hq1,hq1])
  ts.length () 0 ⟨[(0,.ptr k 0),(2,.d (qaK rest)),(3,.d (binds .sub u)),(5,.ptr N 0),(8,.ptr (N+1) 0),(9,.d (qaa .sub ps)),(17,.d (.int .i64 0))],
   Qs 0++[some [.d (.int .i64 f),.d (qaa .sub (.node pf pv pk::ps)),.d (qaa .sub ts)],some [.d (.int .i64 pf),.d (.int .i64 pv),.d (qaa .sub pk)]]⟩ (by omega) (by simp[qad,qab,hk2,tA2 (hN 0),hN 0])
 rw[qkg]at h;simp only[qD8]at h;have hq:=hN 0;have hq2:=hN ts.length;have hp1:(((ps.length:Int)+1)==0)=false:=by simp;omega
 have ht:List.take ps.length (ps.map (T.enc .sub))=ps.map (T.enc .sub):=List.take_of_length_le (by simp);simp[qsm,qhy,qhx,qhw,qhv,qhu,qht,qhs,qhr,qfm,qfl,qfk,qfj,qfi,qfh,qfg,qff,qfe,hv2,hp1,ht,hq,sA0 hq,sA1 hq,n1,n2,splice,cut];rw[h];simp[hq2]
theorem qsC(s:List SymL)(hs:s.length<=1099511627776)(f:Int)(pv:Int)(pk ps ts:List T)(rest:List Gl)(u:List Bd)(k:Nat)(Qs:Nat->qal)(N:Nat)(hN:∀i,(Qs i).length=N)(hk:k<N)(hl:rest.length<=1000000000)(hp:ps.length<=1000000000)(htl:ts.length<=12)(hu:u.length<=549755813888)
 (tl:Nat->List AV) (hbx:∀i,(Qs i)[k]?=some (some (.d (sg s)::tl i))) (hcn:∀m,qaQ (onB ts m ts.length)<=1099511627776)
 (hb:qbP u pv=none)
 (hrec:∀i,i+1<2^ts.length->∀e,qac XV 310 [.ptr k 0,.d (qaK (qbk f ps (qeQ ts (i+1) ts.length)::rest)),.d (binds .sub (qgp u pv (qcV s f (onB ts (i+1) ts.length))))] (Qs i++e)=some (.d (.tup []),Qs (i+1)++e)):
 qac XV 311 [.ptr k 0,.d (Gl.mk true f (.node (-1) pv pk::ps) ts).encR,.d (qaK rest),.d (binds .sub u)] (Qs 0)=some (.d (.tup []),Qs (2^ts.length-1)):=by
 rw[qah XV _ _ _ qsm rfl qg7 rfl];have h2:=qeH u pv (by omega);rw[hb]at h2;have h4096:2^ts.length<=2^12:=Nat.pow_le_pow_right (by omega) htl;have hsh:=qsz ts.length (by omega);have hmin:=qIC ts.length htl;have hk2:k<N+2:=by omega
 have n1:¬(N+2<=N):=by omega
 have n2:¬(N+2<=N+1):=by omega
 have nk:¬(N+2<=k):=by omega
 have h:=qag (X:=XV) (T:=XV.lin 311) (L:=N+2) (live:=[0,2,3,5,8,9,10]) (b:=qxz) (n:=2^ts.length-1) (γ:=Nat)
  (st:=fun(_:Unit) i=>⟨[(0,.ptr k 0),(2,.d (qaK rest)),(3,.d (binds .sub u)),(5,.ptr N 0),(8,.ptr (N+1) 0),(9,.d (qaa .sub ps)),(10,.d (.int .i64 (i+1:Nat)))],
   Qs i++[some [.d (.int .i64 f),.d (qaa .sub (.node (-1) pv pk::ps)),.d (qaa .sub ts)],some [.d (.int .i64 (-1)),.d (.int .i64 pv),.d (qaa .sub pk)]]⟩) (step:=qcn)
  (F:=fun _=>(.exit 0,⟨[(0,.ptr k 0),(2,.d (qaK rest)),(3,.d (binds .sub u)),(5,.ptr N 0),(8,.ptr (N+1) 0),(9,.d (qaa .sub ps)),(10,.d (.int .i64 (2^ts.length-1+1:Nat))),(55,.d (.bool false))],
   Qs (2^ts.length-1)++[some [.d (.int .i64 f),.d (qaa .sub (.node (-1) pv pk::ps)),.d (qaa .sub ts)],some [.d (.int .i64 (-1)),.d (.int .i64 pv),.d (qaa .sub pk)]]⟩)) (R:=fun _=>(.ret,⟨[],[]⟩))
  (fun a=>⟨by simp,by
   have hlt:¬((2^ts.length-1+1:Nat):Int)<((2^ts.length:Nat):Int):=by omega
   have hq:=hN (2^ts.length-1);generalize ((2^ts.length:Nat):Int)=M at*
   generalize ((2^ts.length-1+1:Nat):Int)=m at*
   generalize Qs (2^ts.length-1)=Q at*
   simp[qxz,qCm,qsT,qCl,hsh,hmin,hlt,hq]⟩)
  (fun a i hi=>by
   have hq:=hN i;have hq1:=hN (i+1);have hlt:((i+1:Nat):Int)<((2^ts.length:Nat):Int):=by omega
   have hw:=qae (n:=i+1) (by omega);have hbt:=qEm ts (i+1) (by omega) (by omega);obtain⟨d,hmk,hd⟩:=qsx s hs f (onB ts (i+1) ts.length) (hcn _);have hdc:=qOG hd;have hmi:=qlr s f (onB ts (i+1) ts.length);have hcl:=hcn (i+1);obtain⟨xs,hxs,hadd⟩:=qw6 u pv (qcV s f (onB ts (i+1) ts.length)) hu (by omega);have hx2:xs.map (DV.clr∘DV.clr)=(qgp u pv (qcV s f (onB ts (i+1) ts.length))).map (Bd.enc .sub):=by rw[<-List.map_map,hxs,Bd.qd0]
   have hr:=hrec i (by omega) [some [.d (.int .i64 f),.d (qaa .sub (.node (-1) pv pk::ps)),.d (qaa .sub ts)],some [.d (.int .i64 (-1)),.d (.int .i64 pv),.d (qaa .sub pk)]];have hEM:(qbk f ps (qeQ ts (i+1) ts.length)).encR= .agg [.int .i64 f,qaa .sub ps,qaa .sub (qeQ ts (i+1) ts.length)]:=rfl;simp only[qaK,List.map_cons,hEM,binds]at hr;have hap:=qrV [.agg [.int .i64 f,qaa .sub ps,.sl U ((qeQ ts (i+1) ts.length).map (T.enc .sub))]] rest .sub (by simp) (by simp;omega);have hg:∀e,(Qs i++e)[k]?=some (some (.d (sg s)::tl i)):=fun e=>by rw[ye_ (by omega)];exact hbx i
   have hx:∀h,(Qs i)[k]'h=some (.d (sg s)::tl i):=fun h=>by have:=hbx i;rw[List.getElem?_eq_getElem h]at this;simpa using this
   have hxx:∀e h,(Qs i++e)[k]'h=some (.d (sg s)::tl i):=fun e h=>by rw[List.getElem_append_left (by omega)];exact hx _
   generalize qgp u pv (qcV s f (onB ts (i+1) ts.length))=u2 at*
   generalize qcV s f (onB ts (i+1) ts.length)=mk at*
   generalize onB ts (i+1) ts.length=on at*
   generalize qeQ ts (i+1) ts.length=off at*
   generalize ((2^ts.length:Nat):Int)=M at*
   generalize ((i+1:Nat):Int)=m at*
   generalize hm2:((i+1+1:Nat):Int)=m2 at*
   unfold qcn;refine⟨_,by simp[qxz,qCm,qsT,qPi,qCl,hsh,hmin,hlt,hw,hbt,hmk,hdc,hadd,hx2,hap,hr,hxx,hk2,hq,hq1,n1,n2,nk,splice];rfl,?_⟩;simp[qad,qab,hk2,tA2 hq1,hq1];omega)
  (2^ts.length-1) () 0 ⟨[(0,.ptr k 0),(2,.d (qaK rest)),(3,.d (binds .sub u)),(5,.ptr N 0),(8,.ptr (N+1) 0),(9,.d (qaa .sub ps)),(10,.d (.int .i64 1))],
   Qs 0++[some [.d (.int .i64 f),.d (qaa .sub (.node (-1) pv pk::ps)),.d (qaa .sub ts)],some [.d (.int .i64 (-1)),.d (.int .i64 pv),.d (qaa .sub pk)]]⟩ (by omega) (by simp[qad,qab,hk2,tA2 (hN 0),hN 0])
 rw[qkg]at h;simp only[qD8]at h;have hq:=hN 0;have hq2:=hN (2^ts.length-1);have hp1:(((ps.length:Int)+1)==0)=false:=by simp;omega
 have ht:List.take ps.length (ps.map (T.enc .sub))=ps.map (T.enc .sub):=List.take_of_length_le (by simp);simp[qsm,qhy,qhx,qhw,qhv,qhu,qht,qhs,qhr,qfm,qfl,qfk,qfj,qfi,qfh,qfg,qff,qfe,h2,hp1,ht,hq,sA0 hq,sA1 hq,n1,n2,splice,cut];rw[h];simp[hq2]
structure RS(S:MS)(ws:List (List Bd))(fuel:Int)(b:Nat):Prop where
 lo: -(b:Int)<=fuel
 hi:fuel<=20000
 l:ws.length<=61
 w:∀w,w∈ws->small w
 nd:S.done=false->ws=S.ways/\fuel=20000-(S.steps:Int)
 d:S.done=true->fuel<0\/60<ws.length
theorem RS.mono{S:MS}{ws:List (List Bd)}{fuel:Int}{b c:Nat}(h:RS S ws fuel b)(hbc:b<=c):RS S ws fuel c:=
 ⟨by have:=h.lo;omega,h.hi,h.l,h.w,h.nd,h.d⟩
theorem chain{α:Type}(R:Nat->α->α->Prop)(I:Nat->α->Prop)(a0:α)(h0:I 0 a0):∀n,(∀i a,i<n->I i a->∃a',R i a a'/\I (i+1) a')->∃f:Nat->α,f 0=a0/\(∀i,i<n->R i (f i) (f (i+1)))/\∀i,i<=n->I i (f i)
 |0,_=>⟨fun _=>a0,rfl,fun i hi=>absurd hi (Nat.not_lt_zero i),fun i hi=>by
  have:i=0:=by omega
  subst this;exact h0⟩
 |n+1,hs=>by
  obtain⟨f,f0,f1,f2⟩:=chain R I a0 h0 n fun i a hi=>hs i a (by omega)
  obtain⟨a',hR,hI⟩:=hs n (f n) (by omega) (f2 n (Nat.le_refl _));refine⟨fun j=>if j=n+1 then a' else f j,?_,fun i hi=> ?_,fun i hi=> ?_⟩
  ·show(if 0=n+1 then a' else f 0)=a0
   rw[if_neg (by omega)];exact f0
  ·show R i (if i=n+1 then a' else f i) (if i+1=n+1 then a' else f (i+1))
   rw[if_neg (by omega)]
   by_cases c:i=n
   ·subst c;rw[if_pos rfl];exact hR
   ·rw[if_neg (by omega)];exact f1 i (by omega)
  ·show I i (if i=n+1 then a' else f i)
   by_cases c:i=n+1
   ·subst c;rw[if_pos rfl];exact hI
   ·rw[if_neg c];exact f2 i (by omega)
theorem qLS(s:List SymL)(hs:s.length<=1099511627776):∀(n:Nat) (gl:List Gl) (u:List Bd) (S:MS) (ws:List (List Bd)) (fuel:Int) (b:Nat) (pre:qal),Inv s gl u->qdw gl<n->n<=1000000000->S.good->RS S ws fuel b->b<=1000000000000000->
 ∃q:List (List Bd)×Int,(∀r,qac XV 310 [.ptr pre.length 0,.d (qaK gl),.d (binds .sub u)] (pre++some (rB s ws fuel)::r)=some (.d (.tup []),pre++some (rB s q.1 q.2)::r))/\RS (S.run (evs s n gl u)) q.1 q.2 (max (b+1) (4096*n+1))
 |0,gl,u,S,ws,fuel,b,pre,hi,hn,_,_,_,_=>absurd hn (Nat.not_lt_zero _)
 |n+1,gl,u,S,ws,fuel,b,pre,hi,hn,hnb,hS,hR,hb=>by
  have hlo:=hR.lo;have hhi:=hR.hi
  by_cases hd:S.done=true
  ·rw[S.qfB hd]
   have h1:=hR.d hd;exact⟨(ws,fuel-1),fun r=>qEz s ws fuel gl u pre r (by omega) (by omega) hhi,⟨by(try simp only);omega,by(try simp only);omega,hR.l,hR.w,fun h=>by rw[hd]at h;(cases h),fun _=>by(try simp only);omega⟩⟩
  have hd:S.done=false:=by simpa using hd
  obtain⟨hws,hfu⟩:=hR.nd hd;subst hws
  by_cases ho:20000<S.steps+1
  ·have hsd:S.step.done=true:=by unfold MS.step MS.done;simp[ho]
   have he:∃es,evs s (n+1) gl u=none::es:=by
    cases gl with
    |nil=>exact⟨_,qlG ..⟩
    |cons g rest=>exact⟨_,qhX ..⟩
   obtain⟨es,he⟩:=he;rw[he,MS.qeq,MS.qgi S hd,S.step.qfB hsd];exact⟨(S.ways,fuel-1),fun r=>qEz s S.ways fuel gl u pre r (by omega) (by omega) hhi,⟨by(try simp only);omega,by(try simp only);omega,hR.l,hR.w,fun h=>by rw[hsd]at h;(cases h),fun _=>by(try simp only);omega⟩⟩
  have ho:S.steps+1<=20000:=by omega
  have hf1:¬fuel-1<0:=by omega
  have hsm:=hi.small;have hdd:=hd;unfold MS.done at hdd;simp only[Bool.or_eq_false_iff,decide_eq_false_iff_not]at hdd;have hwl:S.ways.length<=60:=by omega
  have hSd:S.step.done=false:=by
   unfold MS.step MS.done;simp only[Bool.or_eq_false_iff,decide_eq_false_iff_not];exact⟨by omega,hdd.2⟩
  have hSg:S.step.good:=by rw[<-MS.qgi S hd];exact hS.ev none fun _ h=>by cases h
  have hR1:RS S.step S.ways (fuel-1) 0:=⟨by omega,by omega,hR.l,hR.w,fun _=>⟨rfl,by unfold MS.step;simp only;omega⟩,fun h=>by rw[hSd]at h;cases h⟩
  match gl,hi,hn with
  | [],hi,hn=>
   rw[qlG,MS.qeq,MS.qgi S hd,MS.qeq,MS.quw _ hSd];have hg2:=hSg.ev (some u) (fun w h=>by simp only[Option.some.injEq]at h;subst h;exact hsm);rw[MS.quw _ hSd]at hg2;refine⟨(if qxa S.ways u then S.ways else S.ways++[u],fuel-1),fun r=>qUs s S.ways fuel u pre r hf1 hwl hhi hR.w hsm,?_⟩;have e:qxa S.step.ways u=qxa S.ways u:=rfl;rw[e]at hg2⊢
   cases hh:qxa S.ways u with
   |true=>
    simp only[if_true];exact hR1.mono (by omega)
   |false=>
    rw[hh]at hg2;simp only[Bool.false_eq_true,if_false]at hg2⊢
    refine⟨by(try simp only);omega,by(try simp only);omega,hg2.l,hg2.w,fun _=>⟨rfl,hR1.nd hSd|>.2⟩,fun h=> ?_⟩;have hso:S.step.over=false:=by unfold MS.step;simp only;simpa using ho
    show fuel-1<0\/60<(S.ways++[u]).length;have h':(S.step.over||decide (60<(S.ways++[u]).length))=true:=h;rw[hso,Bool.false_or,decide_eq_true_eq]at h';exact .inr h'
  |g::rest,hi,hn=>
   have IH:∀(c:List Gl×List Bd),c∈qbB s (g::rest) u->∀(S':MS) (ws':List (List Bd)) (fuel':Int) (b':Nat),S'.good->RS S' ws' fuel' b'->b'<=1000000000000000->
    ∃q:List (List Bd)×Int,(∀r' e,qac XV 310 [.ptr pre.length 0,.d (qaK c.1),.d (binds .sub c.2)] ((pre++some (rB s ws' fuel')::r')++e)=some (.d (.tup []),(pre++some (rB s q.1 q.2)::r')++e))/\RS (S'.run (evs s n c.1 c.2)) q.1 q.2 (max (b'+1) (4096*n+1)):=fun c hc S' ws' fuel' b' hS' hR' hb'=>by
    obtain⟨q,h1,h2⟩:=qLS s hs n c.1 c.2 S' ws' fuel' b' pre (qds hi c hc).1 (by have:=(qds hi c hc).2;omega) (by omega) hS' hR' hb';exact⟨q,fun r' e=>by rw[qb1,qb1];exact h1 (r'++e),h2⟩
   have IG:∀(c:List Gl×List Bd),c∈qbB s (g::rest) u->∀(S':MS),S'.good->(S'.run (evs s n c.1 c.2)).good:=fun c hc S' hS'=>
    MS.good.run _ hS' fun w hw=>qlF n (qds hi c hc).1 hw
   have IH1:∀(c:List Gl×List Bd),qbB s (g::rest) u=[c]->∃q:List (List Bd)×Int,(∀r' e,qac XV 310 [.ptr pre.length 0,.d (qaK c.1),.d (binds .sub c.2)] ((pre++some (rB s S.ways (fuel-1))::r')++e)=some (.d (.tup []),(pre++some (rB s q.1 q.2)::r')++e))/\RS (S.step.run ((qbB s (g::rest) u).flatMap fun c=>evs s n c.1 c.2)) q.1 q.2 (max (b+1) (4096*(n+1)+1)):=fun c hc=>by
    obtain⟨q,h1,h2⟩:=IH c (by rw[hc];exact List.mem_singleton.2 rfl) S.step S.ways (fuel-1) 0 hSg hR1 (by omega);rw[hc];simp only[List.flatMap_cons,List.flatMap_nil,List.append_nil];exact⟨q,h1,h2.mono (by omega)⟩
   have IH0:qbB s (g::rest) u=[]->RS (S.step.run ((qbB s (g::rest) u).flatMap fun c=>evs s n c.1 c.2)) S.ways (fuel-1) (max (b+1) (4096*(n+1)+1)):=fun hc=>by
    rw[hc];exact hR1.mono (by omega)
   have hgl:=hi.g _ (List.mem_cons_self ..);have hm:=hi.m;rw[qaT]at hm;have hrl:=qiI rest;have hlen:∀(w':List (List Bd)) (f':Int) (r':qal),(pre++some (rB s w' f')::r').length=pre.length+r'.length+1:=fun w' f' r'=>by simp;omega
   have hkl:∀(w':List (List Bd)) (f':Int) (r':qal),pre.length<(pre++some (rB s w' f')::r').length:=fun w' f' r'=>by rw[hlen];omega
   rw[qhX,MS.qeq,MS.qgi S hd];obtain⟨mn,f,ps,ts⟩:=g;cases mn with
   |true=>
    obtain⟨htl,hbl,_,_⟩:=hgl.2.2.2.1 rfl;have hcn:=hgl.1;simp only at htl hcn hbl;have hf0:0<=f:=(qeh (qxt hbl)).1;have key:∀q:List (List Bd)×Int,(∀r',qac XV 311 [.ptr pre.length 0,.d (Gl.mk true f ps ts).encR,.d (qaK rest),.d (binds .sub u)] (pre++some (rB s S.ways (fuel-1))::r')=some (.d (.tup []),pre++some (rB s q.1 q.2)::r'))->
     ∀r,qac XV 310 [.ptr pre.length 0,.d (qaK (⟨true,f,ps,ts⟩::rest)),.d (binds .sub u)] (pre++some (rB s S.ways fuel)::r)=some (.d (.tup []),pre++some (rB s q.1 q.2)::r):=fun q hq r=>
     qOM s S.ways fuel f ps ts rest u pre r _ hf1 hwl hhi hf0 (by omega) hq
    cases ps with
    |nil=>
     by_cases c:ts.length=0
     ·obtain⟨q,h1,h2⟩:=IH1 (rest,u) (by simp[qbB,c])
      exact⟨q,key q fun r'=>qmC f ts rest u _ _ _ (hkl ..) (by simp only[hlen]) (fun _=>h1 r') (fun h=>absurd c h),h2⟩
     ·exact⟨(S.ways,fuel-1),key (S.ways,fuel-1) fun r'=>qmC f ts rest u _ _ _ (hkl ..) (by simp only[hlen]) (fun h=>absurd h c) (fun _=>rfl),IH0 (by simp[qbB,c])⟩
    |cons p ps=>
     have hpl:ps.length<=1000000000:=by
      have e:glW ⟨true,f,p::ps,ts⟩=1+3*(p.inner+1+qaQ ps):=by rw[<-qaH];rfl
      have:=qdj ps;omega
     by_cases c:p.f= -1
     ·cases hb:qbP u p.v with
      |some j=>
       cases htk:takeN ts (partsOf f (bAt u j).t)with
       |inl r0=>
        obtain⟨q,h1,h2⟩:=IH1 (qbk f ps r0::rest,u) (by simp[qbB,c,hb,htk]);exact⟨q,key q fun r'=>qkh f ts rest u _ _ _ p ps j c hb hsm (hkl ..) (by simp only[hlen]) (by omega) hpl (by omega) (fun x hx=>by have:=qbC hx;omega) (fun r2 h9=>by rw[htk]at h9;simp only[Sum.inl.injEq]at h9;subst h9;exact h1 r') (fun r2 h9=>by rw[htk]at h9;cases h9),h2⟩
       |inr r0=>
        exact⟨(S.ways,fuel-1),key (S.ways,fuel-1) fun r'=>qkh f ts rest u _ _ _ p ps j c hb hsm (hkl ..) (by simp only[hlen]) (by omega) hpl (by omega) (fun x hx=>by have:=qbC hx;omega) (fun r2 h9=>by rw[htk]at h9;cases h9) (fun r2 h9=>rfl),IH0 (by simp[qbB,c,hb,htk])⟩
      |none=>
       obtain⟨pf,pv,pk⟩:=p;simp only[T.qbg,T.qdQ]at c hb;subst c;have hnx:qbB s (⟨true,f,.node (-1) pv pk::ps,ts⟩::rest) u=(List.range (2^ts.length-1)).map fun m=>(qbk f ps (qeQ ts (m+1) ts.length)::rest,qgp u pv (qcV s f (onB ts (m+1) ts.length))):=by simp[qbB,hb]
       have hmem:∀i,i<2^ts.length-1->(qbk f ps (qeQ ts (i+1) ts.length)::rest,qgp u pv (qcV s f (onB ts (i+1) ts.length)))∈qbB s (⟨true,f,.node (-1) pv pk::ps,ts⟩::rest) u:=fun i hi=>by
        rw[hnx];exact List.mem_map.2 ⟨i,List.mem_range.2 hi,rfl⟩
       have h4096:2^ts.length<=2^12:=Nat.pow_le_pow_right (by omega) htl;rw[hnx,List.flatMap_map];obtain⟨F,hF⟩:∃F:Nat->List (Option (List Bd)),F=fun m=>evs s n (qbk f ps (qeQ ts (m+1) ts.length)::rest) (qgp u pv (qcV s f (onB ts (m+1) ts.length))):=⟨_,rfl⟩
       have hst:∀i,S.step.run ((List.range (i+1)).flatMap F)=(S.step.run ((List.range i).flatMap F)).run (F i):=fun i=>by rw[qb6,MS.qgA]
       obtain⟨q,q0,q1,q2⟩:=chain (α:=List (List Bd)×Int)
        (fun i a a'=>∀r' e,qac XV 310 [.ptr pre.length 0,.d (qaK (qbk f ps (qeQ ts (i+1) ts.length)::rest)),.d (binds .sub (qgp u pv (qcV s f (onB ts (i+1) ts.length))))] ((pre++some (rB s a.1 a.2)::r')++e)=some (.d (.tup []),(pre++some (rB s a'.1 a'.2)::r')++e))
        (fun i a=>(S.step.run ((List.range i).flatMap F)).good/\RS (S.step.run ((List.range i).flatMap F)) a.1 a.2 (4096*n+1+i)) (S.ways,fuel-1) ⟨hSg,hR1.mono (by omega)⟩ (2^ts.length-1) (fun i a hi ha=>by
         obtain⟨q,h1,h2⟩:=IH _ (hmem i hi) _ a.1 a.2 _ ha.1 ha.2 (by omega);refine⟨q,h1,?_,?_⟩
         ·rw[hst,hF];have:=IG _ (hmem i hi) _ ha.1;rwa[hF]at this
         ·rw[hst,hF]
          rw[hF]at h2;exact h2.mono (by omega))
       have hle:4096*n+1+(2^ts.length-1)<=max (b+1) (4096*(n+1)+1):=by
        generalize 2^ts.length=m at*
        have:m<=4096:=h4096;refine Nat.le_trans ?_ (Nat.le_max_right _ _);omega
       have hq2:=(q2 _ (Nat.le_refl _)).2;refine⟨q (2^ts.length-1),key _ fun r'=> ?_,by rw[<-hF];exact hq2.mono hle⟩;have hx:=qsC s hs f pv pk ps ts rest u pre.length (fun i=>pre++some (rB s (q i).1 (q i).2)::r') (pre.length+r'.length+1)
        (fun i=>hlen _ _ _) (by omega) (by omega) hpl htl (by omega) (fun i=>(rB s (q i).1 (q i).2).tail) (fun i=>by simp only[qtU];rfl)
        (fun m=>Nat.le_trans (qgv (qox ts m)) (by omega)) hb (fun i h1 e=>q1 i (by omega) r' e)
       simp only[q0]at hx;exact hx
     ·have hnx:qbB s (⟨true,f,p::ps,ts⟩::rest) u=(List.range ts.length).map fun i=>(qbY p (tAt ts i)::qbk f ps (qbr ts i)::rest,u):=by simp[qbB,c]
      have hmem:∀i,i<ts.length->(qbY p (tAt ts i)::qbk f ps (qbr ts i)::rest,u)∈qbB s (⟨true,f,p::ps,ts⟩::rest) u:=fun i hi=>by
       rw[hnx];exact List.mem_map.2 ⟨i,List.mem_range.2 hi,rfl⟩
      rw[hnx,List.flatMap_map];obtain⟨F,hF⟩:∃F:Nat->List (Option (List Bd)),F=fun i=>evs s n (qbY p (tAt ts i)::qbk f ps (qbr ts i)::rest) u:=⟨_,rfl⟩
      have hst:∀i,S.step.run ((List.range (i+1)).flatMap F)=(S.step.run ((List.range i).flatMap F)).run (F i):=fun i=>by rw[qb6,MS.qgA]
      obtain⟨q,q0,q1,q2⟩:=chain (α:=List (List Bd)×Int)
       (fun i a a'=>∀r' e,qac XV 310 [.ptr pre.length 0,.d (qaK (qbY p (tAt ts i)::qbk f ps (qbr ts i)::rest)),.d (binds .sub u)] ((pre++some (rB s a.1 a.2)::r')++e)=some (.d (.tup []),(pre++some (rB s a'.1 a'.2)::r')++e))
       (fun i a=>(S.step.run ((List.range i).flatMap F)).good/\RS (S.step.run ((List.range i).flatMap F)) a.1 a.2 (4096*n+1+i)) (S.ways,fuel-1) ⟨hSg,hR1.mono (by omega)⟩ ts.length (fun i a hi ha=>by
        obtain⟨q,h1,h2⟩:=IH _ (hmem i hi) _ a.1 a.2 _ ha.1 ha.2 (by omega);refine⟨q,h1,?_,?_⟩
        ·rw[hst,hF];have:=IG _ (hmem i hi) _ ha.1;rwa[hF]at this
        ·rw[hst,hF]
         rw[hF]at h2;exact h2.mono (by omega))
      have hle:4096*n+1+ts.length<=max (b+1) (4096*(n+1)+1):=by
       refine Nat.le_trans ?_ (Nat.le_max_right _ _);omega
      have hq2:=(q2 _ (Nat.le_refl _)).2;refine⟨q ts.length,key _ fun r'=> ?_,by rw[<-hF];exact hq2.mono hle⟩;have hx:=qsB f p ps ts rest u pre.length (fun i=>pre++some (rB s (q i).1 (q i).2)::r') (pre.length+r'.length+1)
       (fun i=>hlen _ _ _) c (by omega) (by omega) hpl (by omega) (fun i h1 e=>q1 i h1 r' e)
      simp only[q0]at hx;exact hx
   |false=>
    obtain⟨p,t,hp,ht⟩:=hgl.2.2.2.2 rfl;simp only at hp ht;subst hp ht;have hti:t.inner<=1000:=by have:=hgl.1;simp only[qaH]at this;omega
    have hpi:p.inner<=1000000:=by
     have e:glW ⟨false,f,[p],[t]⟩=3*p.inner+2:=rfl;omega
    have one:∀(q:List (List Bd)×Int) (c:List Gl×List Bd),(∀r' e,qac XV 310 [.ptr pre.length 0,.d (qaK c.1),.d (binds .sub c.2)] ((pre++some (rB s S.ways (fuel-1))::r')++e)=some (.d (.tup []),(pre++some (rB s q.1 q.2)::r')++e))->∀r',qac XV 310 [.ptr pre.length 0,.d (qaK c.1),.d (binds .sub c.2)] (pre++some (rB s S.ways (fuel-1))::r')=some (.d (.tup []),pre++some (rB s q.1 q.2)::r'):=fun q c h r'=>by
     have:=h r' [];simpa using this
    by_cases c:p.f= -1
    ·cases hb:qbP u p.v with
     |none=>
      obtain⟨q,h1,h2⟩:=IH1 (rest,qgp u p.v t) (by simp[qba,c,hb]);exact⟨q,fun r=>qOO s S.ways fuel f p t rest u pre r _ hf1 hwl hhi c hb (by omega) (by omega) (by omega) (one q _ h1),h2⟩
     |some j=>
      cases hcm:(T.cmp (bAt u j).t t==0)with
      |true=>
       have hcm2:=hcm;rw[beq_iff_eq]at hcm2;obtain⟨q,h1,h2⟩:=IH1 (rest,u) (by simp[qba,c,hb,hcm2]);exact⟨q,fun r=>qIP s S.ways fuel f p t rest u pre r _ hf1 hwl hhi j c hb hsm (by omega) hcm (by omega) (one q _ h1),h2⟩
      |false=>
       have hcm2:=hcm;rw[beq_eq_false_iff_ne]at hcm2;exact⟨(S.ways,fuel-1),fun r=>qEy s S.ways fuel f p t rest u pre r hf1 hwl hhi j c hb hsm (by omega) hcm (by omega),IH0 (by simp[qba,c,hb,hcm2])⟩
    ·by_cases c2:p.f=t.f
     ·cases hbl:qaM s p.f with
      |true=>
       obtain⟨q,h1,h2⟩:=IH1 (qbk p.f p.kids t.kids::rest,u) (by rw[c2]at c hbl;simp[qba,c,c2,hbl]);exact⟨q,fun r=>qIQ s S.ways fuel f p t rest u pre r _ hf1 hwl hhi hs c c2 hbl (by omega) (one q _ h1),h2⟩
      |false=>
       have c3:p.kids.length=t.kids.length:=by
        have h1:=qgs (hgl.2.2.1 p (List.mem_singleton.2 rfl)) c;have h2:=qgs (hgl.2.1 t (List.mem_singleton.2 rfl)).2 (by rw[<-c2];exact c);rw[<-c2]at h2;exact qIK h1.1 h2.1 hbl
       obtain⟨q,h1,h2⟩:=IH1 (qbo p.kids t.kids p.kids.length++rest,u) (by rw[c2]at c hbl;simp[qba,c,c2,hbl,c3]);exact⟨q,fun r=>qON s S.ways fuel f p t rest u pre r _ hf1 hwl hhi hs c c2 hbl c3 (by have:=T.qgB p;omega) (by omega) (one q _ h1),h2⟩
     ·exact⟨(S.ways,fuel-1),fun r=>qIO s S.ways fuel f p t rest u pre r hf1 hwl hhi c c2 (by omega),IH0 (by simp[qba,c,c2])⟩
mutual
def T.nodes:T->List T
 | .node f v ks=> .node f v ks::T.nodess ks
def T.nodess:List T->List T
 | []=>[]
 |t::r=>t.nodes++T.nodess r
end
def qUA(s:List SymL)(u:List Bd)(t:T):T:=(qUz u t).norm s
end Go.Proofs.YtbcbkiaineacpaaGreat.VS
