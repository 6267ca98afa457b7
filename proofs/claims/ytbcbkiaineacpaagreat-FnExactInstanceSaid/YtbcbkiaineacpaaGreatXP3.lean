/- Contracts of the program's functions on the evaluator without names, and plain lemmas: part 3. -/
import Derived.Test.YtbcbkiaineacpaaGreatXP2
set_option linter.unusedSimpArgs false
set_option linter.unusedVariables false
namespace Go.Proofs.YtbcbkiaineacpaaGreat.VS
theorem right_step(A Y Z:List T)(x:T)(s:Nat)(hs:s<Y.length):swp (A++Y.take s++x::(Y.drop s++Z)) (A.length+s+1) (A.length+s)=A++Y.take (s+1)++x::(Y.drop (s+1)++Z):=by
 have hl:(A++Y.take s).length=A.length+s:=by simp;omega
 rw[<-List.take_append_getElem hs,List.drop_eq_getElem_cons hs,qu2 _ _ _ (by omega),<-hl];have:=qpl (A++Y.take s) [] (Y.drop (s+1)++Z) x Y[s] ((A++Y.take s).length+1) rfl;simp only[List.nil_append]at this;rw[show Y[s]::Y.drop (s+1)++Z=Y[s]::(Y.drop (s+1)++Z)from rfl,this];simp only[yh_,List.cons_append,List.nil_append]
theorem qxl(A Y Z:List T)(x:T)(N a:Nat)(hA:A.length=a)(hN:(A++x::(Y++Z)).length=N)(hn:N<=1099511627776):
 qbq XV [70,74,122,126] 1 [0,10,13] qsM ⟨[(0,.tsl true 0 3 N),(10,.d (.int .i64 (a+1+Y.length:Nat))),(13,.d (.int .i64 a))],[some (kc (A++x::(Y++Z)))]⟩=
  some (.exit 2,⟨[(0,.tsl true 0 3 N),(10,.d (.int .i64 (a+1+Y.length:Nat))),(13,.d (.int .i64 (a+Y.length:Nat))),(58,.d (.bool false))],[some (kc (A++Y++x::Z))]⟩):=by
 have hNl:A.length+1+Y.length+Z.length=N:=by rw[<-hN];simp;omega
 have hlen:∀s,(A++Y.take s++x::(Y.drop s++Z)).length=N:=fun s=>by simp;omega
 have hw1:IntKind.i64.wrap (((a+1+Y.length:Nat):Int)-1)=((a+Y.length:Nat):Int):=by rw[wrap_i64 (by omega) (by omega)];omega
 have h:=qal (X:=XV) (T:=[70,74,122,126]) (L:=1) (live:=[0,10,13]) (b:=qsM) (n:=Y.length) (γ:=Unit) (st:=fun(_:Unit) s=>⟨[(0,.tsl true 0 3 N),(10,.d (.int .i64 (a+1+Y.length:Nat))),(13,.d (.int .i64 (a+s:Nat)))],[some (kc (A++Y.take s++x::(Y.drop s++Z)))]⟩) (step:=fun _ _=> .inl ())
  (F:=fun _=>(.exit 2,⟨[(0,.tsl true 0 3 N),(10,.d (.int .i64 (a+1+Y.length:Nat))),(13,.d (.int .i64 (a+Y.length:Nat))),(58,.d (.bool false))],[some (kc (A++Y.take Y.length++x::(Y.drop Y.length++Z)))]⟩)) (R:=fun _=>(.ret,⟨[],[]⟩))
  (fun _=>⟨by simp,by
   generalize ((a+1+Y.length:Nat):Int)=gv1 at*
   generalize ((a+Y.length:Nat):Int)=gv2 at*
   simp[qsM,qBb,hw1]⟩)
  (fun _ s hs=>by
   have hsw:=qE4 (A++Y.take s++x::(Y.drop s++Z)) (a+s) (by rw[hlen];exact hn) (by rw[hlen];omega) (a+1+Y.length:Nat);rw[<-hA,right_step A Y Z x s hs,hA,hlen]at hsw;have hw:=qai (n:=a+s) (by omega);have hlt:((a+s:Nat):Int)<((a+Y.length:Nat):Int):=by omega
   generalize hc2:kc (A++Y.take (s+1)++x::(Y.drop (s+1)++Z))=c2 at hsw;generalize kc (A++Y.take s++x::(Y.drop s++Z))=c1 at hsw⊢
   exact⟨⟨[(0,.tsl true 0 3 N),(10,.d (.int .i64 (a+1+Y.length:Nat))),(13,.d (.int .i64 (a+s+1:Nat)))],[some c2]⟩,by
    generalize ((a+s+1:Nat):Int)=gv3 at*
    generalize ((a+s:Nat):Int)=gv4 at*
    generalize ((a+1+Y.length:Nat):Int)=gv1 at*
    generalize ((a+Y.length:Nat):Int)=gv2 at*
    simp[qsM,qBb,qBn,hw1,hlt];rw[hsw];simp[hw],by rw[<-hc2];simp[qad,qab,qba];omega⟩)
  Y.length () 0 ⟨[(0,.tsl true 0 3 N),(10,.d (.int .i64 (a+1+Y.length:Nat))),(13,.d (.int .i64 a))],[some (kc (A++x::(Y++Z)))]⟩ (by omega) (by simp[qad,qab,qba])
 rw[qjj,List.take_length,List.drop_length,List.nil_append]at h;exact h
theorem left_step(A X Z:List T)(y:T)(n:Nat)(hn:n<X.length):swp (A++X.take (n+1)++y::(X.drop (n+1)++Z)) (A.length+n) (A.length+n+1)=A++X.take n++y::(X.drop n++Z):=by
 have hl:(A++X.take n).length=A.length+n:=by simp;omega
 rw[<-List.take_append_getElem hn,List.drop_eq_getElem_cons hn,<-hl];have:=qpl (A++X.take n) [] (X.drop (n+1)++Z) X[n] y ((A++X.take n).length+1) rfl;simp only[List.nil_append]at this;rw[show A++(X.take n++[X[n]])++y::(X.drop (n+1)++Z)=A++X.take n++X[n]::y::(X.drop (n+1)++Z)by simp only[yh_,List.cons_append,List.nil_append],this];simp only[yh_,List.cons_append,List.nil_append]
theorem qCh(A X Z:List T)(y:T)(N a:Nat)(hA:A.length=a)(hN:(A++X++y::Z).length=N)(hn:N<=1099511627776):
 qbq XV [70,74,122,126] 1 [0,14,17] qsL ⟨[(0,.tsl true 0 3 N),(14,.d (.int .i64 a)),(17,.d (.int .i64 (a+X.length:Nat)))],[some (kc (A++X++y::Z))]⟩=
  some (.exit 6,⟨[(0,.tsl true 0 3 N),(14,.d (.int .i64 a)),(17,.d (.int .i64 a)),(110,.d (.bool false))],[some (kc (A++y::(X++Z)))]⟩):=by
 have hNl:A.length+X.length+(Z.length+1)=N:=by rw[<-hN];simp;omega
 have hlen:∀s,(A++X.take s++y::(X.drop s++Z)).length=N:=fun s=>by simp;omega
 have h:=qal (X:=XV) (T:=[70,74,122,126]) (L:=1) (live:=[0,14,17]) (b:=qsL) (n:=X.length) (γ:=Unit) (st:=fun(_:Unit) s=>⟨[(0,.tsl true 0 3 N),(14,.d (.int .i64 a)),(17,.d (.int .i64 (a+(X.length-s):Nat)))],[some (kc (A++X.take (X.length-s)++y::(X.drop (X.length-s)++Z)))]⟩) (step:=fun _ _=> .inl ())
  (F:=fun _=>(.exit 6,⟨[(0,.tsl true 0 3 N),(14,.d (.int .i64 a)),(17,.d (.int .i64 a)),(110,.d (.bool false))],[some (kc (A++X.take 0++y::(X.drop 0++Z)))]⟩)) (R:=fun _=>(.ret,⟨[],[]⟩))
  (fun _=>⟨by simp,by
   rw[Nat.sub_self,Nat.add_zero];simp[qsL,qtP]⟩)
  (fun _ s hs=>by
   obtain⟨n,hnn⟩:∃n,X.length-s=n+1:=⟨X.length-s-1,by omega⟩;have hn1:X.length-(s+1)=n:=by omega
   have hsw:=qE3 (A++X.take (n+1)++y::(X.drop (n+1)++Z)) (a+n) (by rw[hlen];exact hn) (by rw[hlen];omega) a;rw[<-hA,left_step A X Z y n (by omega),hA,hlen]at hsw;have hw:IntKind.i64.wrap (((a+n+1:Nat):Int)-1)=((a+n:Nat):Int):=by rw[wrap_i64 (by omega) (by omega)];omega
   have hlt:(a:Int)<((a+n+1:Nat):Int):=by omega
   rw[hnn,show a+(n+1)=a+n+1 by omega];generalize hc2:kc (A++X.take n++y::(X.drop n++Z))=c2 at hsw;generalize kc (A++X.take (n+1)++y::(X.drop (n+1)++Z))=c1 at hsw⊢
   exact⟨⟨[(0,.tsl true 0 3 N),(14,.d (.int .i64 a)),(17,.d (.int .i64 (a+n:Nat)))],[some c2]⟩,by
    generalize ((a+n+1:Nat):Int)=gv3 at*
    generalize ((a+n:Nat):Int)=gv4 at*
    simp[qsL,qtP,qBj,hlt];rw[hsw];simp[hw],by rw[<-hc2];simp[qad,qab,qba,hn1]⟩)
  X.length () 0 ⟨[(0,.tsl true 0 3 N),(14,.d (.int .i64 a)),(17,.d (.int .i64 (a+X.length:Nat)))],[some (kc (A++X++y::Z))]⟩ (by omega) (by simp[qad,qab,qba])
 rw[qjj]at h;simpa using h
theorem qJ4{S:List T}(h:Srt S){p:T}(hp:p∈S):∃s,S.getLast?=some s/\tle p s:=by
 have hne:S≠[]:=fun he=>by rw[he]at hp;simp at hp
 refine⟨S.getLast hne,List.getLast?_eq_some_getLast hne,?_⟩
 by_cases he:p=S.getLast hne
 ·rw[he];exact qu0 _
 ·have hd:p∈S.dropLast:=by
   have:=List.dropLast_concat_getLast hne;rw[<-this]at hp;rcases List.mem_append.1 hp with h|h
   ·exact h
   ·simp at h;exact absurd h he
  have hp':(S.dropLast++[S.getLast hne]).Pairwise tle:=by rw[List.dropLast_concat_getLast];exact h
  exact(List.pairwise_append.1 hp').2.2 p hd _ (by simp)
theorem qKb{S:List T}(h:Srt S){p:T}(hp:p∈S):∃s,S.head?=some s/\tle s p:=by
 cases S with
 |nil=>simp at hp
 |cons x r=>
  refine⟨x,rfl,?_⟩;rcases List.mem_cons.1 hp with rfl|hp
  ·exact qu0 _
  ·exact(List.pairwise_cons.1 h).1 p hp
theorem qGr{S R:List T}(hS:Srt S)(hR:Srt R)(h:∀s r,S.getLast?=some s->R.head?=some r->tle s r):∀p,p∈S->∀q,q∈R->tle p q:=by
 intro p hp q hq;obtain⟨s,h1,h2⟩:=qJ4 hS hp;obtain⟨r,h3,h4⟩:=qKb hR hq;exact qge (qge h2 (h s r h1 h3)) h4
theorem qAp{S1 S2:List T}{x:T}(h:Srt (S1++S2))(h1:∀s,S1.getLast?=some s->tle s x)(h2:∀s,S2.head?=some s->tle x s):Srt (S1++x::S2):=by
 obtain⟨p1,p2,p3⟩:=List.pairwise_append.1 h;have c1:=qGr (S:=S1) (R:=[x]) p1 (List.pairwise_singleton _ _) (fun s r hs hr=>by simp at hr;subst hr;exact h1 s hs);have c2:=qGr (S:=[x]) (R:=S2) (List.pairwise_singleton _ _) p2 (fun s r hs hr=>by simp at hs;subst hs;exact h2 r hr);refine List.pairwise_append.2 ⟨p1,List.pairwise_cons.2 ⟨fun q hq=>c2 x (by simp) q hq,p2⟩,fun p hp q hq=> ?_⟩;rcases List.mem_cons.1 hq with rfl|hq
 ·exact c1 p hp _ (by simp)
 ·exact p3 p hp q hq
theorem qu1(A X R:List T)(q:Nat)(hq:q<X.length):tAt (A++X++R) (A.length+q)=tAt X q:=by
 unfold tAt;rw[yh_,yd_ (by omega),Nat.add_sub_cancel_left,ye_ hq]
theorem qhG{X:List T}{t:Nat}{s:T}(ht:t<=X.length)(h:(X.take t).getLast?=some s):0<t/\s=tAt X (t-1):=by
 rw[List.getLast?_eq_getElem?,List.length_take,Nat.min_eq_left ht]at h;have hlt:=(List.getElem?_eq_some_iff.1 h).1;simp at hlt;rw[List.getElem?_take]at h;split at h
 ·exact⟨by omega,by simp[tAt,h]⟩
 ·simp at h
theorem qic{X:List T}{t:Nat}{s:T}(h:(X.drop t).head?=some s):t<X.length/\s=tAt X t:=by
 rw[List.head?_drop]at h;exact⟨(List.getElem?_eq_some_iff.1 h).1,by simp[tAt,h]⟩
theorem qB9(A Y Z:List T)(x:T)(a m b N:Nat)(ha:a=A.length)(hm:m=a+1)(hb:b=m+Y.length)(hN:N=(A++x::(Y++Z)).length)(hn:N<=1099511627776)(hin:∀t,t∈A++x::(Y++Z)->t.inner<=1099511627776)(hY:Srt Y):
 ∃W:List T,W.Perm (x::Y)/\Srt W/\qac XV 173 [.tsl true 0 3 N,.d (.int .i64 a),.d (.int .i64 m),.d (.int .i64 b),.fn 6 []] [some (kc (A++x::(Y++Z)))]=some (.d (.tup []),[some (kc (A++W++Z))]):=by
 have hNl:A.length+1+Y.length+Z.length=N:=by rw[hN];simp;omega
 have hlo:=qGI (A++x::(Y++Z)) a (by rw[<-hN];exact hn) (by rw[<-hN];omega) hin Y.length m b (by omega) (by omega) (by rw[<-hN];omega);have hxa:tAt (A++x::(Y++Z)) a=x:=qv0 _ _ _ _ ha;have hat:∀q,q<Y.length->tAt (A++x::(Y++Z)) (m+q)=tAt Y q:=fun q hq=>by
  have:=qu1 (A++[x]) Y Z q hq;simp only[yg_,List.length_cons,List.length_nil,yh_,List.cons_append,List.nil_append]at this;rw[hm,ha];exact this
 obtain⟨s1,s2,s3,s4⟩:=qmw (fun h=>decide (T.cmp (tAt (A++x::(Y++Z)) h) (tAt (A++x::(Y++Z)) a)<0)) Y.length m b (by omega) (by omega);generalize bs (fun h=>decide (T.cmp (tAt (A++x::(Y++Z)) h) (tAt (A++x::(Y++Z)) a)<0)) Y.length m b=r at hlo s1 s2 s3 s4;rw[hxa]at s3 s4;obtain⟨t,rfl⟩:∃t,r=m+t:=⟨r-m,by omega⟩;have htl:t<=Y.length:=by omega
 have hY12:Y.take t++Y.drop t=Y:=List.take_append_drop _ _;have hl1:(Y.take t).length=t:=by simp;omega
 have hri:=qxl A (Y.take t) (Y.drop t++Z) x N a ha.symm (by rw[hN,<-yh_ (Y.take t),hY12]) hn;rw[<-yh_ (Y.take t),hY12,hl1,show a+1+t=m+t by omega]at hri;refine⟨Y.take t++x::Y.drop t,?_,qAp (by rw[hY12];exact hY) (fun s hs=> ?_) (fun s hs=> ?_),?_⟩
 ·refine List.perm_middle.trans ?_
  rw[hY12]
 ·obtain⟨h1,h2⟩:=qhG htl hs
  rcases s3 with s3|s3
  ·omega
  ·rw[show m+t-1=m+(t-1)by omega,hat _ (by omega)]at s3
   rw[h2];exact qft (by simpa using s3)
 ·obtain⟨h1,h2⟩:=qic hs
  rcases s4 with s4|s4
  ·omega
  ·rw[hat _ h1]at s4
   rw[h2];exact qcn (by simpa using s4)
 ·have hfin:A++(Y.take t++x::Y.drop t)++Z=A++Y.take t++x::(Y.drop t++Z):=by simp only[yh_,List.cons_append]
  rw[hfin];rw[qah XV _ _ _ qEV rfl qkx rfl];rw[<-hN]at hlo;have w1:IntKind.i64.wrap ((m:Int)-a)=1:=by rw[wrap_i64 (by omega) (by omega)];omega
  generalize kc (A++Y.take t++x::(Y.drop t++Z))=c2 at hri⊢
  generalize kc (A++x::(Y++Z))=c1 at hlo hri⊢
  generalize ((m+t:Nat):Int)=gv1 at*
  generalize ((a+t:Nat):Int)=gv2 at*
  simp[qEV,qru,qHr,qHq,w1];rw[hlo];simp[qHp];rw[hri];simp
theorem qxW(A X Z:List T)(y:T)(a m b N:Nat)(ha:a=A.length)(hm:m=a+X.length)(hb:b=m+1)(hX2:2<=X.length)(hN:N=(A++X++y::Z).length)(hn:N<=1099511627776)(hin:∀t,t∈A++X++y::Z->t.inner<=1099511627776)(hX:Srt X):
 ∃W:List T,W.Perm (X++[y])/\Srt W/\qac XV 173 [.tsl true 0 3 N,.d (.int .i64 a),.d (.int .i64 m),.d (.int .i64 b),.fn 6 []] [some (kc (A++X++y::Z))]=some (.d (.tup []),[some (kc (A++W++Z))]):=by
 have hNl:A.length+X.length+(Z.length+1)=N:=by rw[hN];simp;omega
 have hlo:=qGH (A++X++y::Z) m (by rw[<-hN];exact hn) (by rw[<-hN];omega) hin X.length a m (by omega) (by omega) (by rw[<-hN];omega);have hxm:tAt (A++X++y::Z) m=y:=qv0 _ _ _ _ (by simp;omega);have hat:∀q,q<X.length->tAt (A++X++y::Z) (a+q)=tAt X q:=fun q hq=>by rw[ha];exact qu1 A X (y::Z) q hq
 obtain⟨s1,s2,s3,s4⟩:=qmw (fun h=> !decide (T.cmp (tAt (A++X++y::Z) m) (tAt (A++X++y::Z) h)<0)) X.length a m (by omega) (by omega);generalize bs (fun h=> !decide (T.cmp (tAt (A++X++y::Z) m) (tAt (A++X++y::Z) h)<0)) X.length a m=r at hlo s1 s2 s3 s4;rw[hxm]at s3 s4;obtain⟨t,rfl⟩:∃t,r=a+t:=⟨r-a,by omega⟩;have htl:t<=X.length:=by omega
 have hX12:X.take t++X.drop t=X:=List.take_append_drop _ _;have hl1:(X.take t).length=t:=by simp;omega
 have hl2:(X.drop t).length=X.length-t:=by simp
 have hassoc:A++X.take t++X.drop t++y::Z=A++X++y::Z:=by rw[yh_ A,hX12]
 have hri:=qCh (A++X.take t) (X.drop t) Z y N (a+t) (by simp;omega) (by rw[hassoc,hN]) hn;rw[hassoc,hl2,show a+t+(X.length-t)=m by omega]at hri;refine⟨X.take t++y::X.drop t,?_,qAp (by rw[hX12];exact hX) (fun s hs=> ?_) (fun s hs=> ?_),?_⟩
 ·refine List.perm_middle.trans ?_
  rw[hX12];exact List.perm_append_comm (l₁:=[y]) (l₂:=X)
 ·obtain⟨h1,h2⟩:=qhG htl hs
  rcases s3 with s3|s3
  ·omega
  ·rw[show a+t-1=a+(t-1)by omega,hat _ (by omega)]at s3
   rw[h2];exact qcn (by simpa using s3)
 ·obtain⟨h1,h2⟩:=qic hs
  rcases s4 with s4|s4
  ·omega
  ·rw[hat _ h1]at s4
   rw[h2];exact qft (by simpa using s4)
 ·have hfin:A++(X.take t++y::X.drop t)++Z=A++X.take t++y::(X.drop t++Z):=by simp only[yh_,List.cons_append]
  rw[hfin];rw[qah XV _ _ _ qEV rfl qkx rfl];rw[<-hN]at hlo;have w1:IntKind.i64.wrap ((m:Int)-a)=(X.length:Int):=by rw[wrap_i64 (by omega) (by omega)];omega
  have n1:((X.length:Int)==1)=false:=by simp;omega
  have w2:IntKind.i64.wrap ((b:Int)-m)=1:=by rw[wrap_i64 (by omega) (by omega)];omega
  generalize kc (A++X.take t++y::(X.drop t++Z))=c2 at hri⊢
  generalize kc (A++X++y::Z)=c1 at hlo hri⊢
  generalize ((a+t:Nat):Int)=gv2 at*
  generalize (X.length:Int)=vx at*
  simp[qEV,qru,qpJ,qBm,qBl,w1,w2,n1];rw[hlo];simp[qBk];rw[hri];simp
theorem qxV(N:Nat)(ga gm gb gmid gst vn ve:Int)(k0 k1 k2 k3:List AV)(w5:IntKind.i64.wrap (vn-gst)=ve)
 (hA:(gst<gm/\gm<ve/\qac XV 174 [.tsl true 0 3 N,.d (.int .i64 gst),.d (.int .i64 gm),.d (.int .i64 ve),.fn 6 []] [some k0]=some (.d (.tup []),[some k1]))\/(gst<gm/\¬gm<ve/\k0=k1)\/(¬gst<gm/\k0=k1))
 (hB:(ga<gst/\gst<gmid/\qac XV 173 [.tsl true 0 3 N,.d (.int .i64 ga),.d (.int .i64 gst),.d (.int .i64 gmid),.fn 6 []] [some k1]=some (.d (.tup []),[some k2]))\/(ga<gst/\¬gst<gmid/\k1=k2)\/(¬ga<gst/\k1=k2))
 (hC:(gmid<ve/\ve<gb/\qac XV 173 [.tsl true 0 3 N,.d (.int .i64 gmid),.d (.int .i64 ve),.d (.int .i64 gb),.fn 6 []] [some k2]=some (.d (.tup []),[some k3]))\/(gmid<ve/\¬ve<gb/\k2=k3)\/(¬gmid<ve/\k2=k3)) (x21 x22 x151:AV):
 ∃r',qay XV [70,74,122,126] (.seq (.region false 0 [0,1,2,3,4,18,20,24] qlF) (.seq (.seq (.region false 0 [0,1,2,3,4,18,20,24,185] qlE) (.cond (.t 185) (.region false 0 [0,1,3,4,18,20,24] qlD) .skip)) (.seq (.seq (.region false 0 [0,1,3,4,18,20,24,199] qlC) (.cond (.t 199) (.region false 0 [0,3,4,18,24] qlB) .skip)) (.seq (.region false 0 [0,3,4,18,24,213] qlA) (.cond (.t 213) (.region false 0 [] qlz) .skip)))))
  ⟨[(0,.tsl true 0 3 N),(1,.d (.int .i64 ga)),(2,.d (.int .i64 gm)),(3,.d (.int .i64 gb)),(4,.fn 6 []),(18,.d (.int .i64 gmid)),(19,.d (.int .i64 vn)),(20,.d (.int .i64 gst)),(21,x21),(22,x22),(151,x151)],[some k0]⟩=some (.normal,⟨r',[some k3]⟩):=by
 rcases hA with⟨a1,a2,a3⟩|⟨a1,a2,rfl⟩|⟨a1,rfl⟩<;>rcases hB with⟨b1,b2,b3⟩|⟨b1,b2,rfl⟩|⟨b1,rfl⟩<;>rcases hC with⟨d1,d2,d3⟩|⟨d1,d2,rfl⟩|⟨d1,rfl⟩<;>
  exact⟨_,by simp[qlF,qlE,qlD,qlC,qlB,qlA,qlz,w5, *];rfl⟩
theorem qt9(N:Nat)(ga gm gb gmid gst vn vn1 vb vx vy vab:Int)(k0 k3:List AV)(w1:IntKind.i64.wrap (gm-ga)=vx)(n1:(vx==1)=false)(w2:IntKind.i64.wrap (gb-gm)=vy)(n2:(vy==1)=false)
 (m1:IntKind.i64.wrap (ga+gb)=vab) (m2:IntKind.u64.wrap vab=vab) (m3:vab.fdiv 2=gmid) (m4:IntKind.i64.wrap gmid=gmid) (w3:IntKind.i64.wrap (gmid+gm)=vn) (w4:IntKind.i64.wrap (vn-1)=vn1) (w6:gmid<gm->IntKind.i64.wrap (vn-gb)=vb)
 (hlo:qbq XV [70,74,122,126] 1 [0,1,2,3,4,18,19,20,21,22] qik ⟨[(0,.tsl true 0 3 N),(1,.d (.int .i64 ga)),(2,.d (.int .i64 gm)),(3,.d (.int .i64 gb)),(4,.fn 6 []),(18,.d (.int .i64 gmid)),(19,.d (.int .i64 vn)),(20,.d (.int .i64 (if gmid<gm then vb else ga))),(21,.d (.int .i64 (if gmid<gm then gmid else gm))),(22,.d (.int .i64 vn1))],[some k0]⟩=
  some (.exit 8,⟨[(0,.tsl true 0 3 N),(1,.d (.int .i64 ga)),(2,.d (.int .i64 gm)),(3,.d (.int .i64 gb)),(4,.fn 6 []),(18,.d (.int .i64 gmid)),(19,.d (.int .i64 vn)),(20,.d (.int .i64 gst)),(21,.d (.int .i64 gst)),(22,.d (.int .i64 vn1)),(151,.d (.bool false))],[some k0]⟩))
 (tail:∃r',qay XV [70,74,122,126] (.seq (.region false 0 [0,1,2,3,4,18,20,24] qlF) (.seq (.seq (.region false 0 [0,1,2,3,4,18,20,24,185] qlE) (.cond (.t 185) (.region false 0 [0,1,3,4,18,20,24] qlD) .skip)) (.seq (.seq (.region false 0 [0,1,3,4,18,20,24,199] qlC) (.cond (.t 199) (.region false 0 [0,3,4,18,24] qlB) .skip)) (.seq (.region false 0 [0,3,4,18,24,213] qlA) (.cond (.t 213) (.region false 0 [] qlz) .skip)))))
  ⟨[(0,.tsl true 0 3 N),(1,.d (.int .i64 ga)),(2,.d (.int .i64 gm)),(3,.d (.int .i64 gb)),(4,.fn 6 []),(18,.d (.int .i64 gmid)),(19,.d (.int .i64 vn)),(20,.d (.int .i64 gst)),(21,.d (.int .i64 gst)),(22,.d (.int .i64 vn1)),(151,.d (.bool false))],[some k0]⟩=some (.normal,⟨r',[some k3]⟩)):
 qac XV 173 [.tsl true 0 3 N,.d (.int .i64 ga),.d (.int .i64 gm),.d (.int .i64 gb),.fn 6 []] [some k0]=some (.d (.tup []),[some k3]):=by
 obtain⟨r',t1⟩:=tail;generalize hT:(.seq (.region false 0 [0,1,2,3,4,18,20,24] qlF) (.seq (.seq (.region false 0 [0,1,2,3,4,18,20,24,185] qlE) (.cond (.t 185) (.region false 0 [0,1,3,4,18,20,24] qlD) .skip)) (.seq (.seq (.region false 0 [0,1,3,4,18,20,24,199] qlC) (.cond (.t 199) (.region false 0 [0,3,4,18,24] qlB) .skip)) (.seq (.region false 0 [0,3,4,18,24,213] qlA) (.cond (.t 213) (.region false 0 [] qlz) .skip)))):VCode)=code at t1;rw[qah XV _ _ _ qEV rfl qkx rfl];unfold qEV;rw[hT]
 by_cases hmm:gmid<gm
 ·have w6':=w6 hmm
  simp only[if_pos hmm]at hlo;simp[qru,qpJ,qtO,qtN,qtM,qtL,qBi,qBh,qtK,w1,n1,w2,n2,m1,m2,m3,m4,w3,w4,w6',hmm,qeh,qdr];rw[hlo];simp[t1]
 ·simp only[if_neg hmm]at hlo
  simp[qru,qpJ,qtO,qtN,qtM,qtL,qBg,qBf,qtK,w1,n1,w2,n2,m1,m2,m3,m4,w3,w4,hmm,qeh,qdr];rw[hlo];simp[t1]
theorem qB8(A X1 X2 Y1 Y2 Z W1 W2:List T)(a m b mid st N:Nat)(ha:a=A.length)(hm:m=a+X1.length+X2.length)(hb:b=m+Y1.length+Y2.length)(hX:2<=X1.length+X2.length)(hY:2<=Y1.length+Y2.length)
 (hmid:mid=(a+b)/2) (hst:st=a+X1.length) (h1:mid=st+Y1.length) (hN:N=(A++(X1++X2)++(Y1++Y2)++Z).length) (hn:N<=1099511627776)
 (hlo:∀(i j:Nat),(if mid<m then i=mid+m-b/\j=mid else i=a/\j=m)->qbq XV [70,74,122,126] 1 [0,1,2,3,4,18,19,20,21,22] qik ⟨[(0,.tsl true 0 3 N),(1,.d (.int .i64 a)),(2,.d (.int .i64 m)),(3,.d (.int .i64 b)),(4,.fn 6 []),(18,.d (.int .i64 mid)),(19,.d (.int .i64 (mid+m:Nat))),(20,.d (.int .i64 i)),(21,.d (.int .i64 j)),(22,.d (.int .i64 (mid+m-1:Nat)))],[some (kc (A++(X1++X2)++(Y1++Y2)++Z))]⟩=
  some (.exit 8,⟨[(0,.tsl true 0 3 N),(1,.d (.int .i64 a)),(2,.d (.int .i64 m)),(3,.d (.int .i64 b)),(4,.fn 6 []),(18,.d (.int .i64 mid)),(19,.d (.int .i64 (mid+m:Nat))),(20,.d (.int .i64 st)),(21,.d (.int .i64 st)),(22,.d (.int .i64 (mid+m-1:Nat))),(151,.d (.bool false))],[some (kc (A++(X1++X2)++(Y1++Y2)++Z))]⟩))
 (hr:X2≠[]->Y1≠[]->qac XV 174 [.tsl true 0 3 N,.d (.int .i64 st),.d (.int .i64 m),.d (.int .i64 (m+Y1.length:Nat)),.fn 6 []] [some (kc (A++(X1++X2)++(Y1++Y2)++Z))]=some (.d (.tup []),[some (kc (A++(X1++Y1)++(X2++Y2)++Z))]))
 (h2:(X1≠[]/\Y1≠[])->qac XV 173 [.tsl true 0 3 N,.d (.int .i64 a),.d (.int .i64 st),.d (.int .i64 mid),.fn 6 []] [some (kc (A++(X1++Y1)++(X2++Y2)++Z))]=some (.d (.tup []),[some (kc (A++W1++(X2++Y2)++Z))]))
 (h2':¬(X1≠[]/\Y1≠[])->W1=X1++Y1)
 (h3:(X2≠[]/\Y2≠[])->qac XV 173 [.tsl true 0 3 N,.d (.int .i64 mid),.d (.int .i64 (m+Y1.length:Nat)),.d (.int .i64 b),.fn 6 []] [some (kc (A++W1++(X2++Y2)++Z))]=some (.d (.tup []),[some (kc (A++W1++W2++Z))]))
 (h3':¬(X2≠[]/\Y2≠[])->W2=X2++Y2):
 qac XV 173 [.tsl true 0 3 N,.d (.int .i64 a),.d (.int .i64 m),.d (.int .i64 b),.fn 6 []] [some (kc (A++(X1++X2)++(Y1++Y2)++Z))]=some (.d (.tup []),[some (kc (A++W1++W2++Z))]):=by
 have hNl:A.length+X1.length+X2.length+Y1.length+Y2.length+Z.length=N:=by rw[hN];simp;omega
 have ne:∀l:List T,l≠[]↔0<l.length:=fun l=>by cases l<;>simp
 have w1:IntKind.i64.wrap ((m:Int)-a)=((X1.length+X2.length:Nat):Int):=by rw[wrap_i64 (by omega) (by omega)];omega
 have n1:(((X1.length+X2.length:Nat):Int)==1)=false:=by simp;omega
 have w2:IntKind.i64.wrap ((b:Int)-m)=((Y1.length+Y2.length:Nat):Int):=by rw[wrap_i64 (by omega) (by omega)];omega
 have n2:(((Y1.length+Y2.length:Nat):Int)==1)=false:=by simp;omega
 obtain⟨m1,m2,m3,m4⟩:=qhV a b (by omega);rw[<-hmid]at m3 m4;have w3:IntKind.i64.wrap ((mid:Int)+m)=((mid+m:Nat):Int):=by rw[wrap_i64 (by omega) (by omega)];omega
 have w4:IntKind.i64.wrap (((mid+m:Nat):Int)-1)=((mid+m-1:Nat):Int):=by rw[wrap_i64 (by omega) (by omega)];omega
 have w5:IntKind.i64.wrap (((mid+m:Nat):Int)-st)=((m+Y1.length:Nat):Int):=by rw[wrap_i64 (by omega) (by omega)];omega
 have w6:mid<m->IntKind.i64.wrap (((mid+m:Nat):Int)-b)=((mid+m-b:Nat):Int):=fun h=>by rw[wrap_i64 (by omega) (by omega)];omega
 have hr':(X2≠[]/\Y1≠[])\/A++(X1++X2)++(Y1++Y2)++Z=A++(X1++Y1)++(X2++Y2)++Z:=by
  by_cases e1:X2=[]
  ·right;subst e1;simp
  ·by_cases e2:Y1=[]
   ·right;subst e2;simp
   ·exact .inl ⟨e1,e2⟩
 have c1:((st:Int)<m)↔X2≠[]:=by rw[ne];omega
 have c2:((m:Int)<((m+Y1.length:Nat):Int))↔Y1≠[]:=by rw[ne];omega
 have c3:((a:Int)<st)↔X1≠[]:=by rw[ne];omega
 have c4:((st:Int)<mid)↔Y1≠[]:=by rw[ne];omega
 have c5:((mid:Int)<((m+Y1.length:Nat):Int))↔X2≠[]:=by rw[ne];omega
 have c6:(((m+Y1.length:Nat):Int)<b)↔Y2≠[]:=by rw[ne];omega
 have step2:(¬(X1≠[]/\Y1≠[]))->kc (A++(X1++Y1)++(X2++Y2)++Z)=kc (A++W1++(X2++Y2)++Z):=fun h=>by rw[h2' h]
 have step3:(¬(X2≠[]/\Y2≠[]))->kc (A++W1++(X2++Y2)++Z)=kc (A++W1++W2++Z):=fun h=>by rw[h3' h]
 have step1:(¬(X2≠[]/\Y1≠[]))->kc (A++(X1++X2)++(Y1++Y2)++Z)=kc (A++(X1++Y1)++(X2++Y2)++Z):=fun h=>by
  rcases hr' with h1|h1
  ·exact absurd h1 h
  ·rw[h1]
 have hA:((st:Int)<m/\(m:Int)<((m+Y1.length:Nat):Int)/\qac XV 174 [.tsl true 0 3 N,.d (.int .i64 st),.d (.int .i64 m),.d (.int .i64 (m+Y1.length:Nat)),.fn 6 []] [some (kc (A++(X1++X2)++(Y1++Y2)++Z))]=some (.d (.tup []),[some (kc (A++(X1++Y1)++(X2++Y2)++Z))]))\/((st:Int)<m/\¬(m:Int)<((m+Y1.length:Nat):Int)/\kc (A++(X1++X2)++(Y1++Y2)++Z)=kc (A++(X1++Y1)++(X2++Y2)++Z))\/(¬(st:Int)<m/\kc (A++(X1++X2)++(Y1++Y2)++Z)=kc (A++(X1++Y1)++(X2++Y2)++Z)):=by
  by_cases e1:X2=[]
  ·exact .inr (.inr ⟨fun h=>(c1.1 h) e1,step1 fun h=>h.1 e1⟩)
  ·by_cases e2:Y1=[]
   ·exact .inr (.inl ⟨c1.2 e1,fun h=>(c2.1 h) e2,step1 fun h=>h.2 e2⟩)
   ·exact .inl ⟨c1.2 e1,c2.2 e2,hr e1 e2⟩
 have hB:((a:Int)<st/\(st:Int)<mid/\qac XV 173 [.tsl true 0 3 N,.d (.int .i64 a),.d (.int .i64 st),.d (.int .i64 mid),.fn 6 []] [some (kc (A++(X1++Y1)++(X2++Y2)++Z))]=some (.d (.tup []),[some (kc (A++W1++(X2++Y2)++Z))]))\/((a:Int)<st/\¬(st:Int)<mid/\kc (A++(X1++Y1)++(X2++Y2)++Z)=kc (A++W1++(X2++Y2)++Z))\/(¬(a:Int)<st/\kc (A++(X1++Y1)++(X2++Y2)++Z)=kc (A++W1++(X2++Y2)++Z)):=by
  by_cases e1:X1=[]
  ·exact .inr (.inr ⟨fun h=>(c3.1 h) e1,step2 fun h=>h.1 e1⟩)
  ·by_cases e2:Y1=[]
   ·exact .inr (.inl ⟨c3.2 e1,fun h=>(c4.1 h) e2,step2 fun h=>h.2 e2⟩)
   ·exact .inl ⟨c3.2 e1,c4.2 e2,h2 ⟨e1,e2⟩⟩
 have hC:((mid:Int)<((m+Y1.length:Nat):Int)/\((m+Y1.length:Nat):Int)<b/\qac XV 173 [.tsl true 0 3 N,.d (.int .i64 mid),.d (.int .i64 (m+Y1.length:Nat)),.d (.int .i64 b),.fn 6 []] [some (kc (A++W1++(X2++Y2)++Z))]=some (.d (.tup []),[some (kc (A++W1++W2++Z))]))\/((mid:Int)<((m+Y1.length:Nat):Int)/\¬((m+Y1.length:Nat):Int)<b/\kc (A++W1++(X2++Y2)++Z)=kc (A++W1++W2++Z))\/(¬(mid:Int)<((m+Y1.length:Nat):Int)/\kc (A++W1++(X2++Y2)++Z)=kc (A++W1++W2++Z)):=by
  by_cases e1:X2=[]
  ·exact .inr (.inr ⟨fun h=>(c5.1 h) e1,step3 fun h=>h.1 e1⟩)
  ·by_cases e2:Y2=[]
   ·exact .inr (.inl ⟨c5.2 e1,fun h=>(c6.1 h) e2,step3 fun h=>h.2 e2⟩)
   ·exact .inl ⟨c5.2 e1,c6.2 e2,h3 ⟨e1,e2⟩⟩
 refine qt9 N a m b mid st (mid+m:Nat) (mid+m-1:Nat) (mid+m-b:Nat) (X1.length+X2.length:Nat) (Y1.length+Y2.length:Nat) (a+b:Nat) _ _ w1 n1 w2 n2 m1 m2 m3 m4 w3 w4 (fun h=>w6 (by omega)) ?_ (qxV N a m b mid st (mid+m:Nat) (m+Y1.length:Nat) _ _ _ _ w5 hA hB hC _ _ _)
 by_cases h:mid<m
 ·have h':(mid:Int)<m:=by omega
  rw[if_pos h',if_pos h'];exact hlo (mid+m-b) mid (by rw[if_pos h];exact⟨rfl,rfl⟩)
 ·have h':¬(mid:Int)<m:=by omega
  rw[if_neg h',if_neg h'];exact hlo a m (by rw[if_neg h];exact⟨rfl,rfl⟩)
theorem qkD:∀(k:Nat) (A X Y Z:List T) (a m b N:Nat),X.length+Y.length<=k->0<X.length->0<Y.length->a=A.length->m=a+X.length->b=m+Y.length->N=(A++X++Y++Z).length->N<=1099511627776->(∀t,t∈A++X++Y++Z->t.inner<=1099511627776)->Srt X->Srt Y->
 ∃W:List T,W.Perm (X++Y)/\Srt W/\qac XV 173 [.tsl true 0 3 N,.d (.int .i64 a),.d (.int .i64 m),.d (.int .i64 b),.fn 6 []] [some (kc (A++X++Y++Z))]=some (.d (.tup []),[some (kc (A++W++Z))]):=by
 intro k
 induction k with
 |zero=>intro A X Y Z a m b N hk hx hy;omega
 |succ k ih=>
  intro A X Y Z a m b N hk hx hy ha hm hb hN hn hin hX hY;have hNl:A.length+X.length+Y.length+Z.length=N:=by rw[hN];simp;omega
  by_cases hx1:X.length=1
  ·obtain⟨x,rfl⟩:∃x,X=[x]:=List.length_eq_one_iff.1 hx1
   have e:A++[x]++Y++Z=A++x::(Y++Z):=by simp
   rw[e]at hN hin⊢
   obtain⟨W,w1,w2,w3⟩:=qB9 A Y Z x a m b N ha (by simpa using hm) hb hN hn hin hY;exact⟨W,by simpa using w1,w2,w3⟩
  by_cases hy1:Y.length=1
  ·obtain⟨y,rfl⟩:∃y,Y=[y]:=List.length_eq_one_iff.1 hy1
   have e:A++X++[y]++Z=A++X++y::Z:=by simp
   rw[e]at hN hin⊢
   exact qxW A X Z y a m b N ha hm (by simpa using hb) (by omega) hN hn hin hX
  obtain⟨mid,hmid⟩:∃mid,mid=(a+b)/2:=⟨_,rfl⟩;have hxat:∀q,q<X.length->tAt (A++X++Y++Z) (a+q)=tAt X q:=fun q hq=>by
   rw[ha,yh_ (A++X)];exact qu1 A X (Y++Z) q hq
  have hyat:∀q,q<Y.length->tAt (A++X++Y++Z) (m+q)=tAt Y q:=fun q hq=>by
   have:=qu1 (A++X) Y Z q hq;rw[yg_,<-ha,<-hm]at this;exact this
  have key:∀i j:Nat,(if mid<m then i=mid+m-b/\j=mid else i=a/\j=m)->∃st,i<=st/\st<=j/\(st=i\/tle (tAt (A++X++Y++Z) (st-1)) (tAt (A++X++Y++Z) (mid+m-1-(st-1))))/\(st=j\/tle (tAt (A++X++Y++Z) (mid+m-1-st)) (tAt (A++X++Y++Z) st))/\
   qbq XV [70,74,122,126] 1 [0,1,2,3,4,18,19,20,21,22] qik ⟨[(0,.tsl true 0 3 N),(1,.d (.int .i64 a)),(2,.d (.int .i64 m)),(3,.d (.int .i64 b)),(4,.fn 6 []),(18,.d (.int .i64 mid)),(19,.d (.int .i64 (mid+m:Nat))),(20,.d (.int .i64 i)),(21,.d (.int .i64 j)),(22,.d (.int .i64 (mid+m-1:Nat)))],[some (kc (A++X++Y++Z))]⟩=
    some (.exit 8,⟨[(0,.tsl true 0 3 N),(1,.d (.int .i64 a)),(2,.d (.int .i64 m)),(3,.d (.int .i64 b)),(4,.fn 6 []),(18,.d (.int .i64 mid)),(19,.d (.int .i64 (mid+m:Nat))),(20,.d (.int .i64 st)),(21,.d (.int .i64 st)),(22,.d (.int .i64 (mid+m-1:Nat))),(151,.d (.bool false))],[some (kc (A++X++Y++Z))]⟩):=by
   intro i j hij;have hij2:i<=j/\j<=N/\∀c,i<=c->c<j->c<=mid+m-1/\mid+m-1-c<N:=by
    split at hij
    ·obtain⟨rfl,rfl⟩:=hij
     exact⟨by omega,by omega,fun c h1 h2=>by omega⟩
    ·obtain⟨rfl,rfl⟩:=hij
     exact⟨by omega,by omega,fun c h1 h2=>by omega⟩
   have hl:=qGG (A++X++Y++Z) (mid+m-1) a m b mid (mid+m:Nat) (by rw[<-hN];exact hn) (by omega) hin (j-i) i j hij2.1 (Nat.le_refl _) (by rw[<-hN];exact hij2.2.1) (by rw[<-hN];exact hij2.2.2);obtain⟨s1,s2,s3,s4⟩:=qmw (fun c=> !decide (T.cmp (tAt (A++X++Y++Z) (mid+m-1-c)) (tAt (A++X++Y++Z) c)<0)) (j-i) i j hij2.1 (Nat.le_refl _);rw[<-hN]at hl;refine⟨_,s1,s2,s3.imp_right fun h=>qcn (by simpa using h),s4.imp_right fun h=>qft (by simpa using h),hl⟩
  obtain⟨i0,j0,hif⟩:∃i j:Nat,(if mid<m then i=mid+m-b/\j=mid else i=a/\j=m):=by
   by_cases h:mid<m
   ·exact⟨mid+m-b,mid,by rw[if_pos h];exact⟨rfl,rfl⟩⟩
   ·exact⟨a,m,by rw[if_neg h];exact⟨rfl,rfl⟩⟩
  obtain⟨st,q1,q2,q3,q4,hlo⟩:=key i0 j0 hif;clear key;have hb1:a<=st/\st<=m/\st<=mid/\m<=mid+m-st/\mid+m-st<=b:=by
   split at hif
   ·obtain⟨rfl,rfl⟩:=hif;omega
   ·obtain⟨rfl,rfl⟩:=hif;omega
  obtain⟨t,ht⟩:∃t,st=a+t:=⟨st-a,by omega⟩;obtain⟨u,hu⟩:∃u,mid+m-st=m+u:=⟨mid-st,by omega⟩;have htl:t<=X.length:=by omega
  have hul:u<=Y.length:=by omega
  have hX12:X.take t++X.drop t=X:=List.take_append_drop _ _;have hY12:Y.take u++Y.drop u=Y:=List.take_append_drop _ _;have lx1:(X.take t).length=t:=by simp;omega
  have lx2:(X.drop t).length=X.length-t:=by simp
  have ly1:(Y.take u).length=u:=by simp;omega
  have ly2:(Y.drop u).length=Y.length-u:=by simp
  have ne:∀l:List T,l≠[]->0<l.length:=fun l h=>List.length_pos_iff.2 h
  obtain⟨sx1,sx2,sx12⟩:=List.pairwise_append.1 (show Srt (X.take t++X.drop t)by rw[hX12];exact hX);obtain⟨sy1,sy2,sy12⟩:=List.pairwise_append.1 (show Srt (Y.take u++Y.drop u)by rw[hY12];exact hY);have F1:∀p,p∈X.take t->∀q,q∈Y.drop u->tle p q:=qGr sx1 sy2 fun s r hs hr=>by
   obtain⟨h1,h2⟩:=qhG htl hs;obtain⟨h3,h4⟩:=qic hr;rcases q3 with q3|q3
   ·exfalso
    split at hif
    ·obtain⟨rfl,rfl⟩:=hif;omega
    ·obtain⟨rfl,rfl⟩:=hif;omega
   ·rw[show st-1=a+(t-1)by omega,hxat _ (by omega),show mid+m-1-(a+(t-1))=m+u by omega,hyat _ h3]at q3
    rw[h2,h4];exact q3
  have F2:∀p,p∈Y.take u->∀q,q∈X.drop t->tle p q:=qGr sy1 sx2 fun s r hs hr=>by
   obtain⟨h1,h2⟩:=qhG hul hs;obtain⟨h3,h4⟩:=qic hr;rcases q4 with q4|q4
   ·exfalso
    split at hif
    ·obtain⟨rfl,rfl⟩:=hif;omega
    ·obtain⟨rfl,rfl⟩:=hif;omega
   ·rw[show mid+m-1-st=m+(u-1)by omega,hyat _ (by omega),show st=a+t from ht,hxat _ h3]at q4
    rw[h2,h4];exact q4
  generalize hX1:X.take t=X1 at*
  generalize hX2:X.drop t=X2 at*
  generalize hY1:Y.take u=Y1 at*
  generalize hY2:Y.drop u=Y2 at*
  clear hxat hyat q3 q4;subst hX12;subst hY12;have L:∃W1:List T,W1.Perm (X1++Y1)/\Srt W1/\((X1≠[]/\Y1≠[])->qac XV 173 [.tsl true 0 3 N,.d (.int .i64 a),.d (.int .i64 st),.d (.int .i64 mid),.fn 6 []] [some (kc (A++(X1++Y1)++(X2++Y2)++Z))]=some (.d (.tup []),[some (kc (A++W1++(X2++Y2)++Z))]))/\(¬(X1≠[]/\Y1≠[])->W1=X1++Y1):=by
   by_cases h:X1≠[]/\Y1≠[]
   ·obtain⟨W,w1,w2,w3⟩:=ih A X1 Y1 (X2++Y2++Z) a st mid N (by simp at hk hm hb;omega) (ne _ h.1) (ne _ h.2) ha (by omega) (by simp at hm hb;omega) (by simp at hNl⊢;omega) hn (fun x hx=>hin x (by
     simp only[List.mem_append]at hx⊢
     rcases hx with((h|h)|h)|((h|h)|h)<;>simp[h])) sx1 sy1
    refine⟨W,w1,w2,fun _=> ?_,fun h'=>absurd h h'⟩;have e1:A++(X1++Y1)++(X2++Y2)++Z=A++X1++Y1++(X2++Y2++Z):=by simp
    have e2:A++W++(X2++Y2)++Z=A++W++(X2++Y2++Z):=by simp
    rw[e1,e2];exact w3
   ·refine⟨X1++Y1,List.Perm.refl _,?_,fun h'=>absurd h' h,fun _=>rfl⟩
    by_cases e1:X1=[]
    ·subst e1;rw[List.nil_append];exact sy1
    ·by_cases e2:Y1=[]
     ·subst e2;rw[List.append_nil];exact sx1
     ·exact absurd ⟨e1,e2⟩ h
  obtain⟨W1,p1,s1,c1,c1'⟩:=L;have lw1:W1.length=X1.length+Y1.length:=by rw[p1.length_eq];simp
  have Rr:∃W2:List T,W2.Perm (X2++Y2)/\Srt W2/\((X2≠[]/\Y2≠[])->qac XV 173 [.tsl true 0 3 N,.d (.int .i64 mid),.d (.int .i64 (m+Y1.length:Nat)),.d (.int .i64 b),.fn 6 []] [some (kc (A++W1++(X2++Y2)++Z))]=some (.d (.tup []),[some (kc (A++W1++W2++Z))]))/\(¬(X2≠[]/\Y2≠[])->W2=X2++Y2):=by
   by_cases h:X2≠[]/\Y2≠[]
   ·obtain⟨W,w1,w2,w3⟩:=ih (A++W1) X2 Y2 Z mid (m+Y1.length) b N (by simp at hk hm hb;omega) (ne _ h.1) (ne _ h.2) (by simp at hm hb⊢;omega) (by simp at hm hb⊢;omega) (by simp at hm hb⊢;omega) (by simp at hNl⊢;omega) hn (fun x hx=>hin x (by
     simp only[List.mem_append]at hx⊢
     rcases hx with(((h|h)|h)|h)|h
     ·simp[h]
     ·have:=p1.mem_iff.1 h
      simp only[List.mem_append]at this;rcases this with h|h<;>simp[h]
     ·simp[h]
     ·simp[h]
     ·simp[h])) sx2 sy2
    refine⟨W,w1,w2,fun _=> ?_,fun h'=>absurd h h'⟩;have e1:A++W1++(X2++Y2)++Z=A++W1++X2++Y2++Z:=by simp
    rw[e1];exact w3
   ·refine⟨X2++Y2,List.Perm.refl _,?_,fun h'=>absurd h' h,fun _=>rfl⟩
    by_cases e1:X2=[]
    ·subst e1;rw[List.nil_append];exact sy2
    ·by_cases e2:Y2=[]
     ·subst e2;rw[List.append_nil];exact sx2
     ·exact absurd ⟨e1,e2⟩ h
  obtain⟨W2,p2,s2,c2,c2'⟩:=Rr;refine⟨W1++W2,?_,List.pairwise_append.2 ⟨s1,s2,fun p hp q hq=> ?_⟩,?_⟩
  ·refine(p1.append p2).trans ?_
   have:=List.perm_append_comm (l₁:=Y1) (l₂:=X2);have h3:=((List.Perm.refl X1).append (this.append (List.Perm.refl Y2)));simpa using h3
  ·have h1:=p1.mem_iff.1 hp
   have h2:=p2.mem_iff.1 hq;rcases List.mem_append.1 h1 with h1|h1<;>rcases List.mem_append.1 h2 with h2|h2
   ·exact sx12 p h1 q h2
   ·exact F1 p h1 q h2
   ·exact F2 p h1 q h2
   ·exact sy12 p h1 q h2
  ·have hrot:X2≠[]->Y1≠[]->qac XV 174 [.tsl true 0 3 N,.d (.int .i64 st),.d (.int .i64 m),.d (.int .i64 (m+Y1.length:Nat)),.fn 6 []] [some (kc (A++(X1++X2)++(Y1++Y2)++Z))]=some (.d (.tup []),[some (kc (A++(X1++Y1)++(X2++Y2)++Z))]):=fun h1 h2=>by
    have hro:=qAz (A++X1) X2 Y1 (Y2++Z) st m (m+Y1.length) N (by simp;omega) (by simp at hm⊢;omega) (by simp at hm⊢;omega) (by simp at hNl⊢;omega) hn (ne _ h1) (ne _ h2) (.fn 6 []) (by simp[AV.clr,AV.clrs]) (by simp[qdz,qbh]);have e1:A++(X1++X2)++(Y1++Y2)++Z=A++X1++X2++Y1++(Y2++Z):=by simp
    have e2:A++(X1++Y1)++(X2++Y2)++Z=A++X1++Y1++X2++(Y2++Z):=by simp
    rw[e1,e2];exact hro
   have hfin:A++(W1++W2)++Z=A++W1++W2++Z:=by simp
   rw[hfin];exact qB8 A X1 X2 Y1 Y2 Z W1 W2 a m b mid st N ha (by simp at hm;omega) (by simp at hb;omega) (by simp at hx1 hx;omega) (by simp at hy1 hy;omega) hmid (by omega) (by simp at hm hb;omega) hN hn (fun i j h=>by
    have:i=i0/\j=j0:=by
     split at h<;>split at hif<;>first|omega|skip
    rw[this.1,this.2];exact hlo) hrot c1 c1' c2 c2'
inductive Blk(s:Nat):List T->Prop where
 |last (l:List T):l.length<s->Srt l->Blk s l
 |cons (c r:List T):c.length=s->Srt c->Blk s r->Blk s (c++r)
theorem Blk.srt{s:Nat}{l:List T}(h:Blk s l)(hl:l.length<=s)(hs:0<s):Srt l:=by
 cases h with
 |last _ _ h2=>exact h2
 |cons c r h1 h2 h3=>
  have:r=[]:=List.length_eq_zero_iff.1 (by simp at hl;omega);subst this;rw[List.append_nil];exact h2
theorem quL(N:Nat)(hn:N<=1099511627776):∀(k:Nat) (P R:List T),R.length<=k->(P++R).length=N->(∀t,t∈P++R->t.inner<=1099511627776)->
 ∃(R1 R2:List T) (a:Nat),R2.length<20/\a=P.length+R1.length/\a+R2.length=N/\(R1++R2).Perm R/\(∀Q,Blk 20 Q->Blk 20 (R1++Q))/\
  qbq XV [] 1 [0,1,2,6,7,8] qmC ⟨[(0,.tsl true 0 3 N),(1,.d (.int .i64 N)),(2,.fn 6 []),(6,.d (.int .i64 20)),(7,.d (.int .i64 P.length)),(8,.d (.int .i64 (P.length+20:Nat)))],[some (kc (P++R))]⟩=
   some (.exit 0,⟨[(0,.tsl true 0 3 N),(1,.d (.int .i64 N)),(2,.fn 6 []),(6,.d (.int .i64 20)),(7,.d (.int .i64 a)),(8,.d (.int .i64 (a+20:Nat))),(13,.d (.bool false))],[some (kc (P++R1++R2))]⟩):=by
 have head:∀(x y:Int) (c:List AV),qad 1 [0,1,2,6,7,8] ⟨[(0,.tsl true 0 3 N),(1,.d (.int .i64 N)),(2,.fn 6 []),(6,.d (.int .i64 20)),(7,.d (.int .i64 x)),(8,.d (.int .i64 y))],[some c]⟩=some ⟨[(0,.tsl true 0 3 N),(1,.d (.int .i64 N)),(2,.fn 6 []),(6,.d (.int .i64 20)),(7,.d (.int .i64 x)),(8,.d (.int .i64 y))],[some c]⟩:=fun x y c=>by
  simp[qad,qab,qba,qdz,qbh]
 have stop:∀(P R:List T),(P++R).length=N->R.length<20->qbq XV [] 1 [0,1,2,6,7,8] qmC ⟨[(0,.tsl true 0 3 N),(1,.d (.int .i64 N)),(2,.fn 6 []),(6,.d (.int .i64 20)),(7,.d (.int .i64 P.length)),(8,.d (.int .i64 (P.length+20:Nat)))],[some (kc (P++R))]⟩=
  some (.exit 0,⟨[(0,.tsl true 0 3 N),(1,.d (.int .i64 N)),(2,.fn 6 []),(6,.d (.int .i64 20)),(7,.d (.int .i64 P.length)),(8,.d (.int .i64 (P.length+20:Nat))),(13,.d (.bool false))],[some (kc (P++R))]⟩):=fun P R h1 h2=>by
  refine qa3 (head _ _ _) ?_ (by simp);have hlt:¬(((P.length+20:Nat):Int)<=(N:Int)):=by simp at h1;omega
  generalize ((P.length+20:Nat):Int)=v at*
  generalize (N:Int)=w at*
  simp[qmC,qvy,hlt]
 intro k
 induction k with
 |zero=>
  intro P R hk hN hin;exact⟨[],R,P.length,by omega,by simp,by simpa using hN,by simp,fun Q h=>by simpa using h,by simpa using stop P R hN (by omega)⟩
 |succ k ih=>
  intro P R hk hN hin
  by_cases hR:R.length<20
  ·exact⟨[],R,P.length,hR,by simp,by simpa using hN,by simp,fun Q h=>by simpa using h,by simpa using stop P R hN hR⟩
  ·have hC:(R.take 20).length=20:=by simp;omega
   have hCR:R.take 20++R.drop 20=R:=List.take_append_drop _ _;have hD:(R.drop 20).length=R.length-20:=by simp
   generalize R.take 20=C at hC hCR;generalize R.drop 20=D at hD hCR;subst hCR;have hNl:P.length+C.length+D.length=N:=by simp at hN;omega
   have e0:P++(C++D)=P++C++D:=by simp
   obtain⟨W,w1,w2,w3⟩:=qhY P C D P.length (P.length+20) N rfl (by omega) (by simp;omega) hn (fun t ht=>hin t (by rw[e0];exact ht));have hWl:W.length=20:=by rw[w1.length_eq,hC]
   have hPW:(P++W).length=P.length+20:=by simp;omega
   obtain⟨R1,R2,a,r1,r2,r3,r4,r5,r6⟩:=ih (P++W) D (by simp at hk;omega) (by simp;omega) (fun t ht=>hin t (by
    simp only[List.mem_append]at ht⊢
    rcases ht with(h|h)|h
    ·simp[h]
    ·simp[w1.mem_iff.1 h]
    ·simp[h]))
   refine⟨W++R1,R2,a,r1,by simp at r2⊢;omega,r3,?_,fun Q hQ=>by rw[yh_];exact .cons W _ hWl w2 (r5 Q hQ),?_⟩
   ·rw[yh_];exact w1.append r4
   ·have e1:P++(W++R1)++R2=P++W++R1++R2:=by simp
    rw[e1,<-r6,hPW,e0];refine qbO (head _ _ _) ?_;have hle:(((P.length+20:Nat):Int)<=(N:Int)):=by omega
    have hw:IntKind.i64.wrap (((P.length+20:Nat):Int)+20)=((P.length+20+20:Nat):Int):=by rw[wrap_i64 (by omega) (by omega)];omega
    generalize kc (P++C++D)=c1 at w3⊢
    generalize kc (P++W++D)=c2 at w3⊢
    generalize ((P.length+20+20:Nat):Int)=gv2 at*
    generalize ((P.length+20:Nat):Int)=v at*
    generalize (P.length:Int)=u at*
    generalize hgn:(N:Int)=w at*
    simp[qmC,qvy,qHu,qHt,qHs,hle,hw,w3]
theorem qBZ(N s:Nat)(hn:N<=1099511627776)(hs:0<s)(hs2:s<=1099511627776):∀(k:Nat) (P R:List T),R.length<=k->(P++R).length=N->(∀t,t∈P++R->t.inner<=1099511627776)->Blk s R->
 ∃(R1 R2:List T) (a:Nat),R2.length<2*s/\a=P.length+R1.length/\a+R2.length=N/\(R1++R2).Perm R/\Blk s R2/\(∀Q,Blk (2*s) Q->Blk (2*s) (R1++Q))/\
  qbq XV [] 1 [0,1,2,6,7,8] qsO ⟨[(0,.tsl true 0 3 N),(1,.d (.int .i64 N)),(2,.fn 6 []),(6,.d (.int .i64 s)),(7,.d (.int .i64 P.length)),(8,.d (.int .i64 (P.length+2*s:Nat)))],[some (kc (P++R))]⟩=
   some (.exit 4,⟨[(0,.tsl true 0 3 N),(1,.d (.int .i64 N)),(2,.fn 6 []),(6,.d (.int .i64 s)),(7,.d (.int .i64 a)),(8,.d (.int .i64 (a+2*s:Nat))),(35,.d (.bool false))],[some (kc (P++R1++R2))]⟩):=by
 have head:∀(x y:Int) (c:List AV),qad 1 [0,1,2,6,7,8] ⟨[(0,.tsl true 0 3 N),(1,.d (.int .i64 N)),(2,.fn 6 []),(6,.d (.int .i64 s)),(7,.d (.int .i64 x)),(8,.d (.int .i64 y))],[some c]⟩=some ⟨[(0,.tsl true 0 3 N),(1,.d (.int .i64 N)),(2,.fn 6 []),(6,.d (.int .i64 s)),(7,.d (.int .i64 x)),(8,.d (.int .i64 y))],[some c]⟩:=fun x y c=>by
  simp[qad,qab,qba,qdz,qbh]
 have stop:∀(P R:List T),(P++R).length=N->R.length<2*s->qbq XV [] 1 [0,1,2,6,7,8] qsO ⟨[(0,.tsl true 0 3 N),(1,.d (.int .i64 N)),(2,.fn 6 []),(6,.d (.int .i64 s)),(7,.d (.int .i64 P.length)),(8,.d (.int .i64 (P.length+2*s:Nat)))],[some (kc (P++R))]⟩=
  some (.exit 4,⟨[(0,.tsl true 0 3 N),(1,.d (.int .i64 N)),(2,.fn 6 []),(6,.d (.int .i64 s)),(7,.d (.int .i64 P.length)),(8,.d (.int .i64 (P.length+2*s:Nat))),(35,.d (.bool false))],[some (kc (P++R))]⟩):=fun P R h1 h2=>by
  refine qa3 (head _ _ _) ?_ (by simp);have hlt:¬(((P.length+2*s:Nat):Int)<=(N:Int)):=by simp at h1;omega
  generalize ((P.length+2*s:Nat):Int)=v at*
  generalize (N:Int)=w at*
  simp[qsO,qBr,hlt]
 intro k
 induction k with
 |zero=>
  intro P R hk hN hin hB;exact⟨[],R,P.length,by omega,by simp,by simpa using hN,by simp,hB,fun Q h=>by simpa using h,by simpa using stop P R hN (by omega)⟩
 |succ k ih=>
  intro P R hk hN hin hB
  by_cases hR:R.length<2*s
  ·exact⟨[],R,P.length,hR,by simp,by simpa using hN,by simp,hB,fun Q h=>by simpa using h,by simpa using stop P R hN hR⟩
  ·obtain⟨C1,C2,D,rfl,l1,l2,b1,b2,b3⟩:∃C1 C2 D,R=C1++(C2++D)/\C1.length=s/\C2.length=s/\Srt C1/\Srt C2/\Blk s D:=by
    cases hB with
    |last _ h1 _=>omega
    |cons c r h1 h2 h3=>
     cases h3 with
     |last _ h4 _=>simp at hR;omega
     |cons c' r' h4 h5 h6=>exact⟨c,c',r',rfl,h1,h4,h2,h5,h6⟩
   have hNl:P.length+C1.length+C2.length+D.length=N:=by simp at hN;omega
   have e0:P++(C1++(C2++D))=P++C1++C2++D:=by simp
   obtain⟨W,w1,w2,w3⟩:=qkD (C1.length+C2.length) P C1 C2 D P.length (P.length+s) (P.length+2*s) N (Nat.le_refl _) (by omega) (by omega) rfl (by omega) (by omega) (by simp;omega) hn (fun t ht=>hin t (by rw[e0];exact ht)) b1 b2;have hWl:W.length=2*s:=by rw[w1.length_eq];simp;omega
   have hPW:(P++W).length=P.length+2*s:=by simp;omega
   obtain⟨R1,R2,a,r1,r2,r3,r4,r5,r6,r7⟩:=ih (P++W) D (by simp at hk;omega) (by simp;omega) (fun t ht=>hin t (by
    simp only[List.mem_append]at ht⊢
    rcases ht with(h|h)|h
    ·simp[h]
    ·have:=w1.mem_iff.1 h
     simp only[List.mem_append]at this;rcases this with h|h<;>simp[h]
    ·simp[h])) b3
   refine⟨W++R1,R2,a,r1,by simp at r2⊢;omega,r3,?_,r5,fun Q hQ=>by rw[yh_];exact .cons W _ hWl w2 (r6 Q hQ),?_⟩
   ·rw[yh_]
    refine(w1.append r4).trans ?_;simp
   ·have e1:P++(W++R1)++R2=P++W++R1++R2:=by simp
    rw[e1,<-r7,hPW,e0];refine qbO (head _ _ _) ?_;have hle:(((P.length+2*s:Nat):Int)<=(N:Int)):=by omega
    have hw:IntKind.i64.wrap (((P.length+2*s:Nat):Int)+((2*s:Nat):Int))=((P.length+2*s+2*s:Nat):Int):=by rw[wrap_i64 (by omega) (by omega)];omega
    have hw2:IntKind.i64.wrap (2*(s:Int))=((2*s:Nat):Int):=by rw[wrap_i64 (by omega) (by omega)];omega
    have hw3:IntKind.i64.wrap ((P.length:Int)+s)=((P.length+s:Nat):Int):=by rw[wrap_i64 (by omega) (by omega)];omega
    generalize kc (P++C1++C2++D)=c1 at w3⊢
    generalize kc (P++W++D)=c2 at w3⊢
    generalize ((P.length+2*s+2*s:Nat):Int)=gv2 at*
    generalize ((P.length+2*s:Nat):Int)=v at*
    generalize ((P.length+s:Nat):Int)=gv3 at*
    generalize ((2*s:Nat):Int)=gv4 at*
    generalize (P.length:Int)=u at*
    generalize (s:Int)=gs at*
    generalize hgn:(N:Int)=w at*
    simp[qsO,qBr,qBw,qBv,qBu,hle,hw,hw2,hw3,w3]
theorem qxT(N:Nat)(hn:N<=1099511627776):∀(k s:Nat) (l:List T),N-s<=k->0<s->s<=2199023255552->l.length=N->(∀t,t∈l->t.inner<=1099511627776)->Blk s l->
 ∃(l':List T) (s':Nat),l'.Perm l/\Srt l'/\
  qbq XV [] 1 [0,1,2,6] qj8 ⟨[(0,.tsl true 0 3 N),(1,.d (.int .i64 N)),(2,.fn 6 []),(6,.d (.int .i64 s))],[some (kc l)]⟩=
   some (.exit 2,⟨[(0,.tsl true 0 3 N),(1,.d (.int .i64 N)),(2,.fn 6 []),(6,.d (.int .i64 s')),(30,.d (.bool false))],[some (kc l')]⟩):=by
 have head:∀(x:Int) (c:List AV),qad 1 [0,1,2,6] ⟨[(0,.tsl true 0 3 N),(1,.d (.int .i64 N)),(2,.fn 6 []),(6,.d (.int .i64 x))],[some c]⟩=some ⟨[(0,.tsl true 0 3 N),(1,.d (.int .i64 N)),(2,.fn 6 []),(6,.d (.int .i64 x))],[some c]⟩:=fun x c=>by
  simp[qad,qab,qba,qdz,qbh]
 have stop:∀(s:Nat) (l:List T),0<s->N<=s->l.length=N->Blk s l->∃(l':List T) (s':Nat),l'.Perm l/\Srt l'/\
  qbq XV [] 1 [0,1,2,6] qj8 ⟨[(0,.tsl true 0 3 N),(1,.d (.int .i64 N)),(2,.fn 6 []),(6,.d (.int .i64 s))],[some (kc l)]⟩=
   some (.exit 2,⟨[(0,.tsl true 0 3 N),(1,.d (.int .i64 N)),(2,.fn 6 []),(6,.d (.int .i64 s')),(30,.d (.bool false))],[some (kc l')]⟩):=fun s l hs h1 h2 h3=>by
  refine⟨l,s,List.Perm.refl _,h3.srt (by omega) hs,?_⟩;refine qa3 (head _ _) ?_ (by simp);have hlt:¬((s:Int)<(N:Int)):=by omega
  generalize (s:Int)=v at*
  generalize (N:Int)=w at*
  simp[qj8,qrw,hlt]
 intro k
 induction k with
 |zero=>intro s l hk hs hs2 hl hin hB;exact stop s l hs (by omega) hl hB
 |succ k ih=>
  intro s l hk hs hs2 hl hin hB
  by_cases hsN:N<=s
  ·exact stop s l hs hsN hl hB
  obtain⟨R1,R2,a,r1,r2,r3,r4,r5,r6,r7⟩:=qBZ N s hn hs (by omega) l.length [] l (Nat.le_refl _) (by simpa using hl) (by simpa using hin) hB;simp only[List.nil_append,List.length_nil,Nat.zero_add]at r2 r7;have hin2:∀t,t∈R1++R2->t.inner<=1099511627776:=fun t ht=>hin t (r4.mem_iff.1 ht)
  have hlen:R1.length+R2.length=N:=by omega
  obtain⟨W,w1,w2,w3⟩:∃W:List T,W.Perm R2/\Srt W/\((((a+s:Nat):Int)<(N:Int)/\qac XV 173 [.tsl true 0 3 N,.d (.int .i64 a),.d (.int .i64 (a+s:Nat)),.d (.int .i64 N),.fn 6 []] [some (kc (R1++R2))]=some (.d (.tup []),[some (kc (R1++W))]))\/(¬((a+s:Nat):Int)<(N:Int)/\W=R2)):=by
   by_cases h:a+s<N
   ·obtain⟨C,D,rfl,l1,b1,b2⟩:∃C D,R2=C++D/\C.length=s/\Srt C/\Blk s D:=by
     cases r5 with
     |last _ h1 _=>omega
     |cons c r h1 h2 h3=>exact⟨c,r,rfl,h1,h2,h3⟩
    have hDl:D.length<s:=by simp at r1;omega
    have hDl2:a+(s+D.length)=N:=by simp at r3;omega
    obtain⟨W,w1,w2,w3⟩:=qkD (C.length+D.length) R1 C D [] a (a+s) N N (Nat.le_refl _) (by omega) (by omega) r2 (by omega) (by omega) (by simp;omega) hn (fun t ht=>hin2 t (by simpa using ht)) b1 (b2.srt (by omega) hs);refine⟨W,w1,w2,.inl ⟨by omega,?_⟩⟩;have e1:R1++(C++D)=R1++C++D++[]:=by simp
    have e2:R1++W=R1++W++[]:=by simp
    rw[e1,e2];exact w3
   ·exact⟨R2,List.Perm.refl _,r5.srt (by omega) hs,.inr ⟨by omega,rfl⟩⟩
  have hWl:W.length=R2.length:=w1.length_eq;have hB2:Blk (2*s) (R1++W):=r6 W (.last W (by omega) w2);obtain⟨l',s',p1,p2,p3⟩:=ih (2*s) (R1++W) (by omega) (by omega) (by omega) (by simp;omega) (fun t ht=>hin2 t (by
   rcases List.mem_append.1 ht with h|h
   ·simp[h]
   ·simp[w1.mem_iff.1 h])) hB2
  refine⟨l',s',p1.trans ((List.Perm.refl R1).append w1|>.trans r4),p2,?_⟩;rw[<-p3];refine qbO (head _ _) ?_;have hlt:((s:Int)<(N:Int)):=by omega
  have hw2:IntKind.i64.wrap (2*(s:Int))=((2*s:Nat):Int):=by rw[wrap_i64 (by omega) (by omega)];omega
  have hw2':IntKind.i64.wrap ((s:Int)*2)=((2*s:Nat):Int):=by rw[wrap_i64 (by omega) (by omega)];omega
  have hw3:IntKind.i64.wrap ((a:Int)+s)=((a+s:Nat):Int):=by rw[wrap_i64 (by omega) (by omega)];omega
  simp only[Int.natCast_zero]at r7;rcases w3 with⟨g1,g2⟩|⟨g1,rfl⟩
  ·generalize kc (R1++W)=c3 at*
   generalize kc (R1++R2)=c2 at*
   generalize kc l=c1 at*
   generalize ((a+2*s:Nat):Int)=gv1 at*
   generalize ((a+s:Nat):Int)=gv3 at*
   generalize ((2*s:Nat):Int)=gv4 at*
   generalize (a:Int)=ga at*
   generalize (s:Int)=gs at*
   generalize hgn:(N:Int)=w at*
   simp[qj8,qrw,qBs,qlJ,qlI,qlH,qlG,hlt,hw2,hw2',hw3];rw[r7];simp[qlJ,qlI,qlH,qlG,hw2',hw3,g1,g2]
  ·generalize kc (R1++W)=c2 at*
   generalize kc l=c1 at*
   generalize ((a+2*s:Nat):Int)=gv1 at*
   generalize ((a+s:Nat):Int)=gv3 at*
   generalize ((2*s:Nat):Int)=gv4 at*
   generalize (a:Int)=ga at*
   generalize (s:Int)=gs at*
   generalize hgn:(N:Int)=w at*
   simp[qj8,qrw,qBs,qlJ,qlI,qlH,qlG,hlt,hw2,hw2',hw3];rw[r7];simp[qlJ,qlI,qlH,qlG,hw2',hw3,g1]
theorem qAo(l:List T)(hn:l.length<=1099511627776)(hin:∀t,t∈l->t.inner<=1099511627776):
 ∃l':List T,l'.Perm l/\Srt l'/\qac XV 171 [.tsl true 0 3 l.length,.d (.int .i64 l.length),.fn 6 []] [some (kc l)]=some (.d (.tup []),[some (kc l')]):=by
 obtain⟨R1,R2,a,r1,r2,r3,r4,r5,r6⟩:=quL l.length hn l.length [] l (Nat.le_refl _) (by simp) (by simpa using hin);simp only[List.nil_append,List.length_nil,Nat.zero_add]at r2 r6;have hin2:∀t,t∈R1++R2->t.inner<=1099511627776:=fun t ht=>hin t (r4.mem_iff.1 ht)
 obtain⟨W,w1,w2,w3⟩:=qhY R1 R2 [] a l.length l.length r2 (by omega) (by simp;omega) hn (fun t ht=>hin2 t (by simpa using ht));simp only[List.append_nil]at w3;have hWl:W.length=R2.length:=w1.length_eq;have hB:Blk 20 (R1++W):=r5 W (.last W (by omega) w2);obtain⟨l',s',p1,p2,p3⟩:=qxT l.length hn l.length 20 (R1++W) (by omega) (by omega) (by omega) (by simp;omega) (fun t ht=>hin2 t (by
  rcases List.mem_append.1 ht with h|h
  ·simp[h]
  ·simp[w1.mem_iff.1 h])) hB
 refine⟨l',p1.trans ((List.Perm.refl R1).append w1|>.trans r4),p2,?_⟩;rw[qah XV _ _ _ qIM rfl qqF rfl];simp only[Int.natCast_zero,show((20:Nat):Int)=20 from rfl]at r6 p3;generalize kc (R1++W)=c3 at*
 generalize kc (R1++R2)=c2 at*
 generalize kc l=c1 at*
 generalize kc l'=c4 at*
 generalize ((a+20:Nat):Int)=gv1 at*
 generalize (a:Int)=ga at*
 generalize hgn:(l.length:Int)=w at*
 simp[qIM,qBy,qBx];rw[r6];simp[qBt,w3];rw[p3];simp
theorem qpq(l:List T)(hn:l.length<=1099511627776)(hin:∀t,t∈l->t.inner<=1099511627776):
 ∃l':List T,l'.Perm l/\Srt l'/\qac XV 170 [.tsl true 0 3 l.length,.fn 6 []] [some (kc l)]=some (.d (.tup []),[some (kc l')]):=by
 obtain⟨l',h1,h2,h3⟩:=qAo l hn hin;refine⟨l',h1,h2,?_⟩;rw[qah XV _ _ _ qIN rfl qqG rfl];generalize kc l'=c2 at*
 generalize kc l=c1 at*
 simp[qIN,qBz,h3]
mutual
theorem qGS:∀t:T,(t.enc U).allU=true
 | .node f v ks=>by
  have:=qi1 ks;unfold T.enc;cases ks with
  |nil=>simp[T.encs,DV.allU,DV.allUs]
  |cons a r=>simp only[T.encs]at this⊢;simp[DV.allU,DV.allUs]at this⊢;exact this
theorem qi1:∀l:List T,DV.allUs (T.encs U l)=true
 | []=>by simp[T.encs,DV.allUs]
 |t::r=>by simp[T.encs,DV.allUs,qGS t,qi1 r]
end
theorem qGR:∀l:List T,DV.allUs (l.map (T.enc U))=true:=fun l=>by rw[<-T.qew];exact qi1 l
def nB(f v:Int)(ks:List T):qao:=[some [.d (.int .i64 f),.d (.int .i64 v),.d (qaa .sub ks)],some [.d (.int .i64 0),.d (.int .i64 0),.d (.sl U [])]]
theorem qOA(s:List SymL)(hs:s.length<=1099511627776)(f v:Int)(ks acc:List T)(hl:ks.length<=1099511627776)(i:Nat)(hi:i<ks.length)(hacc:acc.length<=1099511627776)(hk:((tAt ks i).norm s).kids.length<=1099511627776)
 (hc:qac XV 169 [.d (sg s),.d ((tAt ks i).enc .sub)] []=some (.d (((tAt ks i).norm s).enc U),[])):
 ∃e:qao,qay XV (XV.lin 169) qil ⟨[(0,.d (sg s)),(3,.ptr 0 0),(4,.ptr 1 0),(5,.d (.sl U (acc.map (T.enc U)))),(10,.d (qaa .sub ks)),(11,.d (.int .i64 ks.length)),(12,.d (.int .i64 i))],nB f v ks⟩=
  some (.normal,⟨[(0,.d (sg s)),(3,.ptr 0 0),(4,.ptr 1 0),(5,.d (.sl U ((acc++qwI s f ((tAt ks i).norm s)).map (T.enc U)))),(10,.d (qaa .sub ks)),(11,.d (.int .i64 ks.length)),(12,.d (.int .i64 (i+1:Nat)))],nB f v ks++e⟩):=by
 have hw:=qai (n:=i) (by omega);have hb:=qee s hs f;have ht:=qan hi;generalize tAt ks i=k at*
 generalize hn:k.norm s=n at*
 unfold qwI nB
 by_cases h1:qaK s f=true
 ·by_cases h2:(n.f==f)=true
  ·have ha:=qim acc n.kids U (by omega)
   generalize hl2:(acc++n.kids).map (T.enc U)=l2 at ha;generalize acc.map (T.enc U)=l1 at ha⊢
   refine⟨[some [.d (.int .i64 n.f),.d (.int .i64 n.v),.d (qaa .sub n.kids)]],?_⟩;simp[qil,qjO,qjN,qjM,qrD,qrC,qrB,qrA,qrz,qry,qrx,qfP,qlM,qlL,qlK,hi,hw,cut,ht,hc,hb,h1,h2,ha,hl2,splice,qae,qaf,qag,qaB,qaj,AV.qaw]
  ·have ha:=qim acc [n] U (by simp;omega)
   have h2':(n.f==f)=false:=by simpa using h2
   simp only[List.map_cons,List.map_nil]at ha;generalize hl2:(acc++[n]).map (T.enc U)=l2 at ha;generalize acc.map (T.enc U)=l1 at ha⊢
   refine⟨[some [.d (.int .i64 n.f),.d (.int .i64 n.v),.d (qaa .sub n.kids)]],?_⟩;simp[qil,qjO,qjN,qjM,qrD,qrC,qrB,qrA,qrz,qry,qrx,qfP,qlM,qlL,qlK,hi,hw,cut,ht,hc,hb,h1,h2',ha,hl2,splice,qae,qaf,qag,qaB,qaj,AV.qaw]
 ·have h1':qaK s f=false:=by simpa using h1
  have ha:=qim acc [n] U (by simp;omega);simp only[List.map_cons,List.map_nil]at ha;generalize hl2:(acc++[n]).map (T.enc U)=l2 at ha;generalize acc.map (T.enc U)=l1 at ha⊢
  refine⟨[some [.d (.int .i64 n.f),.d (.int .i64 n.v),.d (qaa .sub n.kids)]],?_⟩;simp[qil,qjO,qjN,qjM,qrD,qrC,qrB,qrA,qrz,qry,qrx,qfP,qlM,qlL,qlK,hi,hw,cut,ht,hc,hb,h1',ha,hl2,splice,qae,qaf,qag,qaB,qaj,AV.qaw]
theorem quh(B:qao):qac XV 172 [.d (.sl .sub []),.d (.int .i64 0),.d (.int .i64 0),.fn 6 []] B=some (.d (.tup []),B):=by
 rw[qah XV _ _ _ qEW rfl qky rfl];have hlo:qbq XV [46,50] B.length [0,1,2,3,8] qj7 ⟨[(0,.d (.sl .sub [])),(1,.d (.int .i64 0)),(2,.d (.int .i64 0)),(3,.fn 6 []),(8,.d (.int .i64 1))],B⟩=some (.exit 0,⟨[(0,.d (.sl .sub [])),(1,.d (.int .i64 0)),(2,.d (.int .i64 0)),(3,.fn 6 []),(8,.d (.int .i64 1)),(14,.d (.bool false))],B⟩):=by
  refine qa3 (s0:=⟨[(0,.d (.sl .sub [])),(1,.d (.int .i64 0)),(2,.d (.int .i64 0)),(3,.fn 6 []),(8,.d (.int .i64 1))],B⟩) (by simp[qad,qab,qba,qdz,qbh]) ?_ (by simp);simp[qj7,qoB]
 simp[qEW,qrv,wrap_i64];rw[hlo];simp
theorem qFd(B:qao):qac XV 170 [.d (.sl .sub []),.fn 6 []] B=some (.d (.tup []),B):=by
 have hi:=quh B;have h1:qbq XV [] B.length [0,1,2,6,7,8] qmC ⟨[(0,.d (.sl .sub [])),(1,.d (.int .i64 0)),(2,.fn 6 []),(6,.d (.int .i64 20)),(7,.d (.int .i64 0)),(8,.d (.int .i64 20))],B⟩=some (.exit 0,⟨[(0,.d (.sl .sub [])),(1,.d (.int .i64 0)),(2,.fn 6 []),(6,.d (.int .i64 20)),(7,.d (.int .i64 0)),(8,.d (.int .i64 20)),(13,.d (.bool false))],B⟩):=by
  refine qa3 (s0:=⟨[(0,.d (.sl .sub [])),(1,.d (.int .i64 0)),(2,.fn 6 []),(6,.d (.int .i64 20)),(7,.d (.int .i64 0)),(8,.d (.int .i64 20))],B⟩) (by simp[qad,qab,qba,qdz,qbh]) ?_ (by simp);simp[qmC,qvy]
 have h2:qbq XV [] B.length [0,1,2,6] qj8 ⟨[(0,.d (.sl .sub [])),(1,.d (.int .i64 0)),(2,.fn 6 []),(6,.d (.int .i64 20))],B⟩=some (.exit 2,⟨[(0,.d (.sl .sub [])),(1,.d (.int .i64 0)),(2,.fn 6 []),(6,.d (.int .i64 20)),(30,.d (.bool false))],B⟩):=by
  refine qa3 (s0:=⟨[(0,.d (.sl .sub [])),(1,.d (.int .i64 0)),(2,.fn 6 []),(6,.d (.int .i64 20))],B⟩) (by simp[qad,qab,qba,qdz,qbh]) ?_ (by simp);simp[qj8,qrw]
 have h3:qac XV 171 [.d (.sl .sub []),.d (.int .i64 0),.fn 6 []] B=some (.d (.tup []),B):=by
  rw[qah XV _ _ _ qIM rfl qqF rfl];simp[qIM,qBy,qBx];rw[h1];simp[qBt,hi];rw[h2];simp
 rw[qah XV _ _ _ qIN rfl qqG rfl];simp[qIN,qBz,h3]
theorem qJz(s:List SymL)(hs:s.length<=1099511627776)(f v:Int)(ks:List T)(hl:qcm ks<=1099511627776)
 (hc:∀t,t∈ks->qac XV 169 [.d (sg s),.d (t.enc .sub)] []=some (.d ((t.norm s).enc U),[])):∀(k i:Nat),i+k=ks.length->∀e:qao,
 qbq XV (XV.lin 169) 2 [0,3,4,5,10,11,12] qil ⟨[(0,.d (sg s)),(3,.ptr 0 0),(4,.ptr 1 0),(5,.d (.sl U ((qwM s f ks i).map (T.enc U)))),(10,.d (qaa .sub ks)),(11,.d (.int .i64 ks.length)),(12,.d (.int .i64 i))],nB f v ks++e⟩=
  some (.exit 0,⟨[(0,.d (sg s)),(3,.ptr 0 0),(4,.ptr 1 0),(5,.d (.sl U ((flatK s f (T.norms s ks)).map (T.enc U)))),(10,.d (qaa .sub ks)),(11,.d (.int .i64 ks.length)),(12,.d (.int .i64 ks.length)),(13,.d (.bool false))],nB f v ks⟩):=by
 have head:∀(x y:AV) (e:qao),y.clr=y->x.safe 2=true->y.safe 2=true->qad 2 [0,3,4,5,10,11,12] ⟨[(0,.d (sg s)),(3,.ptr 0 0),(4,.ptr 1 0),(5,x),(10,.d (qaa .sub ks)),(11,.d (.int .i64 ks.length)),(12,y)],nB f v ks++e⟩=some ⟨[(0,.d (sg s)),(3,.ptr 0 0),(4,.ptr 1 0),(5,x),(10,.d (qaa .sub ks)),(11,.d (.int .i64 ks.length)),(12,y)],nB f v ks⟩:=fun x y e hy hx hy2=>
  qfW (by simp) (by simp[qab,hx,hy2]) (by simp[nB]) rfl
 intro k
 induction k with
 |zero=>
  intro i hi e;have:i=ks.length:=by omega
  subst this;refine qa3 (head _ _ e (by simp) (by simp) (by simp)) ?_ (by simp);rw[qwL];simp[qil,qjO,qjN,qjM,qrD,qrC,qrB,qrA,qrz,qry,qrx,qfP,qlM,qlL,qlK]
 |succ k ih=>
  intro i hi e;have hlt:i<ks.length:=by omega
  have hm:=qav hlt;have h1:=qbi hm;have h2:=qfz s (tAt ks i);have h3:=qsX s f ks i;have h4:=qcN (qwM s f ks i);have h5:((tAt ks i).norm s).kids.length<=1099511627776:=by have:=qcN ((tAt ks i).norm s).kids;rw[qmq]at this;omega
  obtain⟨e',he⟩:=qOA s hs f v ks (qwM s f ks i) (by have:=qcN ks;omega) i hlt (by omega) h5 (hc _ hm);rw[<-ih (i+1) (by omega) e',qsW s f ks i hlt];exact qbO (head _ _ e (by simp) (by simp) (by simp)) he
theorem qNt(s:List SymL)(hs:s.length<=1099511627776)(f v:Int)(ks:List T)(hl:qcm ks<=1099511627776)
 (hc:∀t,t∈ks->qac XV 169 [.d (sg s),.d (t.enc .sub)] []=some (.d ((t.norm s).enc U),[])):
 qay XV (XV.lin 169) qq2.pre ⟨qap 0 [.d (sg s),.d ((T.node f v ks).enc .sub)],[]⟩=
  some (.normal,⟨[(3,.ptr 0 0),(4,.ptr 1 0),(5,.d (.sl U ((flatK s f (T.norms s ks)).map (T.enc U)))),(42,.d (.bool (qaK s f)))],nB f v ks⟩):=by
 have hloop:=qJz s hs f v ks hl hc ks.length 0 (by omega) [];have hb:=qee s hs f;simp only[qsV,List.map_nil,List.append_nil,qJY,nB,Int.natCast_zero]at hloop;simp[qq2,qf7,qjO,qjN,qjM,qfP,splice,qae,qaf,qag,qaB,qaj,AV.qaw,nB];rw[hloop];simp[qfP,hb,qaj]
theorem qFY:∀l:List T,((l.map (T.enc U)).flatMap DV.cells).map AV.d=kc l:=fun l=>by rw[qCp];rfl
theorem qFc(t:T)(r:List T)(hl:qcm (t::r)<=1099511627776):qis (qac XV) qq2 (t.enc U) (r.map (T.enc U))=some ((qfU (t::r)).map (T.enc U)):=by
 have hlen:=qcN (t::r);obtain⟨l',p1,p2,p3⟩:=qpq (t::r) (by omega) (fun x hx=>by have:=qbi hx;omega);have he:=qFZ p1 p2;have hu:=qGR (t::r);have hk:=qFY (t::r);simp only[List.map_cons]at hu hk;unfold qis;rw[if_pos hu,hk];have e1:(T.enc U t).cells.length=3:=by simp
 have e2:(r.map (T.enc U)).length+1=(t::r).length:=by simp
 rw[e1,e2];have e3:qac XV qq2.srt [.tsl true 0 3 (t::r).length,.fn qq2.cmp []] [some (kc (t::r))]=some (.d (.tup []),[some (kc l')]):=p3;rw[e3];have hll:l'.length=(t::r).length:=p1.length_eq;have e4:qaF (kc l')=some (flat (l'.map (T.enc U))):=by rw[qCp];exact qml _
 have e5:=qg3 (l'.map (T.enc U)) (qux U l');have e6:(flat (l'.map (T.enc U))).length=(t::r).length*3:=by
  have:=qbn e4;have h2:=qhX l';rw[this,List.length_map]at h2;rw[h2,hll]
 simp only[e4,Option.bind_some];rw[if_pos e6,<-hll];rw[List.length_map]at e5;rw[e5,he]
theorem qqT{X:XEnv}{T:List Nat}{sf:SFn}{ds:List DV}{S:XS}{x:DV}{xr:List DV}{y:DV×DV}{q:List DV}(hn:ds.length=sf.np)(hp:qay X T sf.pre ⟨qap 0 (ds.map .d),[]⟩=some (.normal,S))
 (h1:lk S.r sf.cond=some (.d (.bool true))) (h2:lk S.r sf.row=some (.d (.sl U (x::xr)))) (h3:qiq S=some y) (h4:qis (qac X) sf x xr=some q):qpm X T sf ds=some (.agg [y.1,y.2,.sl U q]):=by
 unfold qpm;rw[if_neg (by simpa using hn),hp];simp only[Option.bind_some];rw[h1,h2];simp only[U];rw[h3];simp only[Option.bind_some,h4,Option.map_some]
theorem quj(s:List SymL)(hs:s.length<=1099511627776)(f v:Int)(ks:List T)(hl:qcm ks<=1099511627776)
 (hc:∀t,t∈ks->qac XV 169 [.d (sg s),.d (t.enc .sub)] []=some (.d ((t.norm s).enc U),[])):
 qac XV 169 [.d (sg s),.d ((T.node f v ks).enc .sub)] []=some (.d (((T.node f v ks).norm s).enc U),[]):=by
 have hp:=qNt s hs f v ks hl hc;have hcn:qcm (flatK s f (T.norms s ks))<=1099511627776:=by
  have:=qg2 s f (T.norms s ks);have:=qg1 s ks;omega
 rw[qyL XV 169 _ _ qq2 rfl qza qy6];simp only[qaF,Option.bind_some,Option.map_some];have slow:qpm XV (XV.lin 169) qq2 [sg s,(T.node f v ks).enc .sub]=qpm XV (XV.lin 169) qq2 [sg s,(T.node f v ks).enc .sub]:=rfl
 conv at slow=>rhs;unfold qpm
 rw[if_neg (by simp[qq2,qf7])]at slow;simp only[List.map_cons,List.map_nil]at slow;rw[hp]at slow;simp only[T.norm]
 by_cases hb:qaK s f=true
 ·rw[if_pos hb]
  cases hq:flatK s f (T.norms s ks)with
  |nil=>
   rw[slow];have hz:qfU ([]:List T)=[]:=rfl;have hsn:=qFd (nB f v ks);simp only[nB]at hsn;simp[qq2,qf7,hb,hq,lk,nB,hz,hsn,splice,qae,qaf,qag,qaB,qaj];rw[T.qcJ];rfl
  |cons x r=>
   rw[hq]at hcn;have hr:=qFc x r hcn;have:=qqT (X:=XV) (T:=XV.lin 169) (sf:=qq2) (ds:=[sg s,(T.node f v ks).enc .sub]) (x:=x.enc U) (xr:=r.map (T.enc U)) (y:=(.int .i64 f,.int .i64 v)) rfl hp (by simp[qq2,qf7,lk,hb]) (by simp[qq2,qf7,lk,hq]) (by simp[qiq,lk,nB,DV.flat,qae]) hr;rw[this];simp only[Option.map_some];rw[T.qcJ];rfl
 ·rw[if_neg hb,slow]
  have hb':qaK s f=false:=by simpa using hb
  simp[qq2,qf7,hb',lk,nB,splice,qae,qaf,qag,qaB,qaj]
theorem qhq(s:List SymL)(hs:s.length<=1099511627776)(t:T)(ht:t.inner<=1099511627776):qac XV 169 [.d (sg s),.d (t.enc .sub)] []=some (.d ((t.norm s).enc U),[]):=by
 match t,ht with
 | .node f v ks,ht=>
  rw[T.qd3]at ht;exact quj s hs f v ks ht fun x hx=>qhq s hs x (by have:=qbi hx;omega)
termination_by t
decreasing_by
 simp_wf
 have:=List.sizeOf_lt_of_mem hx;omega
theorem qDV(a c:List T)(g:Tag)(h:(a.length+c.length)*40<=140737488355328):qaX 3 40 (.sl U (a.map (T.enc U))) (.sl g (c.map (T.enc U)))=some (.sl U ((a++c).map (T.enc U))):=by
 have h1:(c.map (T.enc U)).all (fun e=>decide (e.cells.length=3/\e.cells.all DV.isCell=true))=true:=by
  simp[qae,qaf]
 have h2:(a.map (T.enc U)).all (fun e=>decide (e.cells.length=3))=true:=by simp
 unfold qaX;simp only;rw[if_pos h1];cases c with
 |nil=>simp
 |cons x r=>
  simp only[List.map_cons,List.isEmpty_cons,Bool.false_eq_true,if_false];rw[if_pos ⟨by simpa using h,trivial,h2⟩];simp
theorem qAA(xs:List DV)(m:Nat):qcs xs 0 m=(xs.take m).map DV.clr++xs.drop m:=by
 unfold qcs;simp[DV.qaw]
def putAt(t:T)(l:List T):Nat:=match qau (fun i=>decide (T.cmp t (tAt l i)<0)) l.length 0 with
 |some j=>j
 |none=>l.length
theorem qhr(q:Nat->Bool):∀(k i:Nat),(∀j,qau q k i=some j->∀m,i<=m->m<j->q m=false)/\(qau q k i=none->∀m,i<=m->m<i+k->q m=false)
 |0,i=>⟨fun j h=>by simp[qau]at h,fun _ m h1 h2=>by omega⟩
 |k+1,i=>by
  have ih:=qhr q k (i+1);simp only[qau]
  by_cases h:q i=true
  ·simp only[h,if_true]
   exact⟨fun j hj m h1 h2=>by simp at hj;omega,fun h=>by simp at h⟩
  ·simp only[h,Bool.false_eq_true,if_false]
   refine⟨fun j hj m h1 h2=> ?_,fun hn m h1 h2=> ?_⟩
   ·by_cases e:m=i
    ·subst e;simpa using h
    ·exact ih.1 j hj m (by omega) h2
   ·by_cases e:m=i
    ·subst e;simpa using h
    ·exact ih.2 hn m (by omega) (by omega)
theorem qvP(t:T)(l:List T):putAt t l<=l.length:=by
 unfold putAt;split
 ·rename_i j h;have:=(qci _ _ _ _ h).2.1;omega
 ·omega
theorem qBX(t:T)(l:List T):ins t l=l.take (putAt t l)++t::l.drop (putAt t l):=by
 have h:=qhr (fun i=>decide (T.cmp t (tAt l i)<0)) l.length 0;refine qHP t l _ (qvP t l) (fun i hi=> ?_) (fun hlt=> ?_)
 ·unfold putAt at hi
  split at hi
  ·rename_i j hj
   simpa using h.1 j hj i (by omega) hi
  ·rename_i hn
   simpa using h.2 hn i (by omega) (by omega)
 ·unfold putAt at hlt⊢
  split
  ·rename_i j hj
   simpa using (qci _ _ _ _ hj).2.2
  ·rename_i hn;rw[hn]at hlt;simp at hlt
theorem qv5(l:List T)(t:T)(hl:qcm l<=1099511627776)(ht:t.inner<=1099511627776)(x0 x1 x2 x3:Option (List AV)):qac XV 154 [.d (qaa U l),.d (t.enc U)] [x0,x1,x2,x3]=some (.d (.sl U ((ins t l).map (T.enc U))),[x0,x1,x2,x3]):=by
 have hlen:=qcN l;have hlt:=qvP t l;have hb:∀i,i<l.length->qac XV 84 [.d (t.enc .sub),.d ((tAt l i).enc .sub)] []=some (.d (.bool (decide (T.cmp t (tAt l i)<0))),[]):=fun i hi=>qfK t (tAt l i) ht (by have:=qbi (qav hi);omega)
 rw[qah XV _ _ _ qL7 rfl qzU rfl];have h:=qal (X:=XV) (T:=XV.lin 154) (L:=5) (live:=[0,3,5]) (b:=qo6) (n:=l.length) (st:=fun(_:Unit) i=>⟨[(0,.d (qaa U l)),(3,.ptr 4 0),(5,.d (.int .i64 i))],[x0,x1,x2,x3,some [.d (.int .i64 t.f),.d (.int .i64 t.v),.d (qaa U t.kids)]]⟩) (step:=qb8 fun i=>decide (T.cmp t (tAt l i)<0))
  (F:=fun _=>(.exit 0,⟨[(0,.d (qaa U l)),(3,.ptr 4 0),(5,.d (.int .i64 l.length)),(19,.d (.bool false))],[x0,x1,x2,x3,some [.d (.int .i64 t.f),.d (.int .i64 t.v),.d (qaa U t.kids)]]⟩)) (R:=fun(j:Nat)=>(.exit 0,⟨[(0,.d (qaa U l)),(3,.ptr 4 0),(5,.d (.int .i64 j)),(19,.d (.bool false))],[x0,x1,x2,x3,some [.d (.int .i64 t.f),.d (.int .i64 t.v),.d (qaa U t.kids)]]⟩))
  (fun a=>⟨by simp,by simp[qo6,qrI,qrH,qDi,qvz,qrG,qrF,qrE]⟩)
  (fun a i hi=>by
   have hw:=qai (n:=i) (by omega);have hc:=hb i hi;unfold qb8
   by_cases hq:decide (T.cmp t (tAt l i)<0)=true
   ·rw[if_pos hq]
    rw[hq]at hc;exact⟨by simp,by simp[qo6,qrI,qrH,qDi,qvz,qrG,qrF,qrE,hi,hw,cut,qan hi,hc,qaj]⟩
   ·rw[if_neg hq]
    have hq':decide (T.cmp t (tAt l i)<0)=false:=by simpa using hq
    rw[hq']at hc;exact⟨⟨[(0,.d (qaa U l)),(3,.ptr 4 0),(5,.d (.int .i64 (i+1:Nat)))],[x0,x1,x2,x3,some [.d (.int .i64 t.f),.d (.int .i64 t.v),.d (qaa U t.kids)]]⟩,by simp[qo6,qrI,qrH,qDi,qvz,qrG,qrF,qrE,hi,hw,cut,qan hi,hc,qaj],by simp[qad,qab]⟩)
  l.length () 0 ⟨[(0,.d (qaa U l)),(3,.ptr 4 0),(5,.d (.int .i64 0))],[x0,x1,x2,x3,some [.d (.int .i64 t.f),.d (.int .i64 t.v),.d (qaa U t.kids)]]⟩ (by omega) (by simp[qad,qab])
 have h':qbq XV (XV.lin 154) 5 [0,3,5] qo6 ⟨[(0,.d (qaa U l)),(3,.ptr 4 0),(5,.d (.int .i64 0))],[x0,x1,x2,x3,some [.d (.int .i64 t.f),.d (.int .i64 t.v),.d (qaa U t.kids)]]⟩=
  some (.exit 0,⟨[(0,.d (qaa U l)),(3,.ptr 4 0),(5,.d (.int .i64 (putAt t l))),(19,.d (.bool false))],[x0,x1,x2,x3,some [.d (.int .i64 t.f),.d (.int .i64 t.v),.d (qaa U t.kids)]]⟩):=by
  rw[h,qqw];unfold putAt;cases hq:qau (fun i=>decide (T.cmp t (tAt l i)<0)) l.length 0<;>simp
 clear h;rw[qBX];generalize putAt t l=m at*
 have hm:¬((m:Int)<0):=by omega
 have a1:=qDV [] (l.take m) .sub (by simp;omega);have a2:=qDV (l.take m) [t] U (by simp;omega);have a3:=qDV (l.take m++[t]) (l.drop m) .sub (by simp;omega);have hall:(l.map (T.enc U)).all (fun e=>decide (e.cells.length=3))=true:=by simp
 have hrest:qcs (l.map (T.enc U)) 0 m=(l.take m).map (T.enc .sub)++(l.drop m).map (T.enc U):=by rw[qAA,<-List.map_take,qe2,<-List.map_drop]
 have hall2:((l.take m).map (T.enc .sub)++(l.drop m).map (T.enc U)).all (fun e=>decide (e.cells.length=3))=true:=by
  have q:∀(l:List T) (g:Tag),(l.map (T.enc g)).all (fun e=>decide (e.cells.length=3))=true:=fun l g=>by simp
  rw[List.all_append,q,q];rfl
 have hlen2:((l.take m).map (T.enc .sub)++(l.drop m).map (T.enc U)).length=l.length:=by simp;omega
 have hd2:(((l.take m).map (T.enc .sub)++(l.drop m).map (T.enc U)).take l.length).drop m=(l.drop m).map (T.enc U):=by
  rw[List.take_of_length_le (by rw[hlen2];exact Nat.le_refl _),List.drop_append_of_le_length (by simp;omega),List.drop_of_length_le (by simp;omega)];rfl
 have ht2:(l.map (T.enc U)).take m=(l.take m).map (T.enc U):=List.map_take.symm;simp only[List.map_nil,List.nil_append,List.map_cons,List.map_append,yh_,List.cons_append]at a1 a2 a3⊢
 generalize hR:(l.take m).map (T.enc .sub)++(l.drop m).map (T.enc U)=R at*
 generalize hL1:(l.take m).map (T.enc U)=L1 at*
 generalize hL2:(l.drop m).map (T.enc U)=L2 at*
 generalize hL3:L1++[T.enc U t]=L3 at*
 generalize hL4:L1++T.enc U t::L2=L4 at*
 simp only[qJZ]at h';simp[qL7,qrI,qrH,splice,qae,qaf,qag,qaB,qaj];rw[h'];simp[qrG,qrF,qrE,hlt,hm,hall,hall2,hlen2,hrest,hd2,ht2,a1,a2,a3,qaj,splice,AV.qaw]
def nM(s:List SymL)(t:T):DV:=(t.norm s).enc U
theorem qmc(s:List SymL)(f:Int)(h:¬qaK s f=true):∀l:List T,flatK s f l=l
 | []=>rfl
 |k::l=>by
  rw[qoN,qmc s f h l];have h':qaK s f=false:=by simpa using h
  simp[qwI,h']
def qyY(s:List SymL)(t:T):List DV:=(t.norm s).kids.map (T.enc U)
theorem qrY(s:List SymL)(t:T):nM s t= .agg [.int .i64 t.f,.int .i64 t.v,.sl U (qyY s t)]:=by
 unfold nM qyY;rw[T.qcJ,qB7,qB6]
theorem qwp(s:List SymL)(t:T):(qyY s t).map DV.clr=(t.norm s).kids.map (T.enc .sub):=by unfold qyY;exact qe2 _ _
theorem qwq(s:List SymL)(t:T):(nM s t).cells=[.int .i64 t.f,.int .i64 t.v,.sl U (qyY s t)]:=by rw[qrY];rfl
theorem qPr(s:List SymL)(a:List T)(t:T)(h:a.length<=1099511627776):qaX 3 40 (.sl U (a.map (nM s))) (.sl U [nM s t])=some (.sl U (a.map (nM s)++[nM s t])):=by
 unfold qaX;simp only;rw[if_pos (by simp[qwq,qae,qaf])];simp only[List.isEmpty_cons,Bool.false_eq_true,if_false];rw[if_pos ⟨by simp;omega,trivial,by simp[qwq]⟩]
def rowAt(s:List SymL)(f:Int)(ks:List T)(i:Nat):List DV:=if qaK s f=true then(qfU (qwM s f ks i)).map (T.enc U)else(ks.take i).map (nM s)
theorem rowAt_zero(s:List SymL)(f:Int)(ks:List T):rowAt s f ks 0=[]:=by unfold rowAt;rw[qsV];split<;>rfl
theorem norms_map(s:List SymL):∀l:List T,T.norms s l=l.map (T.norm s)
 | []=>by simp[T.norms]
 |t::r=>by simp[T.norms,norms_map s r]
theorem rowAt_all(s:List SymL)(f v:Int)(ks:List T):DV.agg [.int .i64 f,.int .i64 v,.sl U (rowAt s f ks ks.length)]=nM s (.node f v ks):=by
 rw[qrY];unfold rowAt qyY;rw[qwL,List.take_length];simp only[T.qaW,T.qdR,T.norm]
 by_cases hb:qaK s f=true
 ·simp only[hb,if_true,T.qaQ]
 ·simp only[hb,Bool.false_eq_true,if_false,T.qaQ]
  rw[qmc s f hb,norms_map,List.map_map];rfl
def nB3(f v:Int)(ks:List T)(R:List DV):qao:=[some [.d (.int .i64 f),.d (.int .i64 v),.d (qaa .sub ks)],some [.d (.int .i64 0),.d (.int .i64 0),.d (.sl U [])],some [.d (.int .i64 f),.d (.int .i64 v),.d (.sl U R)]]
def qqx(l:List T)(j:Nat):List DV:=(l.take j).map (T.enc .sub)++(l.drop j).map (T.enc U)
theorem qFo(l:List T)(j:Nat)(h:j<=l.length):(qqx l j).length=l.length:=by unfold qqx;simp;omega
theorem qFp(l:List T)(j:Nat):(qqx l j).map DV.clr=l.map (T.enc .sub):=by
 unfold qqx;rw[List.map_append,qe2,qe2,<-List.map_append,List.take_append_drop]
theorem qIW(l:List T)(j:Nat)(h:j<l.length):(qqx l j)[j]?=some ((tAt l j).enc U):=by
 unfold qqx;rw[yd_ (by simp;omega),List.drop_eq_getElem_cons h,qan h];simp[Nat.min_eq_left (Nat.le_of_lt h)]
theorem qFn(l:List T)(j:Nat)(h:j<l.length):(qqx l j).set j ((tAt l j).enc .sub)=qqx l (j+1):=by
 unfold qqx;have hm:((l.take j).map (T.enc .sub)).length=j:=by simp;omega
 rw[List.set_append_right _ _ (by rw[hm];exact Nat.le_refl _),hm,Nat.sub_self,List.drop_eq_getElem_cons h,qan h,List.map_cons,List.set_cons_zero,qhF l j h,List.map_append,yh_,List.map_cons,List.map_nil];rfl
theorem qFq(l:List T):qqx l l.length=l.map (T.enc .sub):=by unfold qqx;simp
theorem qAx(l:List T):qqx l 0=l.map (T.enc U):=by unfold qqx;simp
theorem qEX(TT:List Nat)(d4:Nat)(s:XS)(b off:Nat)(cs:List AV)(g gt:Tag)(xs:List DV)(k:Nat)(t:T):qz6 TT d4 3 s b off cs g xs k (some (t.enc gt))=some (qbM TT ⟨s.r,s.B.set b (some (cs.set off (.d (.sl g (xs.set k (t.enc .sub))))))⟩ (some d4) (.d (t.enc gt))):=by
 rw[<-T.qfq gt t,T.qcJ];rfl
theorem qF1(s:List SymL)(hs:s.length<=1099511627776)(f v kf kv:Int)(ks l:List T)(i:Nat)(hl:l.length<=1099511627776):∀(k j:Nat),j+k=l.length->∀acc:List T,qcm acc+qcm (l.drop j)<=1099511627776->∀e:qao,
 qbq XV (XV.lin 153) 4 [0,3,4,5,6,7,8] qwE ⟨[(0,.d (sg s)),(3,.ptr 0 0),(4,.ptr 1 0),(5,.ptr 2 0),(6,.d (.int .i64 i)),(7,.ptr 3 0),(8,.d (.int .i64 j))],nB3 f v ks (acc.map (T.enc U))++[some [.d (.int .i64 kf),.d (.int .i64 kv),.d (.sl U (qqx l j))]]++e⟩=
  some (.exit 3,⟨[(0,.d (sg s)),(3,.ptr 0 0),(4,.ptr 1 0),(5,.ptr 2 0),(6,.d (.int .i64 i)),(7,.ptr 3 0),(8,.d (.int .i64 l.length)),(32,.d (.bool false))],nB3 f v ks ((qdk acc (l.drop j)).map (T.enc U))++[some [.d (.int .i64 kf),.d (.int .i64 kv),.d (.sl U (l.map (T.enc .sub)))]]⟩):=by
 have head:∀(x:Int) (A e:qao),A.length=4->qad 4 [0,3,4,5,6,7,8] ⟨[(0,.d (sg s)),(3,.ptr 0 0),(4,.ptr 1 0),(5,.ptr 2 0),(6,.d (.int .i64 i)),(7,.ptr 3 0),(8,.d (.int .i64 x))],A++e⟩=some ⟨[(0,.d (sg s)),(3,.ptr 0 0),(4,.ptr 1 0),(5,.ptr 2 0),(6,.d (.int .i64 i)),(7,.ptr 3 0),(8,.d (.int .i64 x))],A⟩:=fun x A e hA=>
  qfW (by simp) (by simp[qab]) hA rfl
 intro k
 induction k with
 |zero=>
  intro j hj acc ha e;have:j=l.length:=by omega
  subst this;refine qa3 (head _ _ e (by simp[nB3])) ?_ (by simp);rw[List.drop_length,qFq];simp only[qdk];simp[qwE,qhQ,qhP,qhO,qjU,qjS,qgx,qgw,qgv,qgu,qjR,qjQ,qmn,qjP,qjT,qfQ,nB3,qaj]
 |succ k ih=>
  intro j hj acc ha e;have hlt:j<l.length:=by omega
  have hm:=qav hlt;have h1:=qbi hm;have hd:l.drop j=tAt l j::l.drop (j+1):=by rw[List.drop_eq_getElem_cons hlt,qan hlt]
  have hw:=qai (n:=j) (by omega);have r1:=qFo l j (by omega);have r2:=qFp l j;have r3:∀h:j<(qqx l j).length,(qqx l j)[j]'h=(tAt l j).enc U:=fun h=>(List.getElem?_eq_some_iff.1 (qIW l j hlt)).2
  have r4:=qFn l j hlt;rw[hd,qaJ]at ha;have hp:=qv5 acc (tAt l j) (by omega) (by omega);rw[hd];simp only[qdk];rw[<-ih (j+1) (by omega) (ins (tAt l j) acc) (by rw[qie (qkr _ _),qaJ];omega) []];refine qbO (head _ _ e (by simp[nB3])) ?_;generalize qqx l (j+1)=R1 at*
  generalize qqx l j=R0 at*
  simp[qwE,qhQ,qhP,qhO,qjU,qjS,qgx,qgw,qgv,qgu,qjR,qjQ,qmn,qjP,qjT,qfQ,nB3,hlt,hw,cut,qan hlt,hp,r1,r2,r3,r4,qEX,qar,VX.linT,splice,qae,qaf,qag,qaB,qaj]
theorem qOB(s:List SymL)(hs:s.length<=1099511627776)(f v:Int)(ks:List T)(hl:qcm ks<=1099511627776)(i:Nat)(hi:i<ks.length)
 (hc:qac XV 153 [.d (sg s),.d ((tAt ks i).enc .sub)] []=some (.d (nM s (tAt ks i)),[])):
 ∃e:qao,qay XV (XV.lin 153) qj9 ⟨[(0,.d (sg s)),(3,.ptr 0 0),(4,.ptr 1 0),(5,.ptr 2 0),(6,.d (.int .i64 i))],nB3 f v ks (rowAt s f ks i)⟩=
  some (.normal,⟨[(0,.d (sg s)),(3,.ptr 0 0),(4,.ptr 1 0),(5,.ptr 2 0),(6,.d (.int .i64 (i+1:Nat)))],nB3 f v ks (rowAt s f ks (i+1))++e⟩):=by
 have hlen:=qcN ks;have hw:=qai (n:=i) (by omega);have hb:=qe8 s hs f;have ht:=qan hi;have hm:=qbi (qav hi);have hin:=qfz s (tAt ks i);have hac:=qsW s f ks i hi;have hcn:=qsX s f ks (i+1);have htk:=qhF ks i hi;have hM:=qwp s (tAt ks i);have hnf:=qB7 s (tAt ks i);have hnv:=qB6 s (tAt ks i);have happ:=qPr s (ks.take i) (tAt ks i) (by simp;omega);rw[hac,qhv]at hcn;unfold rowAt;rw[hac,htk];rw[qrY]at hc happ;generalize hk:tAt ks i=k at*
 generalize hr:qwM s f ks i=acc at*
 have hXu:qyY s k=(k.norm s).kids.map (T.enc U):=rfl;generalize hX:qyY s k=X at*
 by_cases h1:qaK s f=true
 ·simp only[h1,if_true]
  by_cases h2:(k.f==f)=true
  ·have e1:qwI s f (k.norm s)=(k.norm s).kids:=by unfold qwI;rw[hnf,h1,h2];rfl
   rw[e1]at hcn⊢
   have hloop:=qF1 s hs f v k.f k.v ks (k.norm s).kids i (by have:=qcN (k.norm s).kids;rw[qmq]at this;omega) (k.norm s).kids.length 0 (by omega) (qfU acc) (by rw[qie (qez acc),List.drop_zero];omega) [];rw[List.drop_zero,qAx,show qdk (qfU acc) (k.norm s).kids=qfU (acc++(k.norm s).kids)from by unfold qfU;rw[qfl]]at hloop;refine⟨[some [.d (.int .i64 k.f),.d (.int .i64 k.v),.d (.sl U ((k.norm s).kids.map (T.enc .sub)))]],?_⟩;have h2n:(k.f !=f)=false:=by simpa using h2
   rw[<-hXu]at hloop;generalize (qfU (acc++(k.norm s).kids)).map (T.enc U)=R2 at*
   generalize (qfU acc).map (T.enc U)=R1 at*
   generalize (k.norm s).kids=l at*
   simp only[nB3,qCf,Int.natCast_zero,List.cons_append,List.nil_append,List.append_nil]at hloop⊢
   simp[qj9,qhQ,qhP,qhO,qjU,qjS,qgx,qgw,qgv,qgu,qjR,qjQ,qmn,qjP,qjT,qfQ,hi,hw,cut,ht,hc,hb,h1,h2n,hM,splice,qae,qaf,qag,qaB,qaj,AV.qaw];rw[hloop];simp[qj9,qhQ,qhP,qhO,qjU,qjS,qgx,qgw,qgv,qgu,qjR,qjQ,qmn,qjP,qjT,qfQ,hw]
  ·have h2':(k.f==f)=false:=by simpa using h2
   have h2n:(k.f !=f)=true:=by simpa using h2
   have e1:qwI s f (k.norm s)=[k.norm s]:=by unfold qwI;rw[hnf,h1,h2'];rfl
   rw[e1]at hcn⊢
   rw[show qfU (acc++[k.norm s])=ins (k.norm s) (qfU acc)from by unfold qfU;rw[qfl];rfl];have hp:=qv5 (qfU acc) (k.norm s) (by rw[qie (qez acc)];omega) (by omega);have hke:(k.norm s).enc U= .agg [.int .i64 k.f,.int .i64 k.v,.sl U X]:=by rw[T.qcJ,hnf,hnv,hXu]
   simp only[hke]at hp;refine⟨[some [.d (.int .i64 k.f),.d (.int .i64 k.v),.d (qaa .sub (k.norm s).kids)]],?_⟩;generalize ins (k.norm s) (qfU acc)=R2 at*
   generalize qfU acc=R1 at*
   generalize (k.norm s).kids=l at*
   simp[qj9,qhQ,qhP,qhO,qjU,qjS,qgx,qgw,qgv,qgu,qjR,qjQ,qmn,qjP,qjT,qfQ,nB3,hi,hw,cut,ht,hc,hb,h1,h2n,hM,hp,qar,VX.linT,splice,qae,qaf,qag,qaB,qaj,AV.qaw]
 ·have h1':qaK s f=false:=by simpa using h1
  simp only[h1',Bool.false_eq_true,if_false];refine⟨[some [.d (.int .i64 k.f),.d (.int .i64 k.v),.d (qaa .sub (k.norm s).kids)]],?_⟩;rw[List.map_append,List.map_cons,List.map_nil,qrY,hX];generalize hR2:(ks.take i).map (nM s)++[.agg [.int .i64 k.f,.int .i64 k.v,.sl U X]]=R2 at*
  generalize (ks.take i).map (nM s)=R1 at*
  generalize (k.norm s).kids=l at*
  simp[qj9,qhQ,qhP,qhO,qjU,qjS,qgx,qgw,qgv,qgu,qjR,qjQ,qmn,qjP,qjT,qfQ,nB3,hi,hw,cut,ht,hc,hb,h1',happ,hM,splice,qae,qaf,qag,qaB,qaj,AV.qaw]
theorem qJA(s:List SymL)(hs:s.length<=1099511627776)(f v:Int)(ks:List T)(hl:qcm ks<=1099511627776)
 (hc:∀t,t∈ks->qac XV 153 [.d (sg s),.d (t.enc .sub)] []=some (.d (nM s t),[])):∀(k i:Nat),i+k=ks.length->∀e:qao,
 qbq XV (XV.lin 153) 3 [0,3,4,5,6] qj9 ⟨[(0,.d (sg s)),(3,.ptr 0 0),(4,.ptr 1 0),(5,.ptr 2 0),(6,.d (.int .i64 i))],nB3 f v ks (rowAt s f ks i)++e⟩=
  some (.exit 0,⟨[(0,.d (sg s)),(3,.ptr 0 0),(4,.ptr 1 0),(5,.ptr 2 0),(6,.d (.int .i64 ks.length)),(18,.d (.bool false))],nB3 f v ks (rowAt s f ks ks.length)⟩):=by
 have head:∀(x:Int) (A e:qao),A.length=3->qad 3 [0,3,4,5,6] ⟨[(0,.d (sg s)),(3,.ptr 0 0),(4,.ptr 1 0),(5,.ptr 2 0),(6,.d (.int .i64 x))],A++e⟩=some ⟨[(0,.d (sg s)),(3,.ptr 0 0),(4,.ptr 1 0),(5,.ptr 2 0),(6,.d (.int .i64 x))],A⟩:=fun x A e hA=>
  qfW (by simp) (by simp[qab]) hA rfl
 intro k
 induction k with
 |zero=>
  intro i hi e;have:i=ks.length:=by omega
  subst this;refine qa3 (head _ _ e (by simp[nB3])) ?_ (by simp);generalize rowAt s f ks ks.length=R;simp[qj9,qhQ,qhP,qhO,qjU,qjS,qgx,qgw,qgv,qgu,qjR,qjQ,qmn,qjP,qjT,qfQ,nB3,qaj]
 |succ k ih=>
  intro i hi e;have hlt:i<ks.length:=by omega
  obtain⟨e',he⟩:=qOB s hs f v ks hl i hlt (hc _ (qav hlt));rw[<-ih (i+1) (by omega) e'];exact qbO (head _ _ e (by simp[nB3])) he
theorem qtm(s:List SymL)(hs:s.length<=1099511627776)(f v:Int)(ks:List T)(hl:qcm ks<=1099511627776)
 (hc:∀t,t∈ks->qac XV 153 [.d (sg s),.d (t.enc .sub)] []=some (.d (nM s t),[])):
 qac XV 153 [.d (sg s),.d ((T.node f v ks).enc .sub)] []=some (.d (nM s (.node f v ks)),[]):=by
 rw[qah XV _ _ _ qL8 rfl qzV rfl];have hloop:=qJA s hs f v ks hl hc ks.length 0 (by omega) [];rw[<-rowAt_all];simp only[rowAt_zero,List.append_nil,qCf,nB3,Int.natCast_zero]at hloop;generalize rowAt s f ks ks.length=R at*
 simp[qL8,qhQ,qhP,qhO,splice,qae,qaf,qag,qaB,qaj,AV.qaw];rw[hloop];simp[qfQ,splice,qae,qaf,qag,qaB,qaj,AV.qaw]
theorem qhg(s:List SymL)(hs:s.length<=1099511627776)(t:T)(ht:t.inner<=1099511627776):qac XV 153 [.d (sg s),.d (t.enc .sub)] []=some (.d (nM s t),[]):=by
 match t,ht with
 | .node f v ks,ht=>
  rw[T.qd3]at ht;exact qtm s hs f v ks ht fun x hx=>qhg s hs x (by have:=qbi hx;omega)
termination_by t
decreasing_by
 simp_wf
 have:=List.sizeOf_lt_of_mem hx;omega
abbrev ts(l:List Bd):List T:=l.map Bd.t
def dst(n:Int)(neg:Bool)(s:ByteArray):XS:=⟨[(0,.d (.int .i64 n)),(3,.d (.bool neg)),(4,.d (.str s))],[]⟩
theorem qR4(x y z:AV):AV.clrs [x,y,z]=[x.clr,y.clr,z.clr]:=by simp only[AV.clrs]
def IsV(d:DV)(a:T):Prop:=∃(g:Tag) (X:List DV),d= .agg [.int .i64 a.f,.int .i64 a.v,.sl g X]/\X.map DV.clr=a.kids.map (T.enc .sub)
theorem qCq(s:List SymL)(t:T):IsV (nM s t) (t.norm s):=⟨U,qyY s t,by rw[qrY,qB7,qB6],qwp s t⟩
theorem qCr(g:Tag)(t:T):IsV (t.enc g) t:=⟨g,t.kids.map (T.enc g),by rw[T.qcJ],qe2 g _⟩
theorem qCm(ks:List T)(hl:qcm ks<=1099511627776):qac XV 197 [.d (qaa .sub ks)] []=some (.d (qaa U ks),[]):=by
 have hlen:=qcN ks;have hc:∀t,t∈ks->qac XV 146 [.d (t.enc .sub)] []=some (.d (t.enc U),[]):=fun t ht=>qgE t (by have:=qbi ht;omega)
 rw[qah XV _ _ _ qL3 rfl qzO rfl];have hloop:=qal (X:=XV) (T:=XV.lin 197) (L:=0) (live:=[0,3,4]) (b:=qwC) (n:=ks.length) (γ:=Unit) (st:=fun(_:Unit) i=>⟨[(0,.d (qaa .sub ks)),(3,.d (.sl U ((ks.take i).map (T.enc U)))),(4,.d (.int .i64 i))],[]⟩) (step:=fun _ _=> .inl ())
  (F:=fun _=>(.exit 0,⟨[(0,.d (qaa .sub ks)),(3,.d (.sl U ((ks.take ks.length).map (T.enc U)))),(4,.d (.int .i64 ks.length)),(9,.d (.bool false))],[]⟩)) (R:=fun _=>(.ret,⟨[],[]⟩))
  (fun _=>⟨by simp,by simp[qwC,qvo,qvn,qvm,qA4,qA2,qA3,qvl]⟩)
  (fun _ i hi=>by
   have hw:=qai (n:=i) (by omega);have hc':=hc _ (qav hi);have ha:=qqm ks i hi (by omega);generalize hl2:(ks.take (i+1)).map (T.enc U)=l2 at ha;generalize (ks.take i).map (T.enc U)=l1 at ha⊢
   exact⟨⟨[(0,.d (qaa .sub ks)),(3,.d (.sl U l2)),(4,.d (.int .i64 (i+1:Nat)))],[]⟩,by simp[qwC,qvo,qvn,qvm,qA4,qA2,qA3,qvl,hi,hw,cut,qan hi,hc',ha,splice,qae,qaf,qag,qaB,qaj],by simp[qad,qab,<-hl2]⟩)
  ks.length () 0 ⟨[(0,.d (qaa .sub ks)),(3,.d (.sl U [])),(4,.d (.int .i64 0))],[]⟩ (by omega) (by simp[qad,qab])
 rw[qjj,List.take_length]at hloop;simp only[qJX]at hloop;simp[qL3,qvo,qvn,qvm];rw[hloop];simp[qvl]
theorem qJ6(f:Int)(ks:List T):qac XV 164 [.d (.int .i64 f),.d (qaa .sub ks)] []=some (.d ((T.node f 0 ks).enc .sub),[]):=by
 rw[qah XV _ _ _ qL6 rfl qzT rfl];simp[qL6,qHw,qHv,splice,qae,qaf,qag,qaB,qaj]
def qdN(s:List SymL)(f:Int)(ks:List T):T:=
 if qaK s f=true/\ks.length=0 then .node 0 0 []
 else if qaK s f=true/\ks.length=1 then(tAt ks 0).norm s
 else if qen s f=true then(T.node f 0 ks).norm s else .node f 0 ks
theorem qlZ(s:List SymL)(f:Int)(ks:List T):(qdN s f ks).inner<=qcm ks:=by
 unfold qdN;split
 ·simp[T.inner,T.inners]
 ·split
  ·rename_i h
   have h1:=qfz s (tAt ks 0);have h2:=qbi (qav (l:=ks) (i:=0) (by omega));omega
  ·split
   ·have:=qfz s (T.node f 0 ks);rw[T.qd3]at this;exact this
   ·rw[T.qd3];omega
theorem qqz(g:Tag):(T.node 0 0 []).enc g= .agg [.int .i64 0,.int .i64 0,.sl g []]:=by rw[T.qcJ];rfl
theorem quk(s:List SymL)(hs:s.length<=1099511627776)(f:Int)(ks:List T)(hl:qcm ks<=1099511627776):qac XV 192 [.d (sg s),.d (.int .i64 f),.d (qaa .sub ks)] []=some (.d ((qdN s f ks).enc U),[]):=by
 have hlen:=qcN ks;have hsy:=qpZ s hs f;have hcp:=qsu ks hl;have hn:=qhq s hs (T.node f 0 ks) (by rw[T.qd3];exact hl);rw[qah XV _ _ _ qEU rfl qzQ rfl];unfold qdN
 by_cases c1:qen s f=true
 ·obtain⟨g1,g2⟩:=qe7 c1
  have hsa:=qaq g2;have hbl:qaK s f=(qax s f.toNat).ac:=by unfold qaK;rw[c1];rfl
  rw[hbl];cases c2:(qax s f.toNat).ac with
  |false=>
   simp only[Bool.false_eq_true,false_and,if_false,c1,if_true];generalize (T.node f 0 ks).norm s=a at*
   simp[qEU,qoA,qoz,qoy,qox,qow,qov,qou,qot,hsy,c1,c2,g1,g2,hsa,cut,hn,splice,qae,qaf,qag,qaB,qaj]
  |true=>
   simp only[true_and]
   by_cases c3:ks.length=0
   ·rw[if_pos c3]
    have c3':(ks.length:Int)=0:=by omega
    generalize hm:(ks.length:Int)=m at*
    rw[qqz];simp[qEU,qoA,qoz,qoy,qox,qow,qov,qou,qot,hsy,c1,c2,g1,g2,hsa,hm,c3',cut,splice,qae,qaf,qag,qaB,qaj]
   ·rw[if_neg c3]
    by_cases c4:ks.length=1
    ·rw[if_pos c4]
     have h0:0<ks.length:=by omega
     have hn2:=qhq s hs (tAt ks 0) (by have:=qbi (qav h0);omega);have h5:ks[0]?=some (tAt ks 0):=qkB h0;have h6:ks[0]=tAt ks 0:=qan h0;have c4':(ks.length:Int)=1:=by omega
     generalize (tAt ks 0).norm s=a at*
     generalize hm:(ks.length:Int)=m at*
     simp[qEU,qoA,qoz,qoy,qox,qow,qov,qou,qot,hsy,c1,c2,g1,g2,hsa,hm,c4',h0,cut,hn2,h5,h6,splice,qae,qaf,qag,qaB,qaj]
    ·rw[if_neg c4,if_pos c1]
     have e3:((ks.length:Int)==0)=false:=beq_false_of_ne (by omega);have e4:((ks.length:Int)==1)=false:=beq_false_of_ne (by omega);generalize (T.node f 0 ks).norm s=a at*
     generalize hm:(ks.length:Int)=m at*
     simp[qEU,qoA,qoz,qoy,qox,qow,qov,qou,qot,hsy,c1,c2,g1,g2,hsa,hm,e3,e4,cut,hn,splice,qae,qaf,qag,qaB,qaj]
 ·have hbl:qaK s f=false:=by unfold qaK;simp[c1]
  have c1':qen s f=false:=by simpa using c1
  simp only[hbl,Bool.false_eq_true,false_and,if_false,c1'];simp only[qaa]at*
  rw[T.qcJ];simp[qEU,qoA,qoz,qoy,qox,qow,qov,qou,qot,hsy,c1',hcp,splice,qae,qaf,qag,qaB,qaj]
theorem IsV.clr{d:DV}{a:T}(h:IsV d a):d.clr=a.enc .sub:=by
 obtain⟨g,X,rfl,hX⟩:=h;simp only[DV.clr,DV.clrs];rw[DV.qaw,hX,T.qcJ]
theorem qtn(s:List SymL)(hs:s.length<=1099511627776)(f:Int)(ks:List T)(hl:qcm ks<=1099511627776):∃d,qac XV 193 [.d (sg s),.d (.int .i64 f),.d (qaa .sub ks)] []=some (.d d,[])/\IsV d (qdN s f ks):=by
 have hlen:=qcN ks;have hb:=qe8 s hs f;have hin:=qhp f 0 (s.length-1);have hcp:=qCm ks hl;have ho:=qJ6 f ks;have hn:=qhg s hs (T.node f 0 ks) (by rw[T.qd3];exact hl);have hw:IntKind.i64.wrap ((s.length:Int)-1)=s.length-1:=wrap_i64 (by omega) (by omega);rw[qah XV _ _ _ qET rfl qzP rfl];unfold qdN;cases c2:qaK s f with
 |false=>
  simp only[Bool.false_eq_true,false_and,if_false];cases c1:qen s f with
  |true=>
   simp only[if_true];refine⟨_,?_,qCq s _⟩;rw[qrY]at hn⊢
   generalize qyY s (T.node f 0 ks)=X at*
   rw[show inB f 0 (s.length-1)=true from c1]at hin;simp[qET,qos,qor,qoq,qop,qoo,qon,qom,qol,hb,c2,hw,hin,ho,hn,c1,splice,qae,qaf,qag,qaB,qaj]
  |false=>
   simp only[Bool.false_eq_true,if_false];refine⟨_,?_,qCr .sub _⟩;rw[show inB f 0 (s.length-1)=false from c1]at hin;simp[qET,qos,qor,qoq,qop,qoo,qon,qom,qol,hb,c2,hw,hin,ho,hcp,c1,splice,qae,qaf,qag,qaB,qaj]
 |true=>
  have c1:qen s f=true:=by unfold qaK at c2;simp only[Bool.and_eq_true]at c2;exact c2.1
  simp only[true_and]
  by_cases c3:ks.length=0
  ·rw[if_pos c3]
   have c3':(ks.length:Int)=0:=by omega
   generalize hm:(ks.length:Int)=m at*
   refine⟨_,?_,qCr U _⟩;rw[qqz];simp[qET,qos,qor,qoq,qop,qoo,qon,qom,qol,hb,c2,hm,c3',splice,qae,qaf,qag,qaB,qaj]
  ·rw[if_neg c3]
   by_cases c4:ks.length=1
   ·rw[if_pos c4]
    have h0:0<ks.length:=by omega
    have hn2:=qhg s hs (tAt ks 0) (by have:=qbi (qav h0);omega);have h5:ks[0]?=some (tAt ks 0):=qkB h0;have h6:ks[0]=tAt ks 0:=qan h0;have c4':(ks.length:Int)=1:=by omega
    refine⟨_,?_,qCq s _⟩;rw[qrY]at hn2⊢
    generalize qyY s (tAt ks 0)=X at*
    generalize hm:(ks.length:Int)=m at*
    simp[qET,qos,qor,qoq,qop,qoo,qon,qom,qol,hb,c2,hm,c4',h0,cut,hn2,h5,h6,splice,qae,qaf,qag,qaB,qaj]
   ·rw[if_neg c4,if_pos c1]
    have e3:((ks.length:Int)==0)=false:=beq_false_of_ne (by omega);have e4:((ks.length:Int)==1)=false:=beq_false_of_ne (by omega);refine⟨_,?_,qCq s _⟩;rw[qrY]at hn⊢
    generalize qyY s (T.node f 0 ks)=X at*
    rw[show inB f 0 (s.length-1)=true from c1]at hin;generalize hm:(ks.length:Int)=m at*
    simp[qET,qos,qor,qoq,qop,qoo,qon,qom,qol,hb,c2,hw,hin,ho,hn,hm,e3,e4,splice,qae,qaf,qag,qaB,qaj]
mutual
def qON(u:List Bd):T->T
 | .node f v ks=>if f= -1/\ks.length=0 then qpW u v else .node f v (qHR u ks)
def qHR(u:List Bd):List T->List T
 | []=>[]
 |t::r=>qON u t::qHR u r
end
theorem qsU(a:List Bd)(x:Bd)(h:(a.length+1)*48<=140737488355328):qaX 4 48 (.sl U (a.map (Bd.enc U))) (.sl U [x.enc U])=some (.sl U ((a++[x]).map (Bd.enc U))):=by
 unfold qaX;simp only;rw[if_pos (by simp[qae,qaf])];simp only[List.isEmpty_cons,Bool.false_eq_true,if_false];rw[if_pos ⟨by simpa using h,trivial,by simp⟩];simp
end Go.Proofs.YtbcbkiaineacpaaGreat.VS
