/- Contracts of the program's functions on the evaluator without names, and plain lemmas: part 2. -/
import Derived.Test.YtpcoohnjllclnaaGreatXP1
set_option linter.unusedSimpArgs false
set_option linter.unusedVariables false
namespace Go.Proofs.YtpcoohnjllclnaaGreat.VS
theorem AW(q:Nat->Bool):∀(k i j:Nat),aR q k i=none->i<=j->j<i+k->q j=false
 |0,i,j,_,c,e=>by omega
 |k+1,i,j,a,c,e=>by
  simp only[aR]at a;split at a
  ·simp at a
  ·rename_i d
   by_cases b:j=i
   ·subst b;simpa using d
   ·exact AW q k (i+1) j a (by omega) (by omega)
theorem Jx(l:ax)(n:Int):decide (0<=bC (aR (fun i=>n==aE l i) l.length 0))=l.contains n:=by
 cases hq:aR (fun i=>n==aE l i) l.length 0 with
 |none=>
  have h:=fun j=>AW _ _ _ j hq
  have hc:l.contains n=false:=by rw[Bool.eq_false_iff];intro d;rw[FQ]at d;obtain⟨j,c⟩:=jN.1 d;have a:j<l.length:=(cW.1 c).1;have:=h j (c7 _) (by omega);simp[aE,c]at this
  rw[hc];simp[bC]
 |some j=>
  obtain⟨e,g,b⟩:=dA _ _ _ _ hq;have a:j<l.length:=by omega
  have hc:l.contains n=true:=by rw[FQ];simp only[wX]at b;rw[b,<-bP a];exact gY a
  rw[hc];simp[bC]
theorem K7(q:Nat->Bool):∀(k i j:Nat),aR q k i=some j->∀a,i<=a->a<j->q a=false
 |0,i,j,h,a,_,_=>by simp[aR]at h
 |k+1,i,j,h,a,e,d=>by
  simp only[aR]at h;split at h
  ·simp at h;omega
  ·rename_i c
   by_cases b:a=i
   ·subst b;simpa using c
   ·exact K7 q k (i+1) j h a (by omega) d
theorem Ko(q a:Nat->Bool):∀(k i:Nat),(∀j,i<=j->j<i+k->q j=a j)->aR q k i=aR a k i
 |0,i,h=>rfl
 |k+1,i,h=>by simp only[aR];rw[h i (bN _) (by omega),Ko q a k (i+1) (fun j b c=>h j (by omega) (by omega))]
theorem FI(l:ax)(q:Int->Bool):l.findIdx q=match aR (fun i=>q (aE l i)) l.length 0 with|some j=>j|none=>l.length:=by
 cases hq:aR (fun i=>q (aE l i)) l.length 0 with
 |none=>
  have h:=fun j=>AW _ _ _ j hq
  simp only;apply List.findIdx_eq_length.2;intro x hx;obtain⟨j,c⟩:=jN.1 hx;have a:j<l.length:=(cW.1 c).1;have:=h j (c7 _) (by omega);simpa[aE,c]using this
 |some j=>
  obtain⟨e,g,d⟩:=dA _ _ _ _ hq;simp only;have a:j<l.length:=by omega
  rw[List.findIdx_eq a];refine⟨by rw[bP a];exact d,fun i hi=> ?_⟩;have b:i<l.length:=by omega
  rw[bP b];exact K7 _ _ _ _ hq i (c7 _) hi
section
variable (X:XEnv)
theorem UA(m:X.nat 56=none)(hc:X.env.code 56=some pr)(k:X.lin 56=[])(l:ax)(n:Int)(B:az)(p:l.length<=140737488355328)(g:X.env.base 56=none:=by first|rfl|assumption):
 ak X 56 [.d (is l),aa n] B=some (aa (bC (aR (fun i=>n==aE l i) l.length 0)),B):=by
 rw[uE X _ _ _ pr m hc rfl];have h:=bE (X:=X) (T:=[]) (L:=B.length) (live:=[0,1,7,8]) (b:=yc) (n:=l.length) (st:=fun(_:Unit) i=>⟨[(0,.d (is l)),(1,aa n),(7,aa l.length),(8,aa i)],B⟩) (step:=bG fun i=>n==aE l i)
  (F:=fun _=>(.exit 0,⟨[(0,.d (is l)),(1,aa n),(7,aa l.length),(8,aa l.length),(9,au false)],B⟩)) (R:=fun(j:Nat)=>(.ret,⟨[(4,aa j)],B⟩))
  (fun a=>⟨by simp,by simp[yc]⟩)
  (fun a i hi=>by
   have o:=aV (n:=i) (by omega);unfold bG
   by_cases c:(n==aE l i)=true
   ·rw[ay c]
    exact⟨by simp,by simp[yc,hi,cut,bP hi,c]⟩
   ·rw[aD c]
    have e:(n==aE l i)=false:=by simpa using c
    exact⟨_,by simp[yc,hi,o,cut,bP hi,e];rfl,by simp[aA,aB]⟩)
  l.length () 0 ⟨[(0,.d (is l)),(1,aa n),(7,aa l.length),(8,aa 0)],B⟩ (by omega) (by simp[aA,aB])
 rw[cT]at h;simp[pr,k];rw[h];cases c:aR (fun i=>n==aE l i) l.length 0<;>simp[bC]
theorem SH(r:X.nat 47=none)(hc:X.env.code 47=some lE)(q:X.lin 47=[])(l:ax)(c:Nat)(caps:aH)(B:az)(P:Int->Bool)(w:l.length<=140737488355328)(m:AV.safe.safes B.length caps=true)(e:caps.map AV.clr=caps)(o:X.lin c=[])
 (t:∀s,s∈l->ak X c (aa s::caps) B=some (au (P s),B)) (p:X.env.base 47=none:=by first|rfl|assumption):
 ak X 47 [.d (is l),.fn c caps] B=some (aa (bC (aR (fun i=>P (aE l i)) l.length 0)),B):=by
 rw[uE X _ _ _ lE r hc rfl];have h:=bE (X:=X) (T:=[]) (L:=B.length) (live:=[0,1,7,8]) (b:=ja) (n:=l.length) (st:=fun(_:Unit) i=>⟨[(0,.d (is l)),(1,.fn c caps),(7,aa l.length),(8,aa i)],B⟩) (step:=bG fun i=>P (aE l i))
  (F:=fun _=>(.exit 0,⟨[(0,.d (is l)),(1,.fn c caps),(7,aa l.length),(8,aa l.length),(9,au false)],B⟩)) (R:=fun(j:Nat)=>(.ret,⟨[(4,aa j)],B⟩))
  (fun a=>⟨by simp,by simp[ja]⟩)
  (fun a i hi=>by
   have u:=aV (n:=i) (by omega);have hc:=t (aE l i) (by rw[<-bP hi];exact gY hi);unfold bG
   by_cases g:P (aE l i)=true
   ·rw[ay g];rw[g]at hc
    exact⟨by simp,by simp[ja,hi,cut,bP hi,hc,e,o]⟩
   ·rw[aD g]
    have k:P (aE l i)=false:=by simpa using g
    rw[k]at hc;exact⟨_,by simp[ja,hi,u,cut,bP hi,hc,e,o];rfl,by simp[aA,aB,m]⟩)
  l.length () 0 ⟨[(0,.d (is l)),(1,.fn c caps),(7,aa l.length),(8,aa 0)],B⟩ (by omega) (by simp[aA,aB,m])
 rw[cT]at h;simp[lE,q];rw[h];cases g:aR (fun i=>P (aE l i)) l.length 0<;>simp[bC]
theorem Ri(j:X.nat 55=none)(hc:X.env.code 55=some qt)(m:X.lin 55=[])(b:X.nat 56=none)(c:X.env.code 56=some pr)(a:X.lin 56=[])(l:ax)(n:Int)(k:l.length<=140737488355328)(e:X.env.base 55=none:=by first|rfl|assumption)(g:X.env.base 56=none:=by first|rfl|assumption):
 ak X 55 [.d (is l),aa n] []=some (au (l.contains n),[]):=by
 rw[uE X _ _ _ qt j hc rfl];have h:=UA X b c a l n [] k;have o:=Jx l n;simp[qt,m,h];simpa using o
theorem Rz(c:X.nat 54=none)(b:X.env.code 54=some tL)(a:X.lin 54=[])(p:X.nat 55=none)(hc:X.env.code 55=some qt)(r:X.lin 55=[])(e:X.nat 56=none)(j:X.env.code 56=some pr)(g:X.lin 56=[])(l:ax)(n:Int)(q:l.length<=140737488355328)(k:X.env.base 54=none:=by first|rfl|assumption)(m:X.env.base 55=none:=by first|rfl|assumption)(o:X.env.base 56=none:=by first|rfl|assumption):
 ak X 54 [.d (is l),aa n] []=some (au (l.contains n),[]):=by
 rw[uE X _ _ _ tL c b rfl];have h:=Ri X p hc r e j g l n q;simp[tL,a,h]
theorem q19(b:X.nat 108=none)(hc:X.env.code 108=some qb)(c:X.lin 108=[])(x n:Int)(a:X.env.base 108=none:=by first|rfl|assumption):ak X 108 [aa x,.ptr 0 0] [some [aa n]]=some (au (decide (x>n)),[some [aa n]]):=by rw[uE X _ _ _ qb b hc rfl];simp[qb,c]
theorem qxj(h:X.nat 47=none)(hc:X.env.code 47=some lE)(k:X.lin 47=[])(b:X.nat 108=none)(e:X.env.code 108=some qb)(a:X.lin 108=[])(l:ax)(n:Int)(j:l.length<=140737488355328)(g:X.env.base 47=none:=by first|rfl|assumption)(c:X.env.base 108=none:=by first|rfl|assumption):
 ak X 47 [.d (is l),.fn 108 [.ptr 0 0]] [some [aa n]]=some (aa (bC (aR (fun i=>decide (aE l i>n)) l.length 0)),[some [aa n]]):=
 SH X h hc k l 108 [.ptr 0 0] [some [aa n]] (fun x=>decide (x>n)) j (by simp[NE,eL,y8]) rfl a (fun s _=>q19 X b e a s n)
end
def lu(ks:ah)(i:Nat):Nat:=(ks.length-i)+T.inners (ks.drop i)
theorem M6(ks:ah):lu ks 0=ks.length+T.inners ks:=by simp[lu]
variable{i:Nat}
theorem L8{ks:ah}(h:i<ks.length):lu ks i=(ai ks i).inner+1+lu ks (i+1):=by unfold lu;rw[dV h,a5 h];simp only[T.inners];omega
mutual
theorem AB{σ:Type}{I:Nat->σ->Prop}{e:T->σ->σ}(a:∀n s x,I (n+1) s->I n (e x s)):∀(t:T) (n:Nat) (s:σ),I (t.inner+1+n) s->I n (T.fold e t s)
 | .node f v ks,n,s,h=>by simp only[T.inner]at h;simp only[T.fold];exact M9 a ks n _ (a _ _ _ (by rw[show ks.length+T.inners ks+n+1=ks.length+T.inners ks+1+n by omega];exact h))
theorem M9{σ:Type}{I:Nat->σ->Prop}{e:T->σ->σ}(a:∀n s x,I (n+1) s->I n (e x s)):∀(l:ah) (n:Nat) (s:σ),I (l.length+T.inners l+n) s->I n (T.folds e l s)
 | [],n,s,h=>by simpa[T.folds,T.inners]using h
 |t::r,n,s,h=>by simp only[T.folds];simp only[cY,T.inners]at h;exact M9 a r n _ (AB a t _ s (by rw[show t.inner+1+(r.length+T.inners r+n)=r.length+1+(t.inner+T.inners r)+n by omega];exact h))
end
variable{σ:Type}
theorem QR(I:Nat->σ->Prop)(st:σ->az)(e:T->σ->σ)(k:Nat)(caps:aH)(m:Nat)(M:∀s,(st s).length=m)(p:∀n,m<=n->AV.safe.safes n caps=true)(t:caps.map AV.clr=caps)(V:¬0∈XV.lin k)
 (O:∀n s x,I (n+1) s->I n (e x s)) (f v:Int) (ks:ah) (hl:ks.length<=1099511627776)
 (Z:∀(x:T) (s:σ) (r:az) (n:Nat),I (n+1) s->ak XV k (.d (x.enc .sub)::caps) (st s++r)=some (.d (.tup []),st (e x s)++r))
 (w:∀x,x∈ks->∀(s:σ) (r:az) (n:Nat),I (x.inner+1+n) s->ak XV 25 [.d (x.enc .sub),.fn k caps] (st s++r)=some (.d (.tup []),st (T.fold e x s)++r)) (s:σ) (r:az) (g:Nat) (N:I (ks.length+T.inners ks+1+g) s):
 ak XV 25 [.d ((T.node f v ks).enc .sub),.fn k caps] (st s++r)=some (.d (.tup []),st (T.fold e (.node f v ks) s)++r):=by
 rw[aL 25 sS rfl];have G:I (ks.length+T.inners ks+g) (e (.node f v ks) s):=O _ _ _ (by rw[show ks.length+T.inners ks+g+1=ks.length+T.inners ks+1+g by omega];exact N);have c:=Z (.node f v ks) s (r++[some [aa f,aa v,.d (ao .sub ks)]]) (ks.length+T.inners ks+g) (by rw[show ks.length+T.inners ks+g+1=ks.length+T.inners ks+1+g by omega];exact N);have len:∀s,(st s++r).length=m+r.length:=fun s=>by simp[M]
 have a:=eu (X:=XV) (T:=XV.lin 25) (L:=m+r.length+1) (live:=[1,10,11,12]) (b:=qO) (n:=ks.length) (γ:=Unit) (st:=fun(s:σ) i=>⟨[(1,.fn k caps),(10,.d (ao .sub ks)),(11,aa ks.length),(12,aa i)],(st s++r)++[some [aa f,aa v,.d (ao .sub ks)]]⟩) (step:=m9 e ks)
  (F:=fun s=>(.exit 0,⟨[(1,.fn k caps),(10,.d (ao .sub ks)),(11,aa ks.length),(12,aa ks.length),(13,au false)],(st s++r)++[some [aa f,aa v,.d (ao .sub ks)]]⟩)) (R:=fun _=>(.ret,⟨[],[]⟩))
  (fun s i=>I (lu ks i+g) s)
  (fun s _=>⟨by simp,by simp[qO]⟩)
  (fun s i hi hIn=>by
   have C:=L8 hi;rw[show lu ks i+g=(ai ks i).inner+1+(lu ks (i+1)+g)by omega]at hIn;have j:=AB O (ai ks i) _ s hIn;refine⟨?_,fun a' o=>by unfold m9 at o;simp only[ka]at o;subst o;exact j⟩;have Y:=aV (n:=i) (by omega);have D:=w _ (bL hi) s (r++[some [aa f,aa v,.d (ao .sub ks)],some [aa (ai ks i).f,aa (ai ks i).v,.d (ao .sub (ai ks i).kids)]]) _ hIn;have H:=len s;have h:=len (T.fold e (ai ks i) s);simp only[<-bW]at D;generalize hB:st s++r=B at D H;generalize y:st (T.fold e (ai ks i) s)++r=B' at D h;unfold m9;refine⟨⟨[(1,.fn k caps),(10,.d (ao .sub ks)),(11,aa ks.length),(12,aa (i+1:Nat))],B'++[some [aa f,aa v,.d (ao .sub ks)],some [aa (ai ks i).f,aa (ai ks i).v,.d (ao .sub (ai ks i).kids)]]⟩,?_,?_⟩
   ·simp[qO,hi,Y,cut,a5 hi,t,D,splice]
   ·refine iS (e:=[some [aa (ai ks i).f,aa (ai ks i).v,.d (ao .sub (ai ks i).kids)]]) (by simp) (by simp[aB,p _ (show m<=m+r.length+1 by omega)]) (by simp[h,y]) (by simp[<-y]))
  ks.length (e (.node f v ks) s) 0 ⟨[(1,.fn k caps),(10,.d (ao .sub ks)),(11,aa ks.length),(12,aa 0)],(st (e (.node f v ks) s)++r)++[some [aa f,aa v,.d (ao .sub ks)]]⟩ (by omega) (by rw[M6];exact G) (iS (e:=[]) (by simp) (by simp[aB,p _ (show m<=m+r.length+1 by omega)]) (by simp[M];omega) (by simp))
 rw[Ci e ks _ _ _ (by omega)]at a;simp only[eM]at a;have J:=len s;have z:=len (e (.node f v ks) s);have K:(st (T.fold e (.node f v ks) s)++r).length=m+r.length:=len _;have u:T.folds e ks (e (.node f v ks) s)=T.fold e (.node f v ks) s:=by simp[T.fold]
 rw[u]at a;simp only[<-bW]at c;generalize S:st s++r=B0 at c J;generalize Q:st (e (.node f v ks) s)++r=B1 at c z a;generalize P:st (T.fold e (.node f v ks) s)++r=B2 at K a;have q:B1.length=B0.length:=by omega
 rw[<-z]at a;simp only[ao,Jd]at c a;simp[sS,c,t,V,q.symm];rw[a];simp[show B1.length=B2.length by omega]
theorem IT(I:Nat->σ->Prop)(st:σ->az)(e:T->σ->σ)(k:Nat)(caps:aH)(m:Nat)(p:∀s,(st s).length=m)(b:∀n,m<=n->AV.safe.safes n caps=true)(a:caps.map AV.clr=caps)(h:¬0∈XV.lin k)
 (g:∀n s x,I (n+1) s->I n (e x s)) (j:∀(x:T) (s:σ) (r:az) (n:Nat),I (n+1) s->ak XV k (.d (x.enc .sub)::caps) (st s++r)=some (.d (.tup []),st (e x s)++r)) (t:T) (c:t.inner<=1099511627776) (s:σ) (r:az) (n:Nat) (o:I (t.inner+1+n) s):
 ak XV 25 [.d (t.enc .sub),.fn k caps] (st s++r)=some (.d (.tup []),st (T.fold e t s)++r):=by
 match t,c with
 | .node f v ks,c=>simp only[T.inner]at c o;exact QR I st e k caps m p b a h g f v ks (by omega) j (fun x hx s r n q=>IT I st e k caps m p b a h g j x (by have:=T.qaD hx;omega) s r n q) s r n o
termination_by t
decreasing_by
 simp_wf
 have:=d9 hx;omega
theorem qLp:XV.nat 106=some lP:=rfl
theorem qrw(g:Tag)(l:ax)(n:Int)(B:az)(a:l.length<=1099511627777):ak XV 106 [.d (.sl g (l.map (.int .i64))),aa n] B=some (.d (.sl U ((cv l n).map (.int .i64))),B):=by
 rw[xq XV 106 _ _ _ qLp];have h:(l.length+1)*8<=140737488355328:=by omega
 simp[bd,lP,wN,h,U]
theorem IU(l:ax)(n:Int):(cv l n).length<=l.length+1:=by
 unfold cv;split
 ·omega
 ·simp[j6];have:=I6 (p:=fun x=>decide (x>n)) (xs:=l);omega
theorem Z2(l:ax)(n:Int)(m:l.length<=2199023255552):ak XV 53 [.d (is l),aa n] []=some (au (l.contains n),[]):=by
 rw[aL 53 v53 rfl];have h:=bE (X:=XV) (T:=[]) (L:=0) (live:=[0,1,5]) (b:=wJ) (n:=l.length) (st:=fun(_:Unit) i=>⟨[(0,.d (is l)),(1,aa n),(5,aa i)],[]⟩) (step:=bG fun i=>aE l i==n)
  (F:=fun _=>(.exit 0,⟨[(0,.d (is l)),(1,aa n),(5,aa l.length),(9,au false)],[]⟩)) (R:=fun(j:Nat)=>(.ret,⟨[(4,au true)],[]⟩))
  (fun a=>⟨by simp,by simp[wJ]⟩)
  (fun a i hi=>by
   have k:=aV (n:=i) (by omega);unfold bG
   by_cases e:(aE l i==n)=true
   ·rw[ay e]
    exact⟨by simp,by simp[wJ,hi,cut,bP hi,e]⟩
   ·rw[aD e]
    have g:(aE l i==n)=false:=by simpa using e
    exact⟨_,by simp[wJ,hi,k,cut,bP hi,g];rfl,by simp[aA,aB]⟩)
  l.length () 0 ⟨[(0,.d (is l)),(1,aa n),(5,aa 0)],[]⟩ (by omega) (by simp[aA,aB])
 rw[cT]at h;have hc:=Jx l n;have c:(fun i=>n==aE l i)=fun i=>aE l i==n:=by funext i;exact Bool.beq_comm
 rw[c]at hc;simp[v53];rw[h];cases e:aR (fun i=>aE l i==n) l.length 0 with
 |none=>rw[e]at hc;simp[bC]at hc;simp[hc]
 |some j=>rw[e]at hc;simp[bC]at hc;simp[hc]
theorem JY(l:ax):(l.map (DV.int .i64)).all (fun e=>decide (e.cells.length=1))=true:=by simp[si]
theorem X9(l:ax):(l.map (DV.int .i64)).all (fun e=>decide (e.cells.length=1/\e.cells.all DV.isCell=true))=true:=by simp[si,aY]
theorem pW(a b:ax)(g:Tag)(h:(a.length+b.length)*8<=140737488355328):bU 1 8 (.sl U (a.map (.int .i64))) (.sl g (b.map (.int .i64)))=some (.sl U ((a++b).map (.int .i64))):=by
 unfold bU;simp only;rw[ay (X9 b)];cases b with
 |nil=>simp
 |cons x r=>simp only[bF,gN,bh,if_false];rw[ay ⟨by simpa using h,trivial,JY a⟩];simp
theorem QH(l:ax)(n:Int)(C:l.length<=2199023255552):ak XV 112 [.d (is l),aa n] []=some (.d (.sl U ((cv l n).map (.int .i64))),[]):=by
 rw[aL 112 vM rfl];have e:=Z2 l n C
 by_cases hc:l.contains n=true
 ·rw[hc]at e
  have u:=pW [] l .sub (by simp;omega);have r:cv l n=l:=by unfold cv;rw[ay hc]
  simp only[bS,cp]at u;rw[r];simp[vM,e,u]
 ·have g:l.contains n=false:=by simpa using hc
  rw[g]at e;have h:=bE (X:=XV) (T:=XV.lin 112) (L:=0) (live:=[0,1,5]) (b:=sD) (n:=l.length) (st:=fun(_:Unit) i=>⟨[(0,.d (is l)),(1,aa n),(5,aa i)],[]⟩) (step:=bG fun i=> !decide (aE l i<n))
   (F:=fun _=>(.exit 0,⟨[(0,.d (is l)),(1,aa n),(5,aa l.length),(24,au false)],[]⟩)) (R:=fun(j:Nat)=>(.exit 0,⟨[(0,.d (is l)),(1,aa n),(5,aa j),(24,au false)],[]⟩))
   (fun a=>⟨by simp,by simp[sD]⟩)
   (fun a i hi=>by
    have I:=aV (n:=i) (by omega);unfold bG
    by_cases m:aE l i<n
    ·rw[aD (by simp[m])]
     exact⟨_,by simp[sD,hi,I,cut,bP hi,m];rfl,by simp[aA,aB]⟩
    ·rw[ay (by simp[m])]
     exact⟨by simp,by simp[sD,hi,cut,bP hi,m]⟩)
   l.length () 0 ⟨[(0,.d (is l)),(1,aa n),(5,aa 0)],[]⟩ (by omega) (by simp[aA,aB])
  rw[cT]at h;have s:∃at_:Nat,at_=j6 l n/\at_<=l.length/\bo XV (XV.lin 112) 0 [0,1,5] sD ⟨[(0,.d (is l)),(1,aa n),(5,aa 0)],[]⟩=some (.exit 0,⟨[(0,.d (is l)),(1,aa n),(5,aa at_),(24,au false)],[]⟩):=by
   have m:j6 l n=match aR (fun i=> !decide (aE l i<n)) l.length 0 with|some j=>j|none=>l.length:=by
    unfold j6;rw[FI];have:aR (fun i=>decide (aE l i>n)) l.length 0=aR (fun i=> !decide (aE l i<n)) l.length 0:=by
     refine Ko _ _ _ _ fun j J K=> ?_
     have o:j<l.length:=by omega
     have H:aE l j≠n:=by intro t;rw[<-bP o]at t;rw[<-t]at g;have:=gY o;rw[<-List.contains_iff_mem]at this;rw[g]at this;simp at this
     rw[nZ];simp;omega
    rw[this]
    try (cases aR (fun i=> !decide (aE l i<n)) l.length 0<;>rfl)
   refine⟨j6 l n,rfl,I6,?_⟩;rw[h,m];cases aR (fun i=> !decide (aE l i<n)) l.length 0<;>rfl
  obtain⟨k,G,q,c⟩:=s;have r:cv l n=l.take k++[n]++l.drop k:=by unfold cv;rw[aD hc,<-G];simp
  have w:=pW [] (l.take k) .sub (by simp;omega);have z:=pW (l.take k) [n] U (by simp;omega);have y:=pW (l.take k++[n]) (l.drop k) .sub (by simp;omega);simp only[bS,cp,BS,HF,cM,bF]at w z y;rw[r];have p:=JY l;simp only[RN]at c;simp[vM,e];rw[c];have D:List.take l.length (l.map (DV.int .i64))=l.map (DV.int .i64):=dC (by simp);simp[p,q,w,z,y,D]
def eV(x:T)(l:ax):ax:=if x.f= -1 then cv l x.v else l
def IV(n:Nat)(l:ax):Prop:=l.length+n<=1099511627778
theorem FM(n:Nat)(l:ax)(x:T)(h:IV (n+1) l):IV n (eV x l):=by
 unfold IV eV at*
 have:=IU l x.v;split<;>omega
def dk(t:T):ax:=T.fold eV t []
theorem IR(t:T)(o:t.inner<=1099511627776):ak XV 104 [.d (t.enc .sub)] []=some (.d (.sl U ((dk t).map (.int .i64))),[]):=by
 rw[aL 104 BJ rfl];have key:=IT IV (fun l:ax=>[some [aa t.f,aa t.v,.d (ao .sub t.kids)],some [.d (.sl U (l.map (.int .i64)))]]) eV 105 [.ptr 1 0] 2 (fun _=>rfl) (fun n g=>by simp;omega) rfl (by simp) FM (fun x l r n g=>by
  rw[aL 105 vq rfl];obtain⟨e,h,j⟩:=x;have a:=iQ (.node e h j);simp only[T.qaO]at a;have c:l.length<=1099511627777:=by unfold IV at g;omega
  unfold eV;simp only[T.qaO,T.qbx]
  by_cases b:e= -1
  ·subst b
   simp only[BEq.rfl]at a;have m:=qrw .sub l h [] c;simp[vq,a,splice,m]
  ·have k:(e== -1)=false:=by simp[b]
   rw[k]at a;simp[vq,a,b]) t o [] [] 0 (by simp[IV];omega)
 simp only[cR,ao,bS]at key;simp[BJ,splice,key,dk]
theorem Rj(f v:Int)(ks:ah)(z:ks.length<=1099511627776)(c:Nat)
 (g:∀s,s∈ks->∀(l:ax) (n:Nat),IV (s.inner+1+n) l->ak XV 111 [.d (s.enc .sub),.d (is l)] []=some (.d (is (T.fold eV s l)),[])) (l:ax) (q:IV (ks.length+T.inners ks+1+c) l):
 ak XV 111 [.d ((T.node f v ks).enc .sub),.d (is l)] []=some (.d (is (T.fold eV (.node f v ks) l)),[]):=by
 rw[aL 111 vV rfl];have o:IV (ks.length+T.inners ks+c) (eV (.node f v ks) l):=FM _ _ _ (by rw[show ks.length+T.inners ks+c+1=ks.length+T.inners ks+1+c by omega];exact q);have h:=eu (X:=XV) (T:=XV.lin 111) (L:=1) (live:=[1,2,5]) (b:=Ah) (n:=ks.length) (γ:=Unit) (st:=fun(l:ax) i=>⟨[(1,.d (is l)),(2,.ptr 0 0),(5,aa i)],[some [aa f,aa v,.d (ao .sub ks)]]⟩) (step:=m9 eV ks)
  (F:=fun l=>(.exit 0,⟨[(1,.d (is l)),(2,.ptr 0 0),(5,aa ks.length),(17,au false)],[some [aa f,aa v,.d (ao .sub ks)]]⟩)) (R:=fun r=>(.ret,⟨[],[]⟩))
  (fun l i=>IV (lu ks i+c) l)
  (fun _ _=>⟨by simp,by simp[Ah]⟩)
  (fun l i hi hIn=>by have w:=aV (n:=i) (by omega);have k:=L8 hi;rw[show lu ks i+c=(ai ks i).inner+1+(lu ks (i+1)+c)by omega]at hIn;have e:=AB FM (ai ks i) _ l hIn;have hc:=g _ (bL hi) l _ hIn;refine⟨?_,fun a' a=>by unfold m9 at a;simp only[ka]at a;subst a;exact e⟩;exact⟨_,by simp[Ah,hi,w,cut,a5 hi,hc];rfl,by simp[aA,aB]⟩)
  ks.length (eV (.node f v ks) l) 0 ⟨[(1,.d (is (eV (.node f v ks) l))),(2,.ptr 0 0),(5,aa 0)],[some [aa f,aa v,.d (ao .sub ks)]]⟩ (by omega) (by rw[M6];exact o) (by simp[aA,aB])
 rw[Ci eV ks _ _ _ (by omega)]at h;have j:T.folds eV ks (eV (.node f v ks) l)=T.fold eV (.node f v ks) l:=by simp[T.fold]
 simp only[eM,ao,Wb,j]at h;have u:l.length<=1099511627777:=by unfold IV at q;omega
 have t:=QH l v (by omega)
 by_cases p:f= -1
 ·subst p
  have m:eV (.node (-1) v ks) l=cv l v:=by simp[eV]
  rw[m]at h;simp[vV,t];rw[h];simp
 ·have m:eV (.node f v ks) l=l:=by simp[eV,p]
  have y:(f== -1)=false:=by simp[p]
  rw[m]at h;simp[vV,y];rw[h];simp
theorem Md(t:T)(a:t.inner<=1099511627776)(l:ax)(n:Nat)(c:IV (t.inner+1+n) l):ak XV 111 [.d (t.enc .sub),.d (is l)] []=some (.d (is (T.fold eV t l)),[]):=by
 match t,a with
 | .node f v ks,a=>simp only[T.inner]at a c;exact Rj f v ks (by omega) n (fun s b l n h=>Md s (by have:=T.qaD b;omega) l n h) l c
termination_by t
decreasing_by
 simp_wf
 have:=d9 b;omega
theorem V0(t:T)(a:t.inner<=1099511627776):ak XV 110 [.d (t.enc .sub)] []=some (.d (is (dk t)),[]):=by rw[aL 110 Af rfl];have h:=Md t a [] 0 (by simp[IV];omega);obtain⟨f,v,ks⟩:=t;simp only[bS,is]at h;simp[Af,h,dk]
def cI(l:ax):aH:=l.map fun x=> aa x
def mk:Nat->Nat->ax
 |0,_=>[]
 |n+1,k=>(k:Int)::mk n (k+1)
theorem YH(l:ax):(cI l).length=l.length:=by simp[cI]
mutual
def T.nb:T->Nat
 | .node _ _ []=>0
 | .node _ _ (t::r)=>T.nbs (t::r)+1
def T.nbs:ah->Nat
 | []=>0
 |t::r=>t.nb+T.nbs r
end
def q75(ks:ah):Nat:=if ks=[]then 0 else T.nbs ks+1
def q74(b:Nat)(ks:ah):AV:=if ks=[]then .d (ao .sub [])else .tsl true (b+T.nbs ks) 3 ks.length
def Lk(b:Nat):ah->aH
 | []=>[]
 | .node f v ks::r=> aa f:: aa v::q74 b ks::Lk (b+q75 ks) r
mutual
def T.bx(b:Nat):T->az
 | .node _ _ []=>[]
 | .node _ _ (t::r)=>T.bxs b (t::r)++[some (Lk b (t::r))]
def T.bxs(b:Nat):ah->az
 | []=>[]
 |t::r=>t.bx b++T.bxs (b+t.nb) r
end
def bK(l:ah):Nat:=l.length+T.inners l
theorem F_(t:T):bK t.kids=t.inner:=by cases t;simp[bK,T.inner]
theorem Er:∀(a c:ah),T.inners (a++c)=T.inners a+T.inners c
 | [],c=>by simp[T.inners]
 |t::r,c=>by simp[T.inners,Er r c];omega
theorem iX(t:T)(l:ah):bK (t::l)=(t.inner+1)+bK l:=by unfold bK;simp[T.inners];omega
theorem tn(ks:ah)(i:Nat)(hi:i<ks.length):ks.take (i+1)=ks.take i++[ai ks i]:=by rw[<-a5 hi,List.take_append_getElem hi]
theorem qVv(ks:ah)(i:Nat):bK (ks.take i)<=bK ks:=by
 have h:bK (ks.take i++ks.drop i)=bK (ks.take i)+bK (ks.drop i):=by unfold bK;rw[Er];simp;omega
 rw[dK]at h;omega
theorem rF(a c:ah)(g:Tag)(h:(a.length+c.length)*40<=140737488355328):bU 3 40 (.sl U (a.map (T.enc U))) (.sl g (c.map (T.enc U)))=some (.sl U ((a++c).map (T.enc U))):=by
 have b:(c.map (T.enc U)).all (fun e=>decide (e.cells.length=3/\e.cells.all DV.isCell=true))=true:=by simp[aY,a6]
 have d:(a.map (T.enc U)).all (fun e=>decide (e.cells.length=3))=true:=by simp
 unfold bU;simp only;rw[ay b];cases c with
 |nil=>simp
 |cons x r=>simp only[bF,gN,bh,if_false];rw[ay ⟨by simpa using h,trivial,d⟩];simp
theorem GU(l:ah)(i:Nat)(h:i<l.length)(a:l.length<=1099511627776):bU 3 40 (.sl U ((l.take i).map (T.enc U))) (.sl U [(ai l i).enc U])=some (.sl U ((l.take (i+1)).map (T.enc U))):=by have:=rF (l.take i) [ai l i] U (by simp;omega);rw[tn l i h];exact this
theorem Wa(f v:Int)(ks:ah)(h:ks.length<=1099511627776)(hc:∀t,t∈ks->ak XV 146 [.d (t.enc .sub)] []=some (.d (t.enc U),[])):
 ak XV 146 [.d ((T.node f v ks).enc .sub)] []=some (.d ((T.node f v ks).enc U),[]):=by
 rw[aL 146 v146 rfl];have a:=bE (X:=XV) (T:=XV.lin 146) (L:=3) (live:=[1,2,3,4]) (b:=DZ) (n:=ks.length) (γ:=Unit) (st:=fun(_:Unit) i=>⟨[(1,.ptr 0 0),(2,.ptr 1 0),(3,.ptr 2 0),(4,aa i)],[some [aa f,aa v,.d (ao .sub ks)],some [aa 0,aa 0,.d (.sl U [])],some [aa f,aa v,.d (.sl U ((ks.take i).map (T.enc U)))]]⟩) (step:=fun _ _=> .inl ())
  (F:=fun _=>(.exit 0,⟨[(1,.ptr 0 0),(2,.ptr 1 0),(3,.ptr 2 0),(4,aa ks.length),(14,au false)],[some [aa f,aa v,.d (ao .sub ks)],some [aa 0,aa 0,.d (.sl U [])],some [aa f,aa v,.d (.sl U ((ks.take ks.length).map (T.enc U)))]]⟩)) (R:=fun _=>(.ret,⟨[],[]⟩))
  (fun _=>⟨by simp,by simp[DZ]⟩)
  (fun _ i hi=>by
   have j:=aV (n:=i) (by omega);have e:=hc _ (bL hi);have c:=GU ks i hi h;generalize g:(ks.take (i+1)).map (T.enc U)=l2 at c;generalize (ks.take i).map (T.enc U)=l1 at c⊢
   exact⟨⟨[(1,.ptr 0 0),(2,.ptr 1 0),(3,.ptr 2 0),(4,aa (i+1:Nat))],[some [aa f,aa v,.d (ao .sub ks)],some [aa 0,aa 0,.d (.sl U [])],some [aa f,aa v,.d (.sl U l2)]]⟩,by simp[DZ,VJ,hi,j,cut,a5 hi,e,c,splice,AV.qay,aY,a6,bb,ba],by simp[aA,aB,<-g]⟩)
  ks.length () 0 ⟨[(1,.ptr 0 0),(2,.ptr 1 0),(3,.ptr 2 0),(4,aa 0)],[some [aa f,aa v,.d (ao .sub ks)],some [aa 0,aa 0,.d (.sl U [])],some [aa f,aa v,.d (.sl U [])]]⟩ (by omega) (by simp[aA,aB])
 rw[dv,lg]at a;simp only[ZG,ao]at a;simp[v146,splice,aY,a6,bb,ba,aW];rw[a];simp[splice,aY,a6,bb,ba,aW]
theorem wj(t:T)(a:t.inner<=1099511627776):ak XV 146 [.d (t.enc .sub)] []=some (.d (t.enc U),[]):=by
 match t,a with
 | .node f v ks,a=>simp only[T.inner]at a;exact Wa f v ks (by omega) fun s b=>wj s (by have:=T.qaD b;omega)
termination_by t
decreasing_by
 simp_wf
 have:=d9 b;omega
theorem NC(ks:ah)(j:ks.length<=1099511627776)(hc:∀t,t∈ks->ak XV 150 [.d (t.enc .sub)] []=some (.d (t.enc U),[])):
 ak XV 151 [.d (ao .sub ks)] []=some (.d (ao U ks),[]):=by
 rw[aL 151 y_ rfl];have a:=bE (X:=XV) (T:=XV.lin 151) (L:=0) (live:=[3,7,8,9]) (b:=Bm) (n:=ks.length) (γ:=Unit) (st:=fun(_:Unit) i=>⟨[(3,.d (.sl U ((ks.take i).map (T.enc U)))),(7,.d (ao .sub ks)),(8,aa ks.length),(9,aa i)],[]⟩) (step:=fun _ _=> .inl ())
  (F:=fun _=>(.exit 0,⟨[(3,.d (.sl U ((ks.take ks.length).map (T.enc U)))),(7,.d (ao .sub ks)),(8,aa ks.length),(9,aa ks.length),(10,au false)],[]⟩)) (R:=fun _=>(.ret,⟨[],[]⟩))
  (fun _=>⟨by simp,by simp[Bm]⟩)
  (fun _ i hi=>by
   have k:=aV (n:=i) (by omega);have g:=hc _ (bL hi);have c:=GU ks i hi j;generalize h:(ks.take (i+1)).map (T.enc U)=l2 at c;generalize (ks.take i).map (T.enc U)=l1 at c⊢
   exact⟨⟨[(3,.d (.sl U l2)),(7,.d (ao .sub ks)),(8,aa ks.length),(9,aa (i+1:Nat))],[some [aa (ai ks i).f,aa (ai ks i).v,.d (ao .sub (ai ks i).kids)]]⟩,by simp[Bm,hi,k,cut,a5 hi,g,c,splice,aY,a6,bb,ba,aW],iS (e:=[some [aa (ai ks i).f,aa (ai ks i).v,.d (ao .sub (ai ks i).kids)]]) (by simp[<-h]) (by simp[aB]) (by simp) (by simp)⟩)
  ks.length () 0 ⟨[(3,.d (.sl U [])),(7,.d (ao .sub ks)),(8,aa ks.length),(9,aa 0)],[]⟩ (by omega) (by simp[aA,aB])
 rw[dv,lg]at a;simp only[S_]at a;simp[y_];rw[a];simp
theorem YK(f v:Int)(ks:ah)(h:ak XV 151 [.d (ao .sub ks)] []=some (.d (ao U ks),[])):ak XV 150 [.d ((T.node f v ks).enc .sub)] []=some (.d ((T.node f v ks).enc U),[]):=by rw[aL 150 AS rfl];simp only[ao]at h;simp[AS,h,splice,aY,a6,bb,ba,aW]
theorem wW(t:T)(a:t.inner<=1099511627776):ak XV 150 [.d (t.enc .sub)] []=some (.d (t.enc U),[]):=by
 match t,a with
 | .node f v ks,a=>simp only[T.inner]at a;exact YK f v ks (NC ks (by omega) fun s b=>wW s (by have:=T.qaD b;omega))
termination_by t
decreasing_by
 simp_wf
 have:=d9 b;omega
theorem quk(ks:ah)(a:bK ks<=1099511627776):ak XV 151 [.d (ao .sub ks)] []=some (.d (ao U ks),[]):=NC ks (by unfold bK at a;omega) fun s b=>wW s (by have:=T.qaD b;unfold bK at a;omega)
theorem N5(n:Int):ak XV 147 [aa n] []=some (.d ((T.node (-1) n []).enc U),[]):=by rw[aL 147 Ar rfl];simp[Ar,splice,aY,a6,bb,ba,aW];rw[T.qb5];rfl
theorem LZ(n:Int):ak XV 149 [aa n] []=some (.d ((T.node (-1) n []).enc U),[]):=by rw[aL 149 An rfl];simp[An,splice,aY,a6,bb,ba,aW];rw[T.qb5];rfl
def co(l:aF)(n:Int):bq:=aR (fun i=>(aQ l i).v==n) l.length 0
def cJ(l:aF)(n:Int):T:=match co l n with
 |some i=>(aQ l i).t
 |none=> .node (-1) n []
theorem qvL(l:aF)(n:Int)(o:l.length<=1099511627776)(g:∀i,i<l.length->(aQ l i).t.inner<=1099511627776):ak XV 145 [.d (binds .sub l),aa n] []=some (.d ((cJ l n).enc U),[]):=by
 rw[aL 145 Dd rfl];have h:=bE (X:=XV) (T:=XV.lin 145) (L:=1) (live:=[0,1,4,5]) (b:=vi) (n:=l.length) (st:=fun(_:Unit) i=>⟨[(0,.d (binds .sub l)),(1,aa n),(4,.ptr 0 0),(5,aa i)],[some [aa 0,aa 0,.d (.sl U [])]]⟩) (step:=bG fun i=>(aQ l i).v==n)
  (F:=fun _=>(.exit 0,⟨[(0,.d (binds .sub l)),(1,aa n),(4,.ptr 0 0),(5,aa l.length),(9,au false)],[some [aa 0,aa 0,.d (.sl U [])]]⟩)) (R:=fun(j:Nat)=>(.ret,⟨[(4,.ptr 0 0)],[some [aa (aQ l j).t.f,aa (aQ l j).t.v,.d (ao U (aQ l j).t.kids)]]⟩))
  (fun a=>⟨by simp,by simp[vi]⟩)
  (fun a i hi=>by
   have k:=aV (n:=i) (by omega);have hc:=wj (aQ l i).t (g i hi);unfold bG
   by_cases c:((aQ l i).v==n)=true
   ·rw[ay c]
    exact⟨by simp,by simp[vi,hi,cut,df hi,c,hc,splice,aY,a6,bb,ba]⟩
   ·rw[aD c]
    have e:((aQ l i).v==n)=false:=by simpa using c
    exact⟨_,by simp[vi,hi,k,cut,df hi,e];rfl,by simp[aA,aB]⟩)
  l.length () 0 ⟨[(0,.d (binds .sub l)),(1,aa n),(4,.ptr 0 0),(5,aa 0)],[some [aa 0,aa 0,.d (.sl U [])]]⟩ (by omega) (by simp[aA,aB])
 rw[cT]at h;simp only[SG,binds]at h;unfold cJ co;simp[Dd];rw[h];have m:=N5 n;cases c:aR (fun i=>(aQ l i).v==n) l.length 0 with
 |none=>simp[m,splice,aY,a6,bb,ba,aW]
 |some j=>simp[aW]
theorem qOL(l:aF)(n:Int)(m:l.length<=1099511627776):ak XV 148 [.d (binds .sub l),aa n] []=some (.d (match co l n with|some j=> .tup [(aQ l j).t.enc .sub,.bool true]|none=> .tup [(T.node 0 0 []).enc .sub,.bool false]),[]):=by
 rw[aL 148 v148 rfl];have h:=bE (X:=XV) (T:=XV.lin 148) (L:=1) (live:=[1,4,8,9,10]) (b:=uY) (n:=l.length) (st:=fun(_:Unit) i=>⟨[(1,aa n),(4,.ptr 0 0),(8,.d (binds .sub l)),(9,aa l.length),(10,aa i)],[some [aa 0,aa 0,.d (.sl U [])]]⟩) (step:=bG fun i=>(aQ l i).v==n)
  (F:=fun _=>(.exit 0,⟨[(1,aa n),(4,.ptr 0 0),(8,.d (binds .sub l)),(9,aa l.length),(10,aa l.length),(11,au false)],[some [aa 0,aa 0,.d (.sl U [])]]⟩)) (R:=fun(j:Nat)=>(.ret,⟨[(4,.ptr 0 0),(5,au true)],[some [aa (aQ l j).t.f,aa (aQ l j).t.v,.d (ao .sub (aQ l j).t.kids)],some [aa (aQ l j).v,aa (aQ l j).t.f,aa (aQ l j).t.v,.d (ao .sub (aQ l j).t.kids)]]⟩))
  (fun a=>⟨by simp,by simp[uY]⟩)
  (fun a i hi=>by
   have k:=aV (n:=i) (by omega);unfold bG
   by_cases c:((aQ l i).v==n)=true
   ·rw[ay c]
    exact⟨by simp,by simp[uY,hi,cut,df hi,c,splice,AV.qay,aY,a6,bb,ba,aW]⟩
   ·rw[aD c]
    have g:((aQ l i).v==n)=false:=by simpa using c
    exact⟨⟨[(1,aa n),(4,.ptr 0 0),(8,.d (binds .sub l)),(9,aa l.length),(10,aa (i+1:Nat))],[some [aa 0,aa 0,.d (.sl U [])],some [aa (aQ l i).v,aa (aQ l i).t.f,aa (aQ l i).t.v,.d (ao .sub (aQ l i).t.kids)]]⟩,by simp[uY,hi,k,cut,df hi,g,splice,aY,a6,bb,ba,aW],iS (e:=[some [aa (aQ l i).v,aa (aQ l i).t.f,aa (aQ l i).t.v,.d (ao .sub (aQ l i).t.kids)]]) (by simp) (by simp[aB]) (by simp) (by simp)⟩)
  l.length () 0 ⟨[(1,aa n),(4,.ptr 0 0),(8,.d (binds .sub l)),(9,aa l.length),(10,aa 0)],[some [aa 0,aa 0,.d (.sl U [])]]⟩ (by omega) (by simp[aA,aB])
 rw[cT]at h;simp only[SQ,binds]at h;unfold co;simp[v148];rw[h];cases c:aR (fun i=>(aQ l i).v==n) l.length 0 with
 |none=>simp[splice,aY,a6,bb,ba,aW];rw[T.qb5];rfl
 |some j=>simp[aW]
theorem Up(l:aF)(n:Int)(a:l.length<=1099511627776)(c:∀i,i<l.length->(aQ l i).t.inner<=1099511627776):ak XV 144 [.d (binds .sub l),aa n] []=some (.d ((cJ l n).enc U),[]):=by
 rw[aL 144 wQ rfl];have h:=qOL l n a;have e:=LZ n;unfold cJ;cases hq:co l n with
 |none=>rw[hq]at h;simp[wQ,h,e,splice,aY,a6,bb,ba,aW]
 |some j=>
  rw[hq]at h;have b:j<l.length:=by have:=(dA _ _ _ _ hq).2.1;omega
  have hc:=wW (aQ l j).t (c j b);simp[wQ,h,hc,splice,aY,a6,bb,ba,aW]
theorem J9(l:ah)(t:T)(o:l.length<=1099511627776)(g:∀x,x∈l->x.inner<=1099511627776)(m:t.inner<=1099511627776):
 ak XV 259 [.d (ao .sub l),.d (t.enc .sub)] []=some (aa (bC (aR (dJ l t) l.length 0)),[]):=by
 rw[aL 259 Cn rfl];obtain⟨f,v,ks⟩:=t;have h:=bE (X:=XV) (T:=XV.lin 259) (L:=1) (live:=[0,3,5]) (b:=ww) (n:=l.length) (γ:=Nat) (st:=fun(_:Unit) i=>⟨[(0,.d (ao .sub l)),(3,.ptr 0 0),(5,aa i)],[some [aa f,aa v,.d (ao .sub ks)]]⟩) (step:=bG (dJ l (.node f v ks)))
  (F:=fun _=>(.exit 0,⟨[(0,.d (ao .sub l)),(3,.ptr 0 0),(5,aa l.length),(9,au false)],[some [aa f,aa v,.d (ao .sub ks)]]⟩)) (R:=fun j=>(.ret,⟨[(4,aa j)],[some [aa f,aa v,.d (ao .sub ks)]]⟩))
  (fun a=>⟨by simp,by simp[ww]⟩)
  (fun a i hi=>by
   have k:=aV (n:=i) (by omega);have hc:=l9 (ai l i) (.node f v ks) (g _ (bL hi)) m;unfold bG
   by_cases c:dJ l (.node f v ks) i=true
   ·rw[ay c]
    unfold dJ at c;rw[c]at hc;exact⟨by simp,by simp[ww,Oi,hi,cut,a5 hi,hc]⟩
   ·rw[aD c]
    have e:dJ l (.node f v ks) i=false:=by simpa using c
    unfold dJ at e;rw[e]at hc;exact⟨_,by simp[ww,Oi,hi,k,cut,a5 hi,hc];rfl,by simp[aA,aB]⟩)
  l.length () 0 ⟨[(0,.d (ao .sub l)),(3,.ptr 0 0),(5,aa 0)],[some [aa f,aa v,.d (ao .sub ks)]]⟩ (by omega) (by simp[aA,aB])
 rw[cT]at h;simp only[Pk]at h;simp[Cn];rw[h];cases c:aR (dJ l (.node f v ks)) l.length 0<;>simp[bC]
theorem t9(a c:ah)(g:Tag)(h:(a.length+c.length)*40<=140737488355328):bU 3 40 (.sl U (a.map (T.enc .sub))) (.sl g (c.map (T.enc .sub)))=some (.sl U ((a++c).map (T.enc .sub))):=by
 have b:(c.map (T.enc .sub)).all (fun e=>decide (e.cells.length=3/\e.cells.all DV.isCell=true))=true:=by simp[aY,a6]
 have d:(a.map (T.enc .sub)).all (fun e=>decide (e.cells.length=3))=true:=by simp
 unfold bU;simp only;rw[ay b];cases c with
 |nil=>simp
 |cons x r=>simp only[bF,gN,bh,if_false];rw[ay ⟨by simpa using h,trivial,d⟩];simp
theorem Ty(l:ah)(j:Nat)(o:j<l.length)(m:l.length<=1099511627776):
 ak XV 260 [.d (ao .sub l),aa j] []=some (.d (.sl U ((kQ l j).map (T.enc .sub))),[]):=by
 rw[aL 260 Al rfl];have h:=aV (n:=j) (by omega);have e:j<=l.length:=by omega
 have k:j+1<=l.length:=by omega
 have a:=t9 [] (l.take j) .sub (by simp;omega);have b:=t9 (l.take j) (l.drop (j+1)) .sub (by simp;omega);simp only[bS,cp,BS,HF,cM]at a b;have c:(0:Int)<=(j:Int)+1:=by omega
 have g:List.take l.length (l.map (T.enc .sub))=l.map (T.enc .sub):=dC (by simp);simp[Al,h,e,k,c,g,a,b,kQ]
variable{x:Bool}
theorem q5c(h:(!x)=true):x=false:=by cases x<;>simp_all
theorem SK(h:¬(!x)=true):x=true:=by cases x<;>simp_all
theorem qE7(b c:Bd)(B:az)(g:b.t.inner<=1099511627776)(hc:c.t.inner<=1099511627776):
 ak XV 290 [.d (b.enc .sub),.d (c.enc .sub)] B=some (au (b.v==c.v&&T.cmp b.t c.t==0),B):=by
 rw[aL 290 yj rfl];have h:=same_eq b.t c.t g hc
 by_cases e:b.v=c.v
 ·have a:(b.v==c.v)=true:=by simpa using e
  rw[a,eF];simp[yj,e,h]
 ·have a:(b.v==c.v)=false:=by simpa using e
  rw[a,qh];simp[yj,a]
theorem U6(u w:aF)(y:u.length<=1099511627776)(z:w.length<=1099511627776)(s:∀i,i<u.length->(aQ u i).t.inner<=1099511627776)(q:∀i,i<w.length->(aQ w i).t.inner<=1099511627776):
 ak XV 289 [.d (binds .sub u),.d (binds .sub w),.fn 290 []] []=some (au (jc u w),[]):=by
 rw[aL 289 vp rfl];unfold jc
 by_cases p:u.length=w.length
 ·have e:(u.length:Int)=w.length:=by omega
  have h:=bE (X:=XV) (T:=XV.lin 289) (L:=0) (live:=[1,2,15,16,17]) (b:=xE) (n:=u.length) (γ:=Nat) (st:=fun(_:Unit) i=>⟨[(1,.d (binds .sub w)),(2,.fn 290 []),(15,.d (binds .sub u)),(16,aa u.length),(17,aa i)],[]⟩) (step:=bG (j8 u w))
   (F:=fun _=>(.exit 0,⟨[(1,.d (binds .sub w)),(2,.fn 290 []),(15,.d (binds .sub u)),(16,aa u.length),(17,aa u.length),(18,au false)],[]⟩)) (R:=fun j=>(.ret,⟨[(6,au false)],[some (aQ u j|>.enc .sub|>.cells.map .d),some (aQ w j|>.enc .sub|>.cells.map .d)]⟩))
   (fun a=>⟨by simp,by simp[xE]⟩)
   (fun a i hi=>by
    have c:i<w.length:=by omega
    have o:=aV (n:=i) (by omega);have hc:=qE7 (aQ u i) (aQ w i) [some (aQ u i|>.enc .sub|>.cells.map .d),some (aQ w i|>.enc .sub|>.cells.map .d)] (s i hi) (q i c);unfold bG
    by_cases k:j8 u w i=true
    ·rw[ay k]
     unfold j8 at k;have g:((aQ u i).v==(aQ w i).v&&T.cmp (aQ u i).t (aQ w i).t==0)=false:=q5c k;rw[g]at hc;simp only[Bd.qfd,bF,bS]at hc;exact⟨by simp,by simp[xE,hi,c,cut,df hi,df c,hc,splice]⟩
    ·rw[aD k]
     unfold j8 at k;have g:((aQ u i).v==(aQ w i).v&&T.cmp (aQ u i).t (aQ w i).t==0)=true:=SK k;rw[g]at hc;simp only[Bd.qfd,bF,bS]at hc;exact⟨_,by simp[xE,hi,c,o,cut,df hi,df c,hc,splice];rfl,by simp[aA,aB]⟩)
   u.length () 0 ⟨[(1,.d (binds .sub w)),(2,.fn 290 []),(15,.d (binds .sub u)),(16,aa u.length),(17,aa 0)],[]⟩ (by omega) (by simp[aA,aB])
  rw[cT]at h;have m:decide (u.length=w.length)=true:=by simpa using p
  rw[m];simp only[Rx,binds]at h;simp[vp,e];simp only[e]at h;rw[h];cases k:aR (j8 u w) u.length 0<;>simp
 ·have m:decide (u.length=w.length)=false:=by simpa using p
  have e:¬(u.length:Int)=w.length:=by omega
  have r:((u.length:Int) !=w.length)=true:=by simpa using e
  rw[m];simp[vp,r]
theorem qrv(u w:aF)(b:u.length<=1099511627776)(a:w.length<=1099511627776)(e:∀i,i<u.length->(aQ u i).t.inner<=1099511627776)(c:∀i,i<w.length->(aQ w i).t.inner<=1099511627776):
 ak XV 288 [.d (binds .sub u),.d (binds .sub w)] []=some (au (jc u w),[]):=by
 rw[aL 288 Aj rfl];have h:=U6 u w b a e c;simp[Aj,h]
def gp(ws:List aF)(i:Nat):aF:=(ws[i]?).getD []
variable{ws:List aF}
theorem yl(h:i<ws.length):ws[i]=gp ws i:=by simp[gp,h]
theorem O_(h:i<ws.length):gp ws i∈ws:=by rw[<-yl h];exact gY h
abbrev mU(g:Tag)(ws:List aF):DV:= .sl g (ws.map (binds .sub))
@[simp] theorem qLh:DV.clr∘binds .sub=binds .sub:=funext fun w=>by simp[binds]
def small(u:aF):Prop:=u.length<=1099511627776/\∀i,i<u.length->(aQ u i).t.inner<=1099511627776
def jb(ws:List aF)(u:aF):Bool:=(aR (fun i=>jc (gp ws i) u) ws.length 0).isSome
theorem Sk(l:List aF)(c:Nat)(caps:aH)(B:az)(P:aF->Bool)(r:l.length<=1099511627776)(m:AV.safe.safes B.length caps=true)(e:caps.map AV.clr=caps)(o:¬0∈XV.lin c)
 (q:∀s,s∈l->ak XV c (.d (binds .sub s)::caps) B=some (au (P s),B)):
 ak XV 269 [.d (mU .sub l),.fn c caps] B=some (aa (bC (aR (fun i=>P (gp l i)) l.length 0)),B):=by
 rw[aL 269 CO rfl];have h:=bE (X:=XV) (T:=XV.lin 269) (L:=B.length) (live:=[0,1,7,8]) (b:=xY) (n:=l.length) (st:=fun(_:Unit) i=>⟨[(0,.d (mU .sub l)),(1,.fn c caps),(7,aa l.length),(8,aa i)],B⟩) (step:=bG fun i=>P (gp l i))
  (F:=fun _=>(.exit 0,⟨[(0,.d (mU .sub l)),(1,.fn c caps),(7,aa l.length),(8,aa l.length),(9,au false)],B⟩)) (R:=fun(j:Nat)=>(.ret,⟨[(4,aa j)],B⟩))
  (fun a=>⟨by simp,by simp[xY]⟩)
  (fun a i hi=>by
   have p:=aV (n:=i) (by omega);have hc:=q _ (O_ hi);unfold bG
   by_cases g:P (gp l i)=true
   ·rw[ay g];rw[g]at hc
    exact⟨by simp,by simp[xY,hi,cut,yl hi,hc,e,o]⟩
   ·rw[aD g]
    have k:P (gp l i)=false:=by simpa using g
    rw[k]at hc;exact⟨_,by simp[xY,hi,p,cut,yl hi,hc,e,o];rfl,by simp[aA,aB,m]⟩)
  l.length () 0 ⟨[(0,.d (mU .sub l)),(1,.fn c caps),(7,aa l.length),(8,aa 0)],B⟩ (by omega) (by simp[aA,aB,m])
 rw[cT]at h;simp only[qUo]at h;simp[CO];rw[h];cases g:aR (fun i=>P (gp l i)) l.length 0<;>simp[bC]
theorem TN(u w:aF)(q:small u)(o:small w):
 ak XV 261 [.d (binds .sub u),.d (binds .sub w)] []=some (au (jc u w),[]):=by
 rw[aL 261 yi rfl];obtain⟨q,s⟩:=q;obtain⟨o,y⟩:=o;unfold jc
 by_cases p:u.length=w.length
 ·have a:=bE (X:=XV) (T:=XV.lin 261) (L:=0) (live:=[0,1,5]) (b:=uc) (n:=u.length) (γ:=Nat) (st:=fun(_:Unit) i=>⟨[(0,.d (binds .sub u)),(1,.d (binds .sub w)),(5,aa i)],[]⟩) (step:=bG (j8 u w))
   (F:=fun _=>(.exit 0,⟨[(0,.d (binds .sub u)),(1,.d (binds .sub w)),(5,aa u.length),(14,au false)],[]⟩)) (R:=fun _=>(.ret,⟨[(4,au false)],[]⟩))
   (fun _=>⟨by simp,by simp[uc]⟩)
   (fun _ i hi=>by
    have c:i<w.length:=by omega
    have h:=aV (n:=i) (by omega);have hc:=l9 (aQ u i).t (aQ w i).t (s i hi) (y i c);unfold bG;cases hq:j8 u w i with
    |true=>
     simp only[if_true];refine⟨by simp,?_⟩;unfold j8 at hq
     by_cases e:(aQ u i).v=(aQ w i).v
     ·have k:(T.cmp (aQ u i).t (aQ w i).t==0)=false:=by
       have r:((aQ u i).v==(aQ w i).v)=true:=by simpa using e
       rw[r]at hq;simpa using hq
      rw[k]at hc;simp[uc,EC,hi,c,cut,df hi,df c,e,hc]
     ·have r:((aQ u i).v==(aQ w i).v)=false:=by simpa using e
      have e3:((aQ u i).v !=(aQ w i).v)=true:=by simpa using e
      simp[uc,EC,hi,c,cut,df hi,df c,e3]
    |false=>
     simp only[bh,if_false];unfold j8 at hq;simp only[Bool.not_eq_false',cb,wX]at hq;have k:(T.cmp (aQ u i).t (aQ w i).t==0)=true:=by simpa using hq.2
     rw[k]at hc;refine⟨_,by simp[uc,EC,hi,c,h,cut,df hi,df c,hq.1,hc];rfl,by simp[aA,aB]⟩)
   u.length () 0 ⟨[(0,.d (binds .sub u)),(1,.d (binds .sub w)),(5,aa 0)],[]⟩ (by omega) (by simp[aA,aB])
  rw[cT]at a;have g:(u.length:Int)=w.length:=by omega
  have m:decide (u.length=w.length)=true:=by simpa using p
  rw[m];simp only[R8]at a;simp[yi,g];simp only[binds]at a;rw[a];cases aR (j8 u w) u.length 0 with
  |none=>simp
  |some j=>simp
 ·have m:decide (u.length=w.length)=false:=by simpa using p
  have g:¬(u.length:Int)=w.length:=by omega
  have z:((u.length:Int) !=w.length)=true:=by simpa using g
  rw[m];simp[yi,z]
theorem qOa(ws:List aF)(u:aF)(m:ws.length<=1099511627776)(k:∀w,w∈ws->small w)(j:small u):
 ak XV 249 [.d (mU .sub ws),.d (binds .sub u)] []=some (au (jb ws u),[]):=by
 rw[aL 249 yZ rfl];have h:=bE (X:=XV) (T:=XV.lin 249) (L:=0) (live:=[0,1,5]) (b:=xt) (n:=ws.length) (γ:=Nat) (st:=fun(_:Unit) i=>⟨[(0,.d (mU .sub ws)),(1,.d (binds .sub u)),(5,aa i)],[]⟩) (step:=bG fun i=>jc (gp ws i) u)
  (F:=fun _=>(.exit 0,⟨[(0,.d (mU .sub ws)),(1,.d (binds .sub u)),(5,aa ws.length),(9,au false)],[]⟩)) (R:=fun _=>(.ret,⟨[(4,au true)],[]⟩))
  (fun a=>⟨by simp,by simp[xt]⟩)
  (fun a i hi=>by
   have g:=aV (n:=i) (by omega);have hc:=TN (gp ws i) u (k _ (O_ hi)) j;unfold bG
   by_cases c:jc (gp ws i) u=true
   ·rw[ay c];rw[c]at hc
    exact⟨by simp,by simp[xt,hi,cut,yl hi,hc]⟩
   ·rw[aD c]
    have e:jc (gp ws i) u=false:=by simpa using c
    rw[e]at hc;exact⟨_,by simp[xt,hi,g,cut,yl hi,hc];rfl,by simp[aA,aB]⟩)
  ws.length () 0 ⟨[(0,.d (mU .sub ws)),(1,.d (binds .sub u)),(5,aa 0)],[]⟩ (by omega) (by simp[aA,aB])
 rw[cT]at h;simp only[qUA]at h;unfold jb;simp[yZ];rw[h];cases c:aR (fun i=>jc (gp ws i) u) ws.length 0<;>simp
def iw(t:T):ah->ah
 | []=>[t]
 |x::r=>if T.cmp t x<0 then t::x::r else x::iw t r
def gg:ah->ah->ah
 |acc,[]=>acc
 |acc,t::r=>gg (iw t acc) r
def dE(l:ah):ah:=gg [] l
theorem BV(t:T):∀l:ah,(iw t l).Perm (t::l)
 | []=> .refl _
 |x::r=>by
  simp only[iw];split
  ·exact .refl _
  ·exact((BV t r).cons x).trans (.swap t x r)
theorem Lg(t:T):∀l:ah,b4 l->b4 (iw t l)
 | [],_=>sC _ _
 |x::r,h=>by
  have h':=ni.1 h;simp only[iw];split
  ·rename_i a
   refine ni.2 ⟨fun y hy=> ?_,h⟩;rcases cC.1 hy with rfl|hy
   ·exact rV a
   ·exact vu (rV a) (h'.1 y hy)
  ·rename_i a
   refine ni.2 ⟨fun y hy=> ?_,Lg t r h'.2⟩;have:=(BV t r).mem_iff.1 hy;rcases cC.1 this with rfl|hy
   ·exact sO a
   ·exact h'.1 y hy
theorem Kj:∀(l acc:ah),(gg acc l).Perm (acc++l)
 | [],acc=>by simp[gg]
 |t::r,acc=>by simp only[gg];refine(Kj r _).trans ?_;refine((BV t acc).append_right r).trans ?_;exact yz.symm
theorem Mc:∀(l acc:ah),b4 acc->b4 (gg acc l)
 | [],acc,h=>h
 |t::r,acc,h=>by simp only[gg];exact Mc r _ (Lg t acc h)
theorem lA(l:ah):(dE l).Perm l:=Kj l []
theorem G2(l:ah):b4 (dE l):=Mc l [] yG
variable{l:ah}
theorem Ix{l':ah}(h:l'.Perm l)(a:b4 l'):l'=dE l:=P0 a (G2 l) (h.trans (lA l).symm)
theorem Hh:∀(a acc b:ah),gg acc (a++b)=gg (gg acc a) b
 | [],acc,b=>rfl
 |t::r,acc,b=>by simp only[c_,gg];exact Hh r _ b
def dw(s:aC)(f:Int)(k:T):ah:=if(bn s f&&k.f==f)=true then k.kids else [k]
def flatK(s:aC)(f:Int)(l:ah):ah:=l.flatMap (dw s f)
mutual
def T.norm(s:aC):T->T
 | .node f v ks=> .node f v (if bn s f=true then dE (flatK s f (T.norms s ks))else flatK s f (T.norms s ks))
def T.norms(s:aC):ah->ah
 | []=>[]
 |t::r=>t.norm s::T.norms s r
end
theorem T.norms_map(s:aC):∀l:ah,T.norms s l=l.map (T.norm s)
 | []=>by simp[T.norms]
 |t::r=>by simp[T.norms,T.norms_map s r]
theorem It(s:aC)(t:T):(t.norm s).f=t.f:=by cases t;simp[T.norm]
theorem Em(s:aC)(t:T):(t.norm s).v=t.v:=by cases t;simp[T.norm]
theorem BM(a b:ah):bK (a++b)=bK a+bK b:=by unfold bK;rw[Er,cD];omega
theorem A3{a b:ah}(h:a.Perm b):bK a=bK b:=by
 induction h with
 |nil=>rfl
 |cons x _ c=>rw[iX,iX,c]
 |swap x y l=>rw[iX,iX,iX,iX];omega
 |trans _ _ d e=>rw[d,e]
theorem S8(s:aC)(f:Int)(k:T):bK (dw s f k)<=k.inner+1:=by
 unfold dw;split
 ·rw[F_];omega
 ·rw[iX];simp[bK,T.inners]
theorem kN(s:aC)(f:Int)(k:T)(l:ah):flatK s f (k::l)=dw s f k++flatK s f l:=rfl
theorem LJ(s:aC)(f:Int)(a b:ah):flatK s f (a++b)=flatK s f a++flatK s f b:=by unfold flatK;simp
theorem CI(s:aC)(f:Int):∀l:ah,bK (flatK s f l)<=bK l
 | []=>by simp[flatK,bK,T.inners]
 |k::l=>by rw[kN,BM,iX];have:=S8 s f k;have:=CI s f l;omega
theorem T.qa0(f v:Int)(ks:ah):(T.node f v ks).inner=bK ks:=by simp[T.inner,bK]
mutual
theorem qc(s:aC):∀t:T,(t.norm s).inner<=t.inner
 | .node f v ks=>by
  have h:=yH s ks;have a:=CI s f (T.norms s ks);simp only[T.norm,T.qa0];split
  ·rw[A3 (lA _)];omega
  ·omega
theorem yH(s:aC):∀l:ah,bK (T.norms s l)<=bK l
 | []=>by simp[T.norms]
 |t::r=>by have a:=qc s t;have b:=yH s r;simp only[T.norms,iX];omega
end
theorem eH{t:T}(h:t∈l):t.inner<=bK l:=by have:=T.qaD h;unfold bK;omega
theorem gA(l:ah):l.length<=bK l:=by unfold bK;omega
def iE(s:aC)(f:Int)(ks:ah)(i:Nat):ah:=flatK s f ((ks.take i).map (T.norm s))
theorem OX(s:aC)(f:Int)(ks:ah):iE s f ks 0=[]:=by simp[iE,flatK]
theorem Pb(s:aC)(f:Int)(ks:ah)(i:Nat)(h:i<ks.length):iE s f ks (i+1)=iE s f ks i++dw s f ((ai ks i).norm s):=by unfold iE;rw[tn ks i h,cM,LJ];simp[flatK]
theorem Nj(s:aC)(f:Int)(ks:ah):iE s f ks ks.length=flatK s f (T.norms s ks):=by unfold iE;rw[lg,T.norms_map]
theorem ML(s:aC)(f:Int)(ks:ah)(i:Nat):bK (iE s f ks i)<=bK ks:=by
 unfold iE;have a:=CI s f ((ks.take i).map (T.norm s));rw[<-T.norms_map]at a⊢
 have c:=yH s (ks.take i);have b:=qVv ks i;omega
theorem MO(t:T):∀(l:ah) (j:Nat),j<=l.length->(∀i,i<j->¬T.cmp t (ai l i)<0)->(j<l.length->T.cmp t (ai l j)<0)->iw t l=l.take j++t::l.drop j
 | [],j,a,_,_=>by simp at a;subst a;rfl
 |x::r,0,a,b,c=>by have:=c (by simp);simp only[ai,nY,t_]at this;simp[iw,this]
 |x::r,j+1,a,b,c=>by have d:=b 0 (by omega);simp only[ai,nY,t_]at d;have:=MO t r j (by simpa using a) (fun i hi=>by simpa[ai]using b (i+1) (by omega)) (fun h=>by simpa[ai]using c (by simpa using h));simp[iw,d,this]
def e3(t:T):aH:=[aa t.f,aa t.v,.d (ao U t.kids)]
def qB(t:T):aH:=[aa t.f,aa t.v,.d (ao .sub t.kids)]
def kc(l:ah):aH:=(l.map e3).flatten
def rT(cs:List aH):Prop:=∀c,c∈cs->c.length=3
theorem Hn(l:ah):rT (l.map e3):=fun c hc=>by obtain⟨t,_,rfl⟩:=cE.1 hc;rfl
theorem Ej{cs:List aH}(h:rT cs)(p:Nat)(x:aH)(hx:x.length=3):rT (cs.set p x):=fun c hc=>by
 rcases Hm hc with a|a
 ·exact h c a
 ·rw[a,hx]
theorem vC:∀{cs:List aH},rT cs->cs.flatten.length=cs.length*3
 | [],_=>rfl
 |c::r,h=>by have:=vC (cs:=r) (fun x hx=>h x (by simp[hx]));have hc:=h c (by simp);simp only[ls,cD,cY,this,hc];omega
theorem C5:∀{cs:List aH} (_:rT cs) (p:Nat) (a:p<cs.length),(cs.flatten.drop (p*3)).take 3=cs[p]
 |c::r,h,0,a=>by have hc:=h c (by simp);simp only[x8,eM,ls,List.getElem_cons_zero];rw[List.take_append_of_le_length (by omega),dC (by omega)]
 |c::r,h,p+1,a=>by have hc:=h c (by simp);have:=C5 (cs:=r) (fun x hx=>h x (by simp[hx])) p (by simpa using a);simp only[ls,List.getElem_cons_succ];rw[Do,vg (by omega),cp,show(p+1)*3-c.length=p*3 by omega];exact this
theorem xn:∀{cs:List aH} (_:rT cs) (p:Nat) (a:p<cs.length) (x:aH) (hx:x.length=3),splice cs.flatten (p*3) x=(cs.set p x).flatten
 |c::r,h,0,a,x,hx=>by have hc:=h c (by simp);unfold splice;simp only[x8,AN,cp,dM,ls,wh];rw[hx,Do,vg (by omega),cp,show 3-c.length=0 by omega,eM]
 |c::r,h,p+1,a,x,hx=>by
  have hc:=h c (by simp);have:=xn (cs:=r) (fun y hy=>h y (by simp[hy])) p (by simpa using a) x hx;unfold splice at this⊢
  simp only[ls,List.set_cons_succ];rw[List.take_append,dC (l:=c) (by omega),Do,vg (l:=c) (by omega),cp,show(p+1)*3-c.length=p*3 by omega,show(p+1)*3+x.length-c.length=p*3+x.length by omega,<-this];simp only[bW]
theorem nW(l:ah):(kc l).length=l.length*3:=by unfold kc;rw[vC (Hn l),cV]
theorem Ef:∀l:ah,kc l=f7 (l.map (T.enc U))
 | []=>rfl
 |t::r=>by
  have h:=Ef r;unfold f7 kc at h⊢
  simp[e3,flat]at h⊢
  exact h
def swp(l:ah)(p q:Nat):ah:=(l.set q (ai l p)).set p (ai l q)
theorem Cx(l:ah)(p q:Nat)(c:p<l.length)(d:q<l.length)(m:p≠q):∃b e j:aH,b.length=l.length*3/\e.length=l.length*3/\j.length=l.length*3/\
 ((kc l).drop (p*3)).take 3=e3 (ai l p)/\splice (kc l) (p*3) (qB (ai l p))=b/\(b.drop (q*3)).take 3=e3 (ai l q)/\splice b (q*3) (qB (ai l q))=e/\splice e (q*3) (e3 (ai l p))=j/\splice j (p*3) (e3 (ai l q))=kc (swp l p q):=by
 have n:=Hn l;have a:=Ej n p (qB (ai l p)) rfl;have h:=Ej a q (qB (ai l q)) rfl;have o:=Ej h q (e3 (ai l p)) rfl;refine⟨_,_,_,?_,?_,?_,?_,xn n p (by simpa using c) _ rfl,?_,xn a q (by simpa using d) _ rfl,xn h q (by simpa using d) _ rfl,?_⟩
 ·rw[vC a];simp
 ·rw[vC h];simp
 ·rw[vC o];simp
 ·unfold kc;rw[C5 n p (by simpa using c)];simp[a5 c]
 ·rw[C5 a q (by simpa using d),List.getElem_set_ne m];simp[a5 d]
 ·rw[xn o p (by simpa using c) _ rfl]
  unfold kc swp
  congr 1
  rw[List.map_set,List.map_set];apply Jq (by simp);intro k t s;simp only[List.getElem_set,Mp]
  by_cases g:p=k
  ·subst g;simp
  ·by_cases r:q=k
   ·subst r;simp[g]
   ·simp[g,r]
theorem ot(t:T):e3 t=[aa t.f,aa t.v,.d (ao U t.kids)]:=rfl
theorem Da(t:T):qB t=[aa t.f,aa t.v,.d (ao .sub t.kids)]:=rfl
theorem VP(l:ah)(i:Nat)(G:l.length<=1099511627776)(w:i+1<l.length)(d e o r:AV)(D:d.clr=d)(F:e.clr=e):
 aS XV [46,50] (.region true 0 [0,1,2,3,8,9] BW) ⟨[(0,.tsl true 0 3 l.length),(1,d),(2,e),(3,o),(8,r),(9,aa ((i+1:Nat):Int)),(34,au true)],[some (kc l)]⟩=some (.normal,⟨[(0,.tsl true 0 3 l.length),(1,d),(2,e),(3,o),(8,r),(9,aa ((i+1:Nat):Int))],[some (kc (swp l i (i+1)))]⟩):=by
 have p:IntKind.i64.wrap (((i+1:Nat):Int)-1)=(i:Int):=by rw[show((i+1:Nat):Int)-1=(i:Int)by omega];exact wrap_i64 (by omega) (by omega)
 obtain⟨I,H,K,t,u,s,f1,f2,f3,f4,q,g⟩:=Cx l i (i+1) (by omega) w (by omega);have m:=nW l;generalize kc (swp l i (i+1))=c4 at g⊢
 generalize kc l=c0 at f1 f2 m⊢
 generalize C:l.length=n at*
 have a:(0:Int)<=((i+1:Nat):Int)/\((i+1:Nat):Int)<n:=⟨by omega,by omega⟩;have b:((i+1:Nat):Int).toNat=i+1:=rfl;have h:(i:Int)<n:=by omega
 have k:i*3+3<=n*3:=by omega
 have j:(i+1)*3+3<=n*3:=by omega
 generalize ((i+1:Nat):Int)=J at p a b⊢
 simp only[ot,Da,ao]at f1 f2 f3 f4 q g;have c:∀x y z:AV,AV.clrs [x,y,z]=[x.clr,y.clr,z.clr]:=fun x y z=>by simp only[AV.clrs]
 simp[QE,p,a,b,h,m,t,u,s,f1,f2,f3,f4,q,g,k,j,c,bb,aY,a6,ba]
theorem WE(a b c d e f:Int)(B:az)(s:B.length=3):
 bo XV [] 3 [2,3,26,27,28] iZ ⟨[(2,.ptr 1 0),(3,.ptr 2 0),(26,.d (.sl .sub (jd a b c d e f))),(27,aa 3),(28,aa 0)],B⟩=
  some (match runN (kU a b c d e f) 3 () 0 with
   | .inl _=>(.exit 0,⟨[(2,.ptr 1 0),(3,.ptr 2 0),(26,.d (.sl .sub (jd a b c d e f))),(27,aa 3),(28,aa 3),(29,au false)],B⟩)
   | .inr r=>(.ret,⟨[(4,aa r.1)],B++[some [aa r.2.1,aa r.2.2]]⟩)):=by
 obtain⟨z,h,g,rfl⟩:∃z h g,B=[z,h,g]:=by
  match B,s with
  | [z,h,g],_=>exact⟨z,h,g,rfl⟩
 have key:=bE (X:=XV) (T:=[]) (L:=3) (live:=[2,3,26,27,28]) (b:=iZ) (n:=3) (γ:=Int×(Int×Int)) (st:=fun(_:Unit) i=>⟨[(2,.ptr 1 0),(3,.ptr 2 0),(26,.d (.sl .sub (jd a b c d e f))),(27,aa 3),(28,aa i)],[z,h,g]⟩) (step:=kU a b c d e f)
  (F:=fun _=>(.exit 0,⟨[(2,.ptr 1 0),(3,.ptr 2 0),(26,.d (.sl .sub (jd a b c d e f))),(27,aa 3),(28,aa 3),(29,au false)],[z,h,g]⟩)) (R:=fun r=>(.ret,⟨[(4,aa r.1)],[z,h,g]++[some [aa r.2.1,aa r.2.2]]⟩))
  (fun _=>⟨by simp,by simp[iZ]⟩)
  (fun _ i hi=>by
   have p:=aV (n:=i) (by omega);have j:(i:Int)<3:=by omega
   have m:=NI a b c d e f i hi;unfold kU;generalize kT a b c d e f i=q at m;obtain⟨x,y⟩:=q;simp only at m⊢
   by_cases k:x<y
   ·rw[ay k]
    refine⟨by simp,?_⟩;simp[iZ,j,m,cut,k,aY,splice,aW,bb,ba]
   ·rw[aD k]
    by_cases o:x>y
    ·rw[ay o]
     refine⟨by simp,?_⟩;simp[iZ,j,m,cut,k,o,aY,splice,aW,bb,ba]
    ·rw[aD o]
     refine⟨_,by simp[iZ,j,m,cut,k,o,p,aY,splice,aW,bb,ba];rfl,?_⟩;simp[aA,aB])
  3 () 0 ⟨[(2,.ptr 1 0),(3,.ptr 2 0),(26,.d (.sl .sub (jd a b c d e f))),(27,aa 3),(28,aa 0)],[z,h,g]⟩ (by omega) (by simp[aA,aB])
 rw[key];cases runN (kU a b c d e f) 3 () 0<;>rfl
theorem qxu(z:Option aH)(f v:Int)(ks:ah)(e v':Int)(a:ah)(p:ks.length<=1099511627776)(g:ks.length=a.length)
 (k:∀s s',s∈ks->s'∈a->ak XV 6 [.d (s.enc .sub),.d (s'.enc .sub)] []=some (aa (T.cmp s s'),[])):
 bo XV [] 3 [2,3,47,48] lw ⟨[(2,.ptr 1 0),(3,.ptr 2 0),(47,aa ks.length),(48,aa 0)],z::ck f v ks e v' a⟩=
  some (if T.cmps ks a=0 then(.exit 3,⟨[(2,.ptr 1 0),(3,.ptr 2 0),(47,aa ks.length),(48,aa ks.length),(49,au false)],z::ck f v ks e v' a⟩)else(.ret,⟨[(4,aa (T.cmps ks a))],z::ck f v ks e v' a⟩)):=by
 have h:=bE (X:=XV) (T:=[]) (L:=3) (live:=[2,3,47,48]) (b:=lw) (n:=ks.length) (γ:=Int) (st:=fun(_:Unit) i=>⟨[(2,.ptr 1 0),(3,.ptr 2 0),(47,aa ks.length),(48,aa i)],z::ck f v ks e v' a⟩) (step:=lJ ks a)
  (F:=fun _=>(.exit 3,⟨[(2,.ptr 1 0),(3,.ptr 2 0),(47,aa ks.length),(48,aa ks.length),(49,au false)],z::ck f v ks e v' a⟩)) (R:=fun r=>(.ret,⟨[(4,aa r)],z::ck f v ks e v' a⟩))
  (fun _=>⟨by simp,by simp[lw]⟩)
  (fun _ i hi=>by
   have o:=aV (n:=i) (by omega);have c:i<a.length:=by omega
   have hc:=k _ _ (bL hi) (bL c);unfold lJ ck
   by_cases j:T.cmp (ai ks i) (ai a i)=0
   ·rw[j]at hc⊢
    simp only[d0,sN,if_false];refine⟨_,by simp[lw,C0,hi,c,o,cut,a5 hi,a5 c,hc,aW];rfl,?_⟩;simp[aA,aB]
   ·simp only[d0,j,md,if_true]
    have m:(T.cmp (ai ks i) (ai a i) !=0)=true:=by simp[j]
    refine⟨by simp,?_⟩;simp[lw,C0,hi,c,cut,a5 hi,a5 c,hc,aW,m])
  ks.length () 0 ⟨[(2,.ptr 1 0),(3,.ptr 2 0),(47,aa ks.length),(48,aa 0)],z::ck f v ks e v' a⟩ (by omega) (by simp[aA,aB,ck])
 rw[wA ks a g _ _ (by omega)]at h;simp only[eM]at h;rw[h]
 by_cases j:T.cmps ks a=0<;>simp[j]
theorem VC(z:Option aH)(f v:Int)(ks:ah)(c v':Int)(a:ah)(o:ks.length<=1099511627776)(p:a.length<=1099511627776)
 (e:∀s s',s∈ks->s'∈a->ak XV 6 [.d (s.enc .sub),.d (s'.enc .sub)] []=some (aa (T.cmp s s'),[])):
 ak XV 6 [.d ((T.node f v ks).enc .sub),.d ((T.node c v' a).enc .sub)] [z]=some (aa (T.cmp (.node f v ks) (.node c v' a)),[z]):=by
 rw[aL 6 v6 rfl];have h:=WE f c v v' ks.length a.length (z::ck f v ks c v' a) rfl;simp[v6,aY,a6,bb,ba,splice,aW,fj,List.replicate];simp only[jd,ck]at h;rw[h,yM];rcases N4 f c v v' ks.length a.length with⟨g,t,n,e3⟩|⟨r,g,q⟩
 ·rw[g]
  have b:ks.length=a.length:=by omega
  have j:=qxu z f v ks c v' a o b e;simp only[ck]at j;subst t;subst n
  simp[GT,aW];rw[j];have m:eQ f f v v ks.length a.length (T.cmps ks a)=T.cmps ks a:=by simp[eQ,b]
  rw[m]
  by_cases k:T.cmps ks a=0
  ·simp[k,Is]
  ·simp[k]
 ·rw[g,q];simp
theorem yC(z:Option aH)(a b:T)(g:a.inner<=1099511627776)(k:b.inner<=1099511627776):ak XV 6 [.d (a.enc .sub),.d (b.enc .sub)] [z]=some (aa (T.cmp a b),[z]):=by obtain⟨f,v,ks⟩:=a;obtain⟨h,v',c⟩:=b;simp only[T.inner]at g k;exact VC z f v ks h v' c (by omega) (by omega) (fun s s' j e=>Au s s' (by have:=T.qaD j;omega) (by have:=T.qaD e;omega))
theorem Ho(A Z:ah)(x:T):ai (A++x::Z) A.length=x:=by simp[ai]
theorem AY(A M Z:ah)(x y:T)(q:Nat)(c:q=A.length+1+M.length):swp (A++x::(M++y::Z)) A.length q=A++y::(M++x::Z):=by
 subst c;have a:ai (A++x::(M++y::Z)) (A.length+1+M.length)=y:=by have:=Ho (A++x::M) Z y;simp only[cD,cY,bW,c_]at this;rw[show A.length+1+M.length=A.length+(M.length+1)by omega];exact this
 have b:=Ho A (M++y::Z) x;unfold swp;rw[a,b];have s1:(A++x::(M++y::Z)).set (A.length+1+M.length) x=A++x::(M++x::Z):=by have:=vP (s:=A++x::M) (t:=y::Z) (A.length+1+M.length) x (by simp;omega);simp only[bW,c_,cD,cY]at this;rw[this,show A.length+1+M.length-(A.length+(M.length+1))=0 by omega];rfl
 rw[s1,vP _ _ (bN _),m_];rfl
theorem J8(l:ah)(p q:Nat)(h:p≠q):swp l p q=swp l q p:=by unfold swp;rw[List.set_comm _ _ h]
theorem Po(l:ah)(a b i:Nat)(n:Int)(H:l.length<=1099511627776)(t:a+i<l.length)(C:b+i<l.length)(G:b≠a):
 aS XV [29,35] (.region true 0 [0,1,2,3,10] yV) ⟨[(0,.tsl true 0 3 l.length),(1,aa a),(2,aa b),(3,aa n),(10,aa i),(13,au true)],[some (kc l)]⟩=some (.normal,⟨[(0,.tsl true 0 3 l.length),(1,aa a),(2,aa b),(3,aa n),(10,aa i)],[some (kc (swp l (b+i) (a+i)))]⟩):=by
 have e:IntKind.i64.wrap ((a:Int)+i)=((a+i:Nat):Int):=by rw[wrap_i64 (by omega) (by omega)];omega
 have g:IntKind.i64.wrap ((b:Int)+i)=((b+i:Nat):Int):=by rw[wrap_i64 (by omega) (by omega)];omega
 obtain⟨M,I,N,w,D,u,f1,f2,f3,f4,s,o⟩:=Cx l (b+i) (a+i) C t (by omega);have r:=nW l;generalize kc (swp l (b+i) (a+i))=c4 at o⊢
 generalize kc l=c0 at f1 f2 r⊢
 generalize F:l.length=m at*
 have d:(0:Int)<=((a+i:Nat):Int)/\((a+i:Nat):Int)<m:=⟨by omega,by omega⟩;have k:(0:Int)<=((b+i:Nat):Int)/\((b+i:Nat):Int)<m:=⟨by omega,by omega⟩;have h:((a+i:Nat):Int).toNat=a+i:=rfl;have c:((b+i:Nat):Int).toNat=b+i:=rfl;have q:(a+i)*3+3<=m*3:=by omega
 have p:(b+i)*3+3<=m*3:=by omega
 generalize ((a+i:Nat):Int)=J at e d h⊢
 generalize ((b+i:Nat):Int)=K at g k c⊢
 simp only[ot,Da,ao]at f1 f2 f3 f4 s o;have j:∀x y z:AV,AV.clrs [x,y,z]=[x.clr,y.clr,z.clr]:=fun x y z=>by simp only[AV.clrs]
 simp[q2D,e,g,d,h,k,c,r,w,D,u,f1,f2,f3,f4,s,o,q,p,j,bb,aY,a6,ba]
def dP(A P Q R Z:ah)(i:Nat):ah:=A++R.take i++P.drop i++Q++P.take i++R.drop i++Z
theorem Wy(A P Q R Z:ah)(i:Nat)(h:P.length=R.length):(dP A P Q R Z i).length=(A++P++Q++R++Z).length:=by simp[dP];omega
theorem qMw(A P Q R Z:ah)(i:Nat)(h:P.length=R.length)(hi:i<P.length):swp (dP A P Q R Z i) (A.length+P.length+Q.length+i) (A.length+i)=dP A P Q R Z (i+1):=by
 have a:i<R.length:=by omega
 have d:dP A P Q R Z i=(A++R.take i)++P[i]::((P.drop (i+1)++Q++P.take i)++R[i]::(R.drop (i+1)++Z)):=by unfold dP;rw[dV hi,dV a];simp only[bW,c_]
 have c:dP A P Q R Z (i+1)=(A++R.take i)++R[i]::((P.drop (i+1)++Q++P.take i)++P[i]::(R.drop (i+1)++Z)):=by unfold dP;rw[<-List.take_append_getElem hi,<-List.take_append_getElem a];simp only[bW,c_,cp]
 have b:(A++R.take i).length=A.length+i:=by simp;omega
 rw[d,c,J8 _ _ _ (by omega),<-b];exact AY _ _ _ _ _ _ (by simp;omega)
theorem Tt(A P Q R Z:ah)(h:P.length=R.length)(j:(A++P++Q++R++Z).length<=1099511627776)(f:AV)(s:f.clr=f):
 ak XV 175 [.tsl true 0 3 (A++P++Q++R++Z).length,aa A.length,aa (A.length+P.length+Q.length:Nat),aa P.length,f] [some (kc (A++P++Q++R++Z))]=some (.d (.tup []),[some (kc (A++R++Q++P++Z))]):=by
 rw[aL 175 yS rfl];have c:∀i,(dP A P Q R Z i).length=(A++P++Q++R++Z).length:=fun i=>Wy A P Q R Z i h
 have q:dP A P Q R Z 0=A++P++Q++R++Z:=by simp[dP]
 have p:dP A P Q R Z P.length=A++R++Q++P++Z:=by unfold dP;rw[vg (l:=R) (by omega),dC (l:=R) (by omega)];simp
 rw[<-q,<-p];generalize k:(A++P++Q++R++Z).length=N at j c;have m:N=A.length+P.length+Q.length+R.length+Z.length:=by rw[<-k];simp;omega
 rw[c 0];have a:=bE (X:=XV) (T:=[29,35]) (L:=1) (live:=[0,1,2,3,10]) (b:=CB) (n:=P.length) (γ:=Unit) (st:=fun(_:Unit) i=>⟨[(0,.tsl true 0 3 N),(1,aa A.length),(2,aa (A.length+P.length+Q.length:Nat)),(3,aa P.length),(10,aa i)],[some (kc (dP A P Q R Z i))]⟩) (step:=fun _ _=> .inl ())
  (F:=fun _=>(.exit 0,⟨[(0,.tsl true 0 3 N),(1,aa A.length),(2,aa (A.length+P.length+Q.length:Nat)),(3,aa P.length),(10,aa P.length),(13,au false)],[some (kc (dP A P Q R Z P.length))]⟩)) (R:=fun _=>(.ret,⟨[],[]⟩))
  (fun _=>⟨by simp,by simp[CB]⟩)
  (fun _ i hi=>by
   have o:=aV (n:=i) (by omega);have e:=Po (dP A P Q R Z i) A.length (A.length+P.length+Q.length) i P.length (by rw[c];exact j) (by rw[c];omega) (by rw[c];omega) (by omega);rw[qMw A P Q R Z i h hi,c]at e;have r:(i:Int)<P.length:=by omega
   generalize g:kc (dP A P Q R Z (i+1))=c2 at e;generalize kc (dP A P Q R Z i)=c1 at e⊢
   exact⟨⟨[(0,.tsl true 0 3 N),(1,aa A.length),(2,aa (A.length+P.length+Q.length:Nat)),(3,aa P.length),(10,aa (i+1:Nat))],[some c2]⟩,by
    simp[CB,hi];simp only[qN]at e;rw[e];simp[o],by simp[aA,aB,fl,g]⟩)
  P.length () 0 ⟨[(0,.tsl true 0 3 N),(1,aa A.length),(2,aa (A.length+P.length+Q.length:Nat)),(3,aa P.length),(10,aa 0)],[some (kc (dP A P Q R Z 0))]⟩ (by omega) (by simp[aA,aB,fl])
 rw[dv]at a;generalize kc (dP A P Q R Z P.length)=c2 at a⊢
 generalize kc (dP A P Q R Z 0)=c1 at a⊢
 generalize ((A.length+P.length+Q.length:Nat):Int)=K at a⊢
 simp[yS];rw[a];simp
theorem ED(A P Q R Z:ah)(a b n N:Nat)(g:a=A.length)(h:b=A.length+P.length+Q.length)(c:n=P.length)(j:n=R.length)(k:N=(A++P++Q++R++Z).length)(e:N<=1099511627776)(f:AV)(m:f.clr=f):
 ak XV 175 [.tsl true 0 3 N,aa a,aa b,aa n,f] [some (kc (A++P++Q++R++Z))]=some (.d (.tup []),[some (kc (A++R++Q++P++Z))]):=by
 subst g;subst h;subst c;subst k
 exact Tt A P Q R Z j e f m
theorem Tn(G:ah)(m N:Nat)(M:N<=1099511627776)(f:AV)(n:f.clr=f)(s:f.safe 1=true):∀(k:Nat) (A X Y Z:ah),X.length+Y.length<=k->0<X.length->0<Y.length->A.length+X.length=m->(A++X++Y++Z).length=N->G=A++Y++X++Z->
 ∃(b a d g:ah),a.length=d.length/\b.length+a.length=m/\(b++a++d++g).length=N/\G=b++d++a++g/\
  bo XV [] 1 [0,2,4,10,11] vG ⟨[(0,.tsl true 0 3 N),(2,aa m),(4,f),(10,aa X.length),(11,aa Y.length)],[some (kc (A++X++Y++Z))]⟩=some (.exit 0,⟨[(0,.tsl true 0 3 N),(2,aa m),(4,f),(10,aa a.length),(11,aa a.length),(20,au false)],[some (kc (b++a++d++g))]⟩):=by
 intro k
 induction k with
 |zero=>intro A X Y Z h1 h2;omega
 |succ k V=>
  intro A X Y Z hk hx hy hm O o;have h4:A.length+X.length+Y.length+Z.length=N:=by rw[<-O];simp;omega
  have head:∀(x y:Nat) (c:aH),aA 1 [0,2,4,10,11] ⟨[(0,.tsl true 0 3 N),(2,aa m),(4,f),(10,aa x),(11,aa y)],[some c]⟩=some ⟨[(0,.tsl true 0 3 N),(2,aa m),(4,f),(10,aa x),(11,aa y)],[some c]⟩:=fun x y c=>by simp[aA,aB,fl,s]
  rcases Nat.lt_trichotomy X.length Y.length with h3|h|h5
  ·
   have j:(Y.take (Y.length-X.length)).length=Y.length-X.length:=by simp
   have J:(Y.drop (Y.length-X.length)).length=X.length:=by simp;omega
   generalize r:Y.take (Y.length-X.length)=Q at j;generalize hR:Y.drop (Y.length-X.length)=R at J;have S:Y=Q++R:=by rw[<-r,<-hR,dK]
   have e:=ED A X Q R Z A.length (m+Y.length-X.length) X.length N rfl (by omega) rfl J.symm (by simp;omega) M f n;obtain⟨b,a,d,g,p,w,D,I,z⟩:=V A R Q (X++Z) (by omega) (by omega) (by omega) (by omega) (by simp;omega) (by rw[o,S];simp);refine⟨b,a,d,g,p,w,D,I,?_⟩;rw[<-z,J,j];have F:A++X++Y++Z=A++X++Q++R++Z:=by rw[S];simp
   have e2:A++R++Q++(X++Z)=A++R++Q++X++Z:=by simp
   rw[F,e2];have H:IntKind.i64.wrap ((m:Int)-X.length)=(A.length:Int):=by rw[wrap_i64 (by omega) (by omega)];omega
   have w2:IntKind.i64.wrap ((m:Int)+Y.length)=((m+Y.length:Nat):Int):=by rw[wrap_i64 (by omega) (by omega)];omega
   have w3:IntKind.i64.wrap (((m+Y.length:Nat):Int)-X.length)=((m+Y.length-X.length:Nat):Int):=by rw[wrap_i64 (by omega) (by omega)];omega
   have u:IntKind.i64.wrap ((Y.length:Int)-X.length)=((Y.length-X.length:Nat):Int):=by rw[wrap_i64 (by omega) (by omega)];omega
   refine eb (head _ _ _) ?_;have t:((X.length:Int) !=(Y.length:Int))=true:=by simp;omega
   have q:¬((Y.length:Int)<X.length):=by omega
   generalize kc (A++X++Q++R++Z)=c1 at e⊢
   generalize kc (A++R++Q++X++Z)=c2 at e⊢
   generalize ((m+Y.length-X.length:Nat):Int)=gv1 at*
   generalize ((m+Y.length:Nat):Int)=gv2 at*
   generalize ((Y.length-X.length:Nat):Int)=gv3 at*
   generalize (X.length:Int)=vx at*
   generalize (Y.length:Int)=vy at*
   simp[vG,t,q,H,w2,w3,u,e,n]
  ·
   refine⟨A,X,Y,Z,h,hm,O,o,?_⟩;rw[<-h];refine dN (head _ _ _) ?_ (by simp);simp[vG]
  ·have C:(X.take Y.length).length=Y.length:=by simp;omega
   have j:(X.drop Y.length).length=X.length-Y.length:=by simp
   generalize hP:X.take Y.length=P at C;generalize r:X.drop Y.length=Q at j;have K:X=P++Q:=by rw[<-hP,<-r,dK]
   have e:=ED A P Q Y Z A.length m Y.length N rfl (by omega) C.symm rfl (by simp;omega) M f n;obtain⟨b,a,d,g,p,w,D,I,z⟩:=V (A++Y) Q P Z (by omega) (by omega) (by omega) (by simp;omega) (by simp;omega) (by rw[o,K];simp);refine⟨b,a,d,g,p,w,D,I,?_⟩;rw[<-z,C,j];have F:A++X++Y++Z=A++P++Q++Y++Z:=by rw[K];simp
   rw[F];have H:IntKind.i64.wrap ((m:Int)-X.length)=(A.length:Int):=by rw[wrap_i64 (by omega) (by omega)];omega
   have u:IntKind.i64.wrap ((X.length:Int)-Y.length)=((X.length-Y.length:Nat):Int):=by rw[wrap_i64 (by omega) (by omega)];omega
   refine eb (head _ _ _) ?_;have t:((X.length:Int) !=(Y.length:Int))=true:=by simp;omega
   have q:((Y.length:Int)<X.length):=by omega
   generalize kc (A++P++Q++Y++Z)=c1 at e⊢
   generalize kc (A++Y++Q++P++Z)=c2 at e⊢
   generalize ((X.length-Y.length:Nat):Int)=gv3 at*
   generalize (X.length:Int)=vx at*
   generalize (Y.length:Int)=vy at*
   simp[vG,t,q,H,u,e,n]
theorem Y7(A X Y Z:ah)(a m b N:Nat)(D:a=A.length)(u:m=A.length+X.length)(G:b=A.length+X.length+Y.length)(n:N=(A++X++Y++Z).length)(o:N<=1099511627776)(hx:0<X.length)(hy:0<Y.length)(f:AV)(k:f.clr=f)(j:f.safe 1=true):
 ak XV 174 [.tsl true 0 3 N,aa a,aa m,aa b,f] [some (kc (A++X++Y++Z))]=some (.d (.tup []),[some (kc (A++Y++X++Z))]):=by
 have H:A.length+X.length+Y.length+Z.length=N:=by rw[n];simp;omega
 obtain⟨e,c,h,g,r,F,t,y,s⟩:=Tn (A++Y++X++Z) m N o f k j (X.length+Y.length) A X Y Z (bN _) hx hy u.symm n.symm rfl;have C:e.length+c.length+h.length+g.length=N:=by rw[<-t];simp;omega
 have p:=ED e c [] h g e.length m c.length N rfl (by simp;omega) rfl r (by simp;omega) o f k;simp only[cR]at p;rw[aL 174 CU rfl,y];have w:IntKind.i64.wrap ((m:Int)-a)=(X.length:Int):=by rw[wrap_i64 (by omega) (by omega)];omega
 have q:IntKind.i64.wrap ((b:Int)-m)=(Y.length:Int):=by rw[wrap_i64 (by omega) (by omega)];omega
 have z:IntKind.i64.wrap ((m:Int)-c.length)=(e.length:Int):=by rw[wrap_i64 (by omega) (by omega)];omega
 generalize kc (A++X++Y++Z)=c1 at*
 generalize kc (e++c++h++g)=c2 at*
 generalize kc (e++h++c++g)=c3 at*
 simp[CU,w,q];rw[s];simp[Kz,z,k,p]
theorem oO(l:ah)(i:Nat)(hi:i<l.length):((kc l).drop (i*3)).take 3=e3 (ai l i):=by unfold kc;rw[C5 (Hn l) i (by simpa using hi)];simp[a5 hi]
theorem q2P(l:ah)(a:Nat)(j:Nat)(z:l.length<=1099511627776)(q:j+1<l.length)(w:a<j+1)(o:∀t,t∈l->t.inner<=1099511627776)(m s:AV):
 aS XV [46,50] (.region true 0 [0,1,2,3,8,9,34] Az) ⟨[(0,.tsl true 0 3 l.length),(1,aa a),(2,m),(3,.fn 6 []),(8,s),(9,aa ((j+1:Nat):Int))],[some (kc l)]⟩=some (.normal,⟨[(0,.tsl true 0 3 l.length),(1,aa a),(2,m),(3,.fn 6 []),(8,s),(9,aa ((j+1:Nat):Int)),(34,au (decide (T.cmp (ai l (j+1)) (ai l j)<0)))],[some (kc l)]⟩):=by
 have p:IntKind.i64.wrap (((j+1:Nat):Int)-1)=(j:Int):=by rw[show((j+1:Nat):Int)-1=(j:Int)by omega];exact wrap_i64 (by omega) (by omega)
 have hc:=yC (some (kc l)) (ai l (j+1)) (ai l j) (o _ (bL q)) (o _ (bL (by omega)));have f1:=oO l j (by omega);have f2:=oO l (j+1) q;have k:=nW l;generalize T.cmp (ai l (j+1)) (ai l j)=r at hc⊢
 generalize kc l=c0 at f1 f2 k hc⊢
 generalize u:l.length=n at*
 have b:(0:Int)<=((j+1:Nat):Int)/\((j+1:Nat):Int)<n:=⟨by omega,by omega⟩;have c:((j+1:Nat):Int).toNat=j+1:=rfl;have e:(j:Int)<n:=by omega
 have h:j*3+3<=n*3:=by omega
 have g:(j+1)*3+3<=n*3:=by omega
 have d:((a:Int)<((j+1:Nat):Int)):=by omega
 generalize ((j+1:Nat):Int)=J at p b c d⊢
 obtain⟨C,F,y⟩:=ai l (j+1);obtain⟨D,vb,G⟩:=ai l j;simp only[ot,ao]at f1 f2;simp[NF,p,b,c,e,d,k,f1,f2,h,g,hc]
theorem Dv(A Z:ah)(x:T)(i:Nat)(h:i=A.length):ai (A++x::Z) i=x:=by subst h;exact Ho A Z x
theorem qw5(N a:Nat)(V:N<=1099511627776)(m p:Int)(x:T):∀(k:Nat) (A S b:ah),S.length=k->A.length=a->(A++S++x::b).length=N->(∀t,t∈A++S++x::b->t.inner<=1099511627776)->
 ∃q o:ah,S=q++o/\(∀s,s∈o->T.cmp x s<0)/\(∀s,q.getLast?=some s->¬T.cmp x s<0)/\
  ∀(s0:XS),s0.r=[(0,.tsl true 0 3 N),(1,aa a),(2,aa m),(3,.fn 6 []),(8,aa p),(9,aa (a+S.length:Nat))]->s0.B=[some (kc (A++S++x::b))]->
  ∃w,bo XV [46,50] 1 [0,1,2,3,8,9] xX s0=some (.exit 2,⟨[(0,.tsl true 0 3 N),(1,aa a),(2,aa m),(3,.fn 6 []),(8,aa p),(9,aa (a+q.length:Nat)),(34,w)],[some (kc (A++q++x::(o++b)))]⟩):=by
 have head:∀(y:Int) (c:aH) (s0:XS),s0.r=[(0,.tsl true 0 3 N),(1,aa a),(2,aa m),(3,.fn 6 []),(8,aa p),(9,aa y)]->s0.B=[some c]->aA 1 [0,1,2,3,8,9] s0=some ⟨[(0,.tsl true 0 3 N),(1,aa a),(2,aa m),(3,.fn 6 []),(8,aa p),(9,aa y)],[some c]⟩:=fun y c s0 d j=>by
  obtain⟨r,B⟩:=s0;simp only at d j;subst d;subst j
  simp[aA,aB,fl,ic,eL]
 intro k
 induction k with
 |zero=>intro A S b G D g K;have:S=[]:=ib.1 G;subst this;refine⟨[],[],rfl,by simp,by simp,fun s0 d j=>⟨au false,?_⟩⟩;refine dN (head _ _ s0 d j) ?_ (by simp);simp[xX,NF,F4]
 |succ k ih=>
  intro A S b G D g K;have C:S≠[]:=by intro h;simp[h]at G
  obtain⟨S',s,rfl⟩:∃S' s,S=S'++[s]:=⟨S.dropLast,S.getLast C,(xo C).symm⟩;have O:S'.length=k:=by simpa using G
  have u:A++(S'++[s])++x::b=(A++S')++s::([]++x::b):=by simp
  have Q:A++S'++x::(s::b)=(A++S')++x::([]++s::b):=by simp
  have h3:A.length+S'.length+b.length+2=N:=by rw[<-g];simp;omega
  have z:a+(S'++[s]).length=(a+S'.length)+1:=by simp;omega
  have t0:ai (A++(S'++[s])++x::b) (a+S'.length)=s:=by rw[u];exact Dv _ _ _ _ (by simp[D])
  have t1:ai (A++(S'++[s])++x::b) (a+S'.length+1)=x:=Dv _ _ _ _ (by simp;omega);have hc:=q2P (A++(S'++[s])++x::b) a (a+S'.length) (by rw[g];exact V) (by rw[g];omega) (by omega) K (aa m) (aa p);rw[t0,t1,g]at hc
  by_cases F:T.cmp x s<0
  ·have e:=VP (A++(S'++[s])++x::b) (a+S'.length) (by rw[g];exact V) (by rw[g];omega) (aa a) (aa m) (.fn 6 []) (aa p) (by simp) (by simp)
   have H:swp (A++(S'++[s])++x::b) (a+S'.length) (a+S'.length+1)=A++S'++x::(s::b):=by rw[u,Q,show a+S'.length=(A++S').length by simp[D]];exact AY _ [] _ _ _ _ (by simp)
   rw[H,g]at e;obtain⟨q,o,e1,e2,e3,Z⟩:=ih A S' (s::b) O D (by simp;omega) (fun t Y=>K t (by
    simp only[bu,cC]at Y;rcases Y with(h|h)|h|h|h<;>simp[h]))
   refine⟨q,o++[s],by rw[e1];simp,fun y hy=> ?_,e3,fun s0 d j=> ?_⟩
   ·rcases bu.1 hy with h|h
    ·exact e2 y h
    ·simp at h;subst h;exact F
   ·rw[z]at d
    have hw:=wrap_i64 (n:=((a+S'.length:Nat):Int)) (by omega) (by omega);obtain⟨w,P⟩:=Z ⟨[(0,.tsl true 0 3 N),(1,aa a),(2,aa m),(3,.fn 6 []),(8,aa p),(9,aa (a+S'.length:Nat))],[some (kc (A++S'++x::(s::b)))]⟩ rfl rfl;refine⟨w,?_⟩;have R:o++[s]++b=o++(s::b):=by simp
    rw[R,<-P];refine eb (head _ _ s0 d j) ?_;have M:IntKind.i64.wrap (((a+S'.length+1:Nat):Int)-1)=((a+S'.length:Nat):Int):=by rw[show((a+S'.length+1:Nat):Int)-1=((a+S'.length:Nat):Int)by omega];exact hw
    simp only[F,decide_true]at hc;generalize kc (A++S'++x::(s::b))=c2 at e⊢
    generalize kc (A++(S'++[s])++x::b)=c1 at hc e⊢
    generalize ((a+S'.length+1:Nat):Int)=J at*
    generalize ((a+S'.length:Nat):Int)=I at*
    simp only[xX,FU,hc];simp;rw[e];simp[F4,M]
  ·refine⟨S'++[s],[],by simp,by simp,fun y hy=> ?_,fun s0 d j=>⟨au false,?_⟩⟩
   ·simp at hy;subst hy;exact F
   ·rw[z]at d⊢
    refine dN (head _ _ s0 d j) ?_ (by simp);simp only[F,decide_false]at hc;simp only[cp];generalize kc (A++(S'++[s])++x::b)=c1 at hc⊢
    generalize ((a+S'.length+1:Nat):Int)=J at*
    simp only[xX,FU,hc];simp
theorem Sg{b g:ah}{x:T}(h:b4 (b++g))(p:∀s,s∈g->T.cmp x s<0)(m:∀s,b.getLast?=some s->¬T.cmp x s<0):b4 (b++x::g):=by
 unfold b4 at*
 rw[nX]at h⊢
 obtain⟨k,o,n⟩:=h;have hx:∀s,s∈b->cZ s x:=by
  intro s c;have a:b≠[]:=fun d=>by rw[d]at c;simp at c
  have j:=sO (m (b.getLast a) (IK a))
  by_cases d:s=b.getLast a
  ·rw[d];exact j
  ·have q:s∈b.dropLast:=by
    have:=xo a;rw[<-this]at c;rcases bu.1 c with h|h
    ·exact h
    ·simp at h;exact absurd h d
   have r:(b.dropLast++[b.getLast a]).Pairwise cZ:=by rw[xo];exact k
   exact vu ((nX.1 r).2.2 s q _ (by simp)) j
 refine⟨k,ni.2 ⟨fun s c=>rV (p s c),o⟩,fun s c t e=> ?_⟩;rcases cC.1 e with rfl|e
 ·exact hx s c
 ·exact n s c t e
theorem Ug(N a b:Nat)(Q:N<=1099511627776)(A Z:ah)(hA:A.length=a):∀(R S:ah),0<S.length->b=a+S.length+R.length->(A++S++R++Z).length=N->(∀t,t∈A++S++R++Z->t.inner<=1099511627776)->b4 S->
 ∃W:ah,W.Perm (S++R)/\b4 W/\
  ∀(s0:XS),s0.r=[(0,.tsl true 0 3 N),(1,aa a),(2,aa b),(3,.fn 6 []),(8,aa (a+S.length:Nat))]->s0.B=[some (kc (A++S++R++Z))]->
  bo XV [46,50] 1 [0,1,2,3,8] py s0=some (.exit 0,⟨[(0,.tsl true 0 3 N),(1,aa a),(2,aa b),(3,.fn 6 []),(8,aa b),(14,au false)],[some (kc (A++W++Z))]⟩):=by
 have head:∀(y:Int) (c:aH) (s0:XS),s0.r=[(0,.tsl true 0 3 N),(1,aa a),(2,aa b),(3,.fn 6 []),(8,aa y)]->s0.B=[some c]->aA 1 [0,1,2,3,8] s0=some ⟨[(0,.tsl true 0 3 N),(1,aa a),(2,aa b),(3,.fn 6 []),(8,aa y)],[some c]⟩:=fun y c s0 k j=>by
  obtain⟨r,B⟩:=s0;simp only at k j;subst k;subst j
  simp[aA,aB,fl,ic,eL]
 intro R
 induction R with
 |nil=>
  intro S hS C z m F;refine⟨S,by simp,F,fun s0 k j=> ?_⟩;have H:b=a+S.length:=by simpa using C
  rw[<-H]at k;rw[cR]at j;refine dN (head _ _ s0 k j) ?_ (by simp);simp[py]
 |cons x R V=>
  intro S hS C z m F;obtain⟨d,e,u,e2,e3,O⟩:=qw5 N a Q b (a+S.length:Nat) x S.length A S (R++Z) rfl hA (by rw[<-z];simp) (fun t s=>m t (by
   simp only[bu,cC]at s⊢
   rcases s with(h|h)|h|h|h<;>simp[h]))
  have Y:b4 (d++x::e):=Sg (by rw[<-u];exact F) e2 e3;have g:(d++x::e).length=S.length+1:=by rw[u];simp;omega
  have o:(d++x::e).Perm (S++[x]):=by
   rw[u];exact(yz).trans (by
    have:=xz (l₁:=[x]) (l₂:=d++e);simpa using this)
  have K:(A++(d++x::e)++R++Z).length=N:=by rw[<-z,u];simp;omega
  obtain⟨W,w1,P,w3⟩:=V (d++x::e) (by rw[g];omega) (by rw[g,C];simp;omega) K (fun t s=>m t (by
   rw[u];simp only[bu,cC]at s⊢
   rcases s with((h|h|h|h)|h)|h<;>simp[h])) Y
  refine⟨W,w1.trans ((o.append_right R).trans (by simp)),P,fun s0 k j=> ?_⟩;have h3:A.length+S.length+(R.length+1)+Z.length=N:=by rw[<-z];simp;omega
  have G:((a+S.length:Nat):Int)<(b:Int):=by simp only[cY]at C;omega
  obtain⟨w,q⟩:=O ⟨[(0,.tsl true 0 3 N),(1,aa a),(2,aa b),(3,.fn 6 []),(8,aa (a+S.length:Nat)),(9,aa (a+S.length:Nat))],[some (kc (A++S++x::(R++Z)))]⟩ rfl rfl;have D:A++S++x::R++Z=A++S++x::(R++Z):=by simp
  rw[D]at j;have hw:=aV (n:=a+S.length) (by omega);have p:=w3 ⟨[(0,.tsl true 0 3 N),(1,aa a),(2,aa b),(3,.fn 6 []),(8,aa (a+(d++x::e).length:Nat))],[some (kc (A++(d++x::e)++R++Z))]⟩ rfl rfl;rw[<-p];refine eb (head _ _ s0 k j) ?_;have M:A++(d++x::e)++R++Z=A++d++x::(e++(R++Z)):=by simp
  rw[M,g,show a+(S.length+1)=a+S.length+1 by omega];generalize kc (A++d++x::(e++(R++Z)))=c2 at q⊢
  generalize kc (A++S++x::(R++Z))=c1 at q⊢
  generalize ((a+S.length+1:Nat):Int)=J at*
  generalize ((a+S.length:Nat):Int)=I at*
  simp[py,G];rw[q];simp[hw]
theorem Lz(A X Z:ah)(a b N:Nat)(k:a=A.length)(o:b=A.length+X.length)(m:N=(A++X++Z).length)(s:N<=1099511627776)(e:∀t,t∈A++X++Z->t.inner<=1099511627776):
 ∃W:ah,W.Perm X/\b4 W/\ak XV 172 [.tsl true 0 3 N,aa a,aa b,.fn 6 []] [some (kc (A++X++Z))]=some (.d (.tup []),[some (kc (A++W++Z))]):=by
 have u:A.length+X.length+Z.length=N:=by rw[m];simp;omega
 have p:=aV (n:=a) (by omega);cases X with
 |nil=>
  refine⟨[],j5 _,yG,?_⟩;rw[aL 172 pQ rfl];have g:b=a:=by simp at o;omega
  subst g;have c:bo XV [46,50] 1 [0,1,2,3,8] py ⟨[(0,.tsl true 0 3 N),(1,aa b),(2,aa b),(3,.fn 6 []),(8,aa (b+1:Nat))],[some (kc (A++[]++Z))]⟩=some (.exit 0,⟨[(0,.tsl true 0 3 N),(1,aa b),(2,aa b),(3,.fn 6 []),(8,aa (b+1:Nat)),(14,au false)],[some (kc (A++[]++Z))]⟩):=by
   refine dN (s0:=⟨[(0,.tsl true 0 3 N),(1,aa b),(2,aa b),(3,.fn 6 []),(8,aa (b+1:Nat))],[some (kc (A++[]++Z))]⟩) (by simp[aA,aB,fl,ic,eL]) ?_ (by simp);have j:¬(((b+1:Nat):Int)<(b:Int)):=by omega
   generalize ((b+1:Nat):Int)=J at*
   simp[py,j]
  generalize kc (A++[]++Z)=c1 at c⊢
  generalize ((b+1:Nat):Int)=J at*
  simp[pQ,p];rw[c];simp
 |cons x R=>
  obtain⟨W,w,r,y⟩:=Ug N a b s A Z k.symm R [x] (by simp) (by rw[o,k];simp;omega) (by rw[m];simp) (fun t q=>e t (by
   simp only[bu,cC,List.not_mem_nil,or_false]at q⊢
   rcases q with((h|h)|h)|h<;>simp[h])) (sC _ _)
  refine⟨W,by simpa using w,r,?_⟩;rw[aL 172 pQ rfl];have c:=y ⟨[(0,.tsl true 0 3 N),(1,aa a),(2,aa b),(3,.fn 6 []),(8,aa (a+1:Nat))],[some (kc (A++[x]++R++Z))]⟩ rfl rfl;have hc:A++x::R++Z=A++[x]++R++Z:=by simp
  rw[hc];generalize kc (A++[x]++R++Z)=c1 at c⊢
  generalize kc (A++W++Z)=c2 at c⊢
  generalize ((a+1:Nat):Int)=J at*
  simp[pQ,p];rw[c];simp
theorem qMs(l:ah)(k:Nat)(y:l.length<=1099511627776)(p:k+1<l.length)(c:Int):
 aS XV [70,74,122,126] (.region true 0 [0,10,13] yO) ⟨[(0,.tsl true 0 3 l.length),(10,aa c),(13,aa k),(58,au true)],[some (kc l)]⟩=some (.normal,⟨[(0,.tsl true 0 3 l.length),(10,aa c),(13,aa k)],[some (kc (swp l (k+1) k))]⟩):=by
 have o:=aV (n:=k) (by omega);obtain⟨w,u,z,s,t,r,f1,f2,f3,f4,m,d⟩:=Cx l (k+1) k p (by omega) (by omega);have j:=nW l;generalize kc (swp l (k+1) k)=c4 at d⊢
 generalize kc l=c0 at f1 f2 j⊢
 generalize q:l.length=n at*
 have a:(0:Int)<=((k+1:Nat):Int)/\((k+1:Nat):Int)<n:=⟨by omega,by omega⟩;have b:((k+1:Nat):Int).toNat=k+1:=rfl;have e:(k:Int)<n:=by omega
 have h:k*3+3<=n*3:=by omega
 have g:(k+1)*3+3<=n*3:=by omega
 generalize ((k+1:Nat):Int)=J at o a b⊢
 simp only[ot,Da,ao]at f1 f2 f3 f4 m d;simp[qVr,o,a,b,e,j,s,t,r,f1,f2,f3,f4,m,d,h,g,bb,aY,a6,ba]
theorem X_(l:ah)(k:Nat)(y:l.length<=1099511627776)(p:k+1<l.length)(c:Int):
 aS XV [70,74,122,126] (.region true 0 [0,14,17] CF) ⟨[(0,.tsl true 0 3 l.length),(14,aa c),(17,aa ((k+1:Nat):Int)),(110,au true)],[some (kc l)]⟩=some (.normal,⟨[(0,.tsl true 0 3 l.length),(14,aa c),(17,aa ((k+1:Nat):Int))],[some (kc (swp l k (k+1)))]⟩):=by
 have o:IntKind.i64.wrap (((k+1:Nat):Int)-1)=(k:Int):=by rw[show((k+1:Nat):Int)-1=(k:Int)by omega];exact wrap_i64 (by omega) (by omega)
 obtain⟨w,u,z,s,t,r,f1,f2,f3,f4,m,d⟩:=Cx l k (k+1) (by omega) p (by omega);have j:=nW l;generalize kc (swp l k (k+1))=c4 at d⊢
 generalize kc l=c0 at f1 f2 j⊢
 generalize q:l.length=n at*
 have a:(0:Int)<=((k+1:Nat):Int)/\((k+1:Nat):Int)<n:=⟨by omega,by omega⟩;have b:((k+1:Nat):Int).toNat=k+1:=rfl;have e:(k:Int)<n:=by omega
 have h:k*3+3<=n*3:=by omega
 have g:(k+1)*3+3<=n*3:=by omega
 generalize ((k+1:Nat):Int)=J at o a b⊢
 simp only[ot,Da,ao]at f1 f2 f3 f4 m d;simp[qVq,o,a,b,e,j,s,t,r,f1,f2,f3,f4,m,d,h,g,bb,aY,a6,ba]
theorem qOx(l:ah)(a h:Nat)(u:l.length<=1099511627776)(m:a<l.length)(p:h<l.length)(o:∀t,t∈l->t.inner<=1099511627776)(c b:Int):
 aS XV [70,74,122,126] (.region true 0 [0,1,4,10,11,12,50] DW) ⟨[(0,.tsl true 0 3 l.length),(1,aa a),(4,.fn 6 []),(10,aa c),(11,aa b),(12,aa h)],[some (kc l)]⟩=some (.normal,⟨[(0,.tsl true 0 3 l.length),(1,aa a),(4,.fn 6 []),(10,aa c),(11,aa b),(12,aa h),(50,au (decide (T.cmp (ai l h) (ai l a)<0)))],[some (kc l)]⟩):=by
 have hc:=yC (some (kc l)) (ai l h) (ai l a) (o _ (bL p)) (o _ (bL m));have f1:=oO l h p;have f2:=oO l a m;have k:=nW l;generalize T.cmp (ai l h) (ai l a)=r at hc⊢
 generalize kc l=c0 at f1 f2 k hc⊢
 generalize q:l.length=n at*
 have e:(h:Int)<n:=by omega
 have d:(a:Int)<n:=by omega
 have j:h*3+3<=n*3:=by omega
 have g:a*3+3<=n*3:=by omega
 obtain⟨w,z,s⟩:=ai l h;obtain⟨y,vb,C⟩:=ai l a;simp only[ot,ao]at f1 f2;simp[Rf,e,d,k,f1,f2,j,g,hc]
theorem Wc(l:ah)(m h:Nat)(w:l.length<=1099511627776)(o:m<l.length)(p:h<l.length)(k:∀t,t∈l->t.inner<=1099511627776)(c g:Int):
 aS XV [70,74,122,126] (.region true 0 [0,2,4,14,15,16,103] C6) ⟨[(0,.tsl true 0 3 l.length),(2,aa m),(4,.fn 6 []),(14,aa c),(15,aa g),(16,aa h)],[some (kc l)]⟩=some (.normal,⟨[(0,.tsl true 0 3 l.length),(2,aa m),(4,.fn 6 []),(14,aa c),(15,aa g),(16,aa h),(103,au (!decide (T.cmp (ai l m) (ai l h)<0)))],[some (kc l)]⟩):=by
 have hc:=yC (some (kc l)) (ai l m) (ai l h) (k _ (bL o)) (k _ (bL p));have f1:=oO l h p;have f2:=oO l m o;have j:=nW l;generalize T.cmp (ai l m) (ai l h)=r at hc⊢
 generalize kc l=c0 at f1 f2 j hc⊢
 generalize s:l.length=n at*
 have b:(h:Int)<n:=by omega
 have a:(m:Int)<n:=by omega
 have e:h*3+3<=n*3:=by omega
 have d:m*3+3<=n*3:=by omega
 obtain⟨y,C,u⟩:=ai l h;obtain⟨z,vb,D⟩:=ai l m;simp only[ot,ao]at f1 f2
 by_cases q:r<0
 ·simp[N_,b,a,j,f1,f2,e,d,hc,q]
 ·simp[N_,b,a,j,f1,f2,e,d,hc,q]
theorem U8(l:ah)(p c:Nat)(N:l.length<=1099511627776)(H:c<=p)(C:p-c<l.length)(o:c<l.length)(G:p<=4398046511104)(z:∀t,t∈l->t.inner<=1099511627776)(u w s k d j g:Int):
 aS XV [70,74,122,126] (.region true 0 [0,1,2,3,4,18,19,20,21,22,23,171] BL) ⟨[(0,.tsl true 0 3 l.length),(1,aa u),(2,aa w),(3,aa s),(4,.fn 6 []),(18,aa k),(19,aa d),(20,aa j),(21,aa g),(22,aa p),(23,aa c)],[some (kc l)]⟩=some (.normal,⟨[(0,.tsl true 0 3 l.length),(1,aa u),(2,aa w),(3,aa s),(4,.fn 6 []),(18,aa k),(19,aa d),(20,aa j),(21,aa g),(22,aa p),(23,aa c),(171,au (!decide (T.cmp (ai l (p-c)) (ai l c)<0)))],[some (kc l)]⟩):=by
 have D:IntKind.i64.wrap ((p:Int)-c)=((p-c:Nat):Int):=by rw[wrap_i64 (by omega) (by omega)];omega
 have hc:=yC (some (kc l)) (ai l (p-c)) (ai l c) (z _ (bL C)) (z _ (bL o));have f1:=oO l c o;have f2:=oO l (p-c) C;have m:=nW l;generalize T.cmp (ai l (p-c)) (ai l c)=r at hc⊢
 generalize kc l=c0 at f1 f2 m hc⊢
 generalize F:l.length=n at*
 generalize P:p-c=q at*
 have b:(c:Int)<n:=by omega
 have a:(q:Int)<n:=by omega
 have e:c*3+3<=n*3:=by omega
 have h:q*3+3<=n*3:=by omega
 obtain⟨O,K,I⟩:=ai l c;obtain⟨J,vb,M⟩:=ai l q;simp only[ot,ao]at f1 f2
 by_cases y:r<0
 ·simp[L9,D,b,a,m,f1,f2,e,h,hc,y]
 ·simp[L9,D,b,a,m,f1,f2,e,h,hc,y]
end Go.Proofs.YtpcoohnjllclnaaGreat.VS
