/- Contracts of the program's functions on the evaluator without names, and plain lemmas: part 2. -/
import Derived.Test.YtpcoohnjllclnaaGreatXP1
set_option linter.unusedSimpArgs false
set_option linter.unusedVariables false
namespace Go.Proofs.YtpcoohnjllclnaaGreat.VS
theorem Aa(q:Nat->Bool):∀(k i j:Nat),aR q k i=none->i<=j->j<i+k->q j=false
 |0,i,j,_,c,d=>by omega
 |k+1,i,j,a,c,d=>by
  simp only[aR]at a;split at a
  ·simp at a
  ·rename_i e
   by_cases b:j=i
   ·subst b;simpa using e
   ·exact Aa q k (i+1) j a (by omega) (by omega)
theorem Lr(l:ax)(n:Int):decide (0<=bC (aR (fun i=>n==aE l i) l.length 0))=l.contains n:=by
 cases hq:aR (fun i=>n==aE l i) l.length 0 with
 |none=>
  have h:=fun j=>Aa _ _ _ j hq
  have hc:l.contains n=false:=by rw[Bool.eq_false_iff];intro c;rw[Ey]at c;obtain⟨j,b⟩:=jC.1 c;have a:j<l.length:=(cw.1 b).1;have:=h j (c8 _) (by omega);simp[aE,b]at this
  rw[hc];simp[bC]
 |some j=>
  obtain⟨e,g,d⟩:=dy _ _ _ _ hq;have a:j<l.length:=by omega
  have hc:l.contains n=true:=by rw[Ey];simp only[vG]at d;rw[d,<-bR a];exact gB a
  rw[hc];simp[bC]
theorem LV(q:Nat->Bool):∀(k i j:Nat),aR q k i=some j->∀a,i<=a->a<j->q a=false
 |0,i,j,h,a,_,_=>by simp[aR]at h
 |k+1,i,j,h,a,e,c=>by
  simp only[aR]at h;split at h
  ·simp at h;omega
  ·rename_i d
   by_cases b:a=i
   ·subst b;simpa using d
   ·exact LV q k (i+1) j h a (by omega) c
theorem O9(q a:Nat->Bool):∀(k i:Nat),(∀j,i<=j->j<i+k->q j=a j)->aR q k i=aR a k i
 |0,i,h=>rfl
 |k+1,i,h=>by simp only[aR];rw[h i (bI _) (by omega),O9 q a k (i+1) (fun j b c=>h j (by omega) (by omega))]
theorem HZ(l:ax)(q:Int->Bool):l.findIdx q=match aR (fun i=>q (aE l i)) l.length 0 with|some j=>j|none=>l.length:=by
 cases hq:aR (fun i=>q (aE l i)) l.length 0 with
 |none=>
  have h:=fun j=>Aa _ _ _ j hq
  simp only;apply List.findIdx_eq_length.2;intro x hx;obtain⟨j,c⟩:=jC.1 hx;have a:j<l.length:=(cw.1 c).1;have:=h j (c8 _) (by omega);simpa[aE,c]using this
 |some j=>
  obtain⟨e,g,d⟩:=dy _ _ _ _ hq;simp only;have a:j<l.length:=by omega
  rw[List.findIdx_eq a];refine⟨by rw[bR a];exact d,fun i hi=> ?_⟩;have b:i<l.length:=by omega
  rw[bR b];exact LV _ _ _ _ hq i (c8 _) hi
section
variable (X:XEnv)
theorem Zr(o:X.nat 56=none)(hc:X.env.code 56=some pF)(k:X.lin 56=[])(l:ax)(n:Int)(B:az)(p:l.length<=140737488355328)(g:X.env.base 56=none:=by first|rfl|assumption):
 aj X 56 [.d (is l),aa n] B=some (aa (bC (aR (fun i=>n==aE l i) l.length 0)),B):=by
 rw[su X _ _ _ pF o hc rfl];have h:=bG (X:=X) (T:=[]) (L:=B.length) (live:=[0,1,7,8]) (b:=v_) (n:=l.length) (st:=fun(_:Unit) i=>⟨[(0,.d (is l)),(1,aa n),(7,aa l.length),(8,aa i)],B⟩) (step:=bH fun i=>n==aE l i)
  (F:=fun _=>(.exit 0,⟨[(0,.d (is l)),(1,aa n),(7,aa l.length),(8,aa l.length),(9,au false)],B⟩)) (R:=fun(j:Nat)=>(.ret,⟨[(4,aa j)],B⟩))
  (fun a=>⟨by simp,by simp[v_]⟩)
  (fun a i hi=>by
   have m:=aV (n:=i) (by omega);unfold bH
   by_cases c:(n==aE l i)=true
   ·rw[ay c]
    exact⟨by simp,by simp[v_,hi,cut,bR hi,c]⟩
   ·rw[aC c]
    have e:(n==aE l i)=false:=by simpa using c
    exact⟨_,by simp[v_,hi,m,cut,bR hi,e];rfl,by simp[aA,aB]⟩)
  l.length () 0 ⟨[(0,.d (is l)),(1,aa n),(7,aa l.length),(8,aa 0)],B⟩ (by omega) (by simp[aA,aB])
 rw[cU]at h;simp[pF,k];rw[h];cases c:aR (fun i=>n==aE l i) l.length 0<;>simp[bC]
theorem QT(t:X.nat 47=none)(hc:X.env.code 47=some l_)(q:X.lin 47=[])(l:ax)(c:Nat)(caps:aG)(B:az)(P:Int->Bool)(w:l.length<=140737488355328)(p:AV.safe.safes B.length caps=true)(g:caps.map AV.clr=caps)(m:X.lin c=[])
 (u:∀s,s∈l->aj X c (aa s::caps) B=some (au (P s),B)) (o:X.env.base 47=none:=by first|rfl|assumption):
 aj X 47 [.d (is l),.fn c caps] B=some (aa (bC (aR (fun i=>P (aE l i)) l.length 0)),B):=by
 rw[su X _ _ _ l_ t hc rfl];have h:=bG (X:=X) (T:=[]) (L:=B.length) (live:=[0,1,7,8]) (b:=i7) (n:=l.length) (st:=fun(_:Unit) i=>⟨[(0,.d (is l)),(1,.fn c caps),(7,aa l.length),(8,aa i)],B⟩) (step:=bH fun i=>P (aE l i))
  (F:=fun _=>(.exit 0,⟨[(0,.d (is l)),(1,.fn c caps),(7,aa l.length),(8,aa l.length),(9,au false)],B⟩)) (R:=fun(j:Nat)=>(.ret,⟨[(4,aa j)],B⟩))
  (fun a=>⟨by simp,by simp[i7]⟩)
  (fun a i hi=>by
   have r:=aV (n:=i) (by omega);have hc:=u (aE l i) (by rw[<-bR hi];exact gB hi);unfold bH
   by_cases e:P (aE l i)=true
   ·rw[ay e];rw[e]at hc
    exact⟨by simp,by simp[i7,hi,cut,bR hi,hc,g,m]⟩
   ·rw[aC e]
    have k:P (aE l i)=false:=by simpa using e
    rw[k]at hc;exact⟨_,by simp[i7,hi,r,cut,bR hi,hc,g,m];rfl,by simp[aA,aB,p]⟩)
  l.length () 0 ⟨[(0,.d (is l)),(1,.fn c caps),(7,aa l.length),(8,aa 0)],B⟩ (by omega) (by simp[aA,aB,p])
 rw[cU]at h;simp[l_,q];rw[h];cases e:aR (fun i=>P (aE l i)) l.length 0<;>simp[bC]
theorem S0(k:X.nat 55=none)(hc:X.env.code 55=some qP)(j:X.lin 55=[])(a:X.nat 56=none)(c:X.env.code 56=some pF)(b:X.lin 56=[])(l:ax)(n:Int)(m:l.length<=140737488355328)(g:X.env.base 55=none:=by first|rfl|assumption)(e:X.env.base 56=none:=by first|rfl|assumption):
 aj X 55 [.d (is l),aa n] []=some (au (l.contains n),[]):=by
 rw[su X _ _ _ qP k hc rfl];have h:=Zr X a c b l n [] m;have o:=Lr l n;simp[qP,j,h];simpa using o
theorem qIM(b:X.nat 54=none)(e:X.env.code 54=some sa)(j:X.lin 54=[])(q:X.nat 55=none)(hc:X.env.code 55=some qP)(p:X.lin 55=[])(a:X.nat 56=none)(g:X.env.code 56=some pF)(c:X.lin 56=[])(l:ax)(n:Int)(r:l.length<=140737488355328)(m:X.env.base 54=none:=by first|rfl|assumption)(o:X.env.base 55=none:=by first|rfl|assumption)(k:X.env.base 56=none:=by first|rfl|assumption):
 aj X 54 [.d (is l),aa n] []=some (au (l.contains n),[]):=by
 rw[su X _ _ _ sa b e rfl];have h:=S0 X q hc p a g c l n r;simp[sa,j,h]
theorem q2w(b:X.nat 108=none)(hc:X.env.code 108=some ql)(c:X.lin 108=[])(x n:Int)(a:X.env.base 108=none:=by first|rfl|assumption):aj X 108 [aa x,.ptr 0 0] [some [aa n]]=some (au (decide (x>n)),[some [aa n]]):=by rw[su X _ _ _ ql b hc rfl];simp[ql,c]
theorem qxw(j:X.nat 47=none)(hc:X.env.code 47=some l_)(h:X.lin 47=[])(b:X.nat 108=none)(e:X.env.code 108=some ql)(a:X.lin 108=[])(l:ax)(n:Int)(k:l.length<=140737488355328)(g:X.env.base 47=none:=by first|rfl|assumption)(c:X.env.base 108=none:=by first|rfl|assumption):
 aj X 47 [.d (is l),.fn 108 [.ptr 0 0]] [some [aa n]]=some (aa (bC (aR (fun i=>decide (aE l i>n)) l.length 0)),[some [aa n]]):=
 QT X j hc h l 108 [.ptr 0 0] [some [aa n]] (fun x=>decide (x>n)) k (by simp[Oz,eP,De]) rfl a (fun s _=>q2w X b e a s n)
end
def k_(ks:ah)(i:Nat):Nat:=(ks.length-i)+T.inners (ks.drop i)
theorem Jp(ks:ah):k_ ks 0=ks.length+T.inners ks:=by simp[k_]
variable{i:Nat}
theorem KB{ks:ah}(h:i<ks.length):k_ ks i=(ai ks i).inner+1+k_ ks (i+1):=by unfold k_;rw[dS h,aZ h];simp only[T.inners];omega
mutual
theorem D5{σ:Type}{I:Nat->σ->Prop}{e:T->σ->σ}(a:∀n s x,I (n+1) s->I n (e x s)):∀(t:T) (n:Nat) (s:σ),I (t.inner+1+n) s->I n (T.fold e t s)
 | .node f v ks,n,s,h=>by simp only[T.inner]at h;simp only[T.fold];exact Or a ks n _ (a _ _ _ (by rw[show ks.length+T.inners ks+n+1=ks.length+T.inners ks+1+n by omega];exact h))
theorem Or{σ:Type}{I:Nat->σ->Prop}{e:T->σ->σ}(a:∀n s x,I (n+1) s->I n (e x s)):∀(l:ah) (n:Nat) (s:σ),I (l.length+T.inners l+n) s->I n (T.folds e l s)
 | [],n,s,h=>by simpa[T.folds,T.inners]using h
 |t::r,n,s,h=>by simp only[T.folds];simp only[c7,T.inners]at h;exact Or a r n _ (D5 a t _ s (by rw[show t.inner+1+(r.length+T.inners r+n)=r.length+1+(t.inner+T.inners r)+n by omega];exact h))
end
variable{σ:Type}
theorem XX(I:Nat->σ->Prop)(st:σ->az)(e:T->σ->σ)(k:Nat)(caps:aG)(m:Nat)(N:∀s,(st s).length=m)(q:∀n,m<=n->AV.safe.safes n caps=true)(t:caps.map AV.clr=caps)(Z:¬0∈XV.lin k)
 (M:∀n s x,I (n+1) s->I n (e x s)) (f v:Int) (ks:ah) (hl:ks.length<=1099511627776)
 (Y:∀(x:T) (s:σ) (r:az) (n:Nat),I (n+1) s->aj XV k (.d (x.enc .sub)::caps) (st s++r)=some (.d (.tup []),st (e x s)++r))
 (y:∀x,x∈ks->∀(s:σ) (r:az) (n:Nat),I (x.inner+1+n) s->aj XV 25 [.d (x.enc .sub),.fn k caps] (st s++r)=some (.d (.tup []),st (T.fold e x s)++r)) (s:σ) (r:az) (g:Nat) (O:I (ks.length+T.inners ks+1+g) s):
 aj XV 25 [.d ((T.node f v ks).enc .sub),.fn k caps] (st s++r)=some (.d (.tup []),st (T.fold e (.node f v ks) s)++r):=by
 rw[aK 25 uC rfl];have H:I (ks.length+T.inners ks+g) (e (.node f v ks) s):=M _ _ _ (by rw[show ks.length+T.inners ks+g+1=ks.length+T.inners ks+1+g by omega];exact O);have c:=Y (.node f v ks) s (r++[some [aa f,aa v,.d (ao .sub ks)]]) (ks.length+T.inners ks+g) (by rw[show ks.length+T.inners ks+g+1=ks.length+T.inners ks+1+g by omega];exact O);have len:∀s,(st s++r).length=m+r.length:=fun s=>by simp[N]
 have a:=ey (X:=XV) (T:=XV.lin 25) (L:=m+r.length+1) (live:=[1,10,11,12]) (b:=qq) (n:=ks.length) (γ:=Unit) (st:=fun(s:σ) i=>⟨[(1,.fn k caps),(10,.d (ao .sub ks)),(11,aa ks.length),(12,aa i)],(st s++r)++[some [aa f,aa v,.d (ao .sub ks)]]⟩) (step:=mB e ks)
  (F:=fun s=>(.exit 0,⟨[(1,.fn k caps),(10,.d (ao .sub ks)),(11,aa ks.length),(12,aa ks.length),(13,au false)],(st s++r)++[some [aa f,aa v,.d (ao .sub ks)]]⟩)) (R:=fun _=>(.ret,⟨[],[]⟩))
  (fun s i=>I (k_ ks i+g) s)
  (fun s _=>⟨by simp,by simp[qq]⟩)
  (fun s i hi hIn=>by
   have D:=KB hi;rw[show k_ ks i+g=(ai ks i).inner+1+(k_ ks (i+1)+g)by omega]at hIn;have o:=D5 M (ai ks i) _ s hIn;refine⟨?_,fun a' j=>by unfold mB at j;simp only[j5]at j;subst j;exact o⟩;have V:=aV (n:=i) (by omega);have C:=y _ (bM hi) s (r++[some [aa f,aa v,.d (ao .sub ks)],some [aa (ai ks i).f,aa (ai ks i).v,.d (ao .sub (ai ks i).kids)]]) _ hIn;have J:=len s;have h:=len (T.fold e (ai ks i) s);simp only[<-bX]at C;generalize hB:st s++r=B at C J;generalize w:st (T.fold e (ai ks i) s)++r=B' at C h;unfold mB;refine⟨⟨[(1,.fn k caps),(10,.d (ao .sub ks)),(11,aa ks.length),(12,aa (i+1:Nat))],B'++[some [aa f,aa v,.d (ao .sub ks)],some [aa (ai ks i).f,aa (ai ks i).v,.d (ao .sub (ai ks i).kids)]]⟩,?_,?_⟩
   ·simp[qq,hi,V,cut,aZ hi,t,C,splice]
   ·refine im (e:=[some [aa (ai ks i).f,aa (ai ks i).v,.d (ao .sub (ai ks i).kids)]]) (by simp) (by simp[aB,q _ (show m<=m+r.length+1 by omega)]) (by simp[h,w]) (by simp[<-w]))
  ks.length (e (.node f v ks) s) 0 ⟨[(1,.fn k caps),(10,.d (ao .sub ks)),(11,aa ks.length),(12,aa 0)],(st (e (.node f v ks) s)++r)++[some [aa f,aa v,.d (ao .sub ks)]]⟩ (by omega) (by rw[Jp];exact H) (im (e:=[]) (by simp) (by simp[aB,q _ (show m<=m+r.length+1 by omega)]) (by simp[N];omega) (by simp))
 rw[C9 e ks _ _ _ (by omega)]at a;simp only[eQ]at a;have K:=len s;have z:=len (e (.node f v ks) s);have G:(st (T.fold e (.node f v ks) s)++r).length=m+r.length:=len _;have p:T.folds e ks (e (.node f v ks) s)=T.fold e (.node f v ks) s:=by simp[T.fold]
 rw[p]at a;simp only[<-bX]at c;generalize P:st s++r=B0 at c K;generalize S:st (e (.node f v ks) s)++r=B1 at c z a;generalize Q:st (T.fold e (.node f v ks) s)++r=B2 at G a;have u:B1.length=B0.length:=by omega
 rw[<-z]at a;simp only[ao,Lz]at c a;simp[uC,c,t,Z,u.symm];rw[a];simp[show B1.length=B2.length by omega]
theorem OW(I:Nat->σ->Prop)(st:σ->az)(e:T->σ->σ)(k:Nat)(caps:aG)(m:Nat)(j:∀s,(st s).length=m)(a:∀n,m<=n->AV.safe.safes n caps=true)(b:caps.map AV.clr=caps)(g:¬0∈XV.lin k)
 (h:∀n s x,I (n+1) s->I n (e x s)) (p:∀(x:T) (s:σ) (r:az) (n:Nat),I (n+1) s->aj XV k (.d (x.enc .sub)::caps) (st s++r)=some (.d (.tup []),st (e x s)++r)) (t:T) (c:t.inner<=1099511627776) (s:σ) (r:az) (n:Nat) (o:I (t.inner+1+n) s):
 aj XV 25 [.d (t.enc .sub),.fn k caps] (st s++r)=some (.d (.tup []),st (T.fold e t s)++r):=by
 match t,c with
 | .node f v ks,c=>simp only[T.inner]at c o;exact XX I st e k caps m j a b g h f v ks (by omega) p (fun x hx s r n q=>OW I st e k caps m j a b g h p x (by have:=T.qaD hx;omega) s r n q) s r n o
termination_by t
decreasing_by
 simp_wf
 have:=ed hx;omega
theorem Wb:XV.nat 106=some lG:=rfl
theorem qrG(g:Tag)(l:ax)(n:Int)(B:az)(a:l.length<=1099511627777):aj XV 106 [.d (.sl g (l.map (.int .i64))),aa n] B=some (.d (.sl U ((cv l n).map (.int .i64))),B):=by
 rw[vk XV 106 _ _ _ Wb];have h:(l.length+1)*8<=140737488355328:=by omega
 simp[bd,lG,xw,h,U]
theorem JG(l:ax)(n:Int):(cv l n).length<=l.length+1:=by
 unfold cv;split
 ·omega
 ·simp[lz];have:=Ja (p:=fun x=>decide (x>n)) (xs:=l);omega
theorem qsP(l:ax)(n:Int)(m:l.length<=2199023255552):aj XV 53 [.d (is l),aa n] []=some (au (l.contains n),[]):=by
 rw[aK 53 v53 rfl];have h:=bG (X:=XV) (T:=[]) (L:=0) (live:=[0,1,5]) (b:=vq) (n:=l.length) (st:=fun(_:Unit) i=>⟨[(0,.d (is l)),(1,aa n),(5,aa i)],[]⟩) (step:=bH fun i=>aE l i==n)
  (F:=fun _=>(.exit 0,⟨[(0,.d (is l)),(1,aa n),(5,aa l.length),(9,au false)],[]⟩)) (R:=fun(j:Nat)=>(.ret,⟨[(4,au true)],[]⟩))
  (fun a=>⟨by simp,by simp[vq]⟩)
  (fun a i hi=>by
   have k:=aV (n:=i) (by omega);unfold bH
   by_cases c:(aE l i==n)=true
   ·rw[ay c]
    exact⟨by simp,by simp[vq,hi,cut,bR hi,c]⟩
   ·rw[aC c]
    have g:(aE l i==n)=false:=by simpa using c
    exact⟨_,by simp[vq,hi,k,cut,bR hi,g];rfl,by simp[aA,aB]⟩)
  l.length () 0 ⟨[(0,.d (is l)),(1,aa n),(5,aa 0)],[]⟩ (by omega) (by simp[aA,aB])
 rw[cU]at h;have hc:=Lr l n;have e:(fun i=>n==aE l i)=fun i=>aE l i==n:=by funext i;exact Bool.beq_comm
 rw[e]at hc;simp[v53];rw[h];cases c:aR (fun i=>aE l i==n) l.length 0 with
 |none=>rw[c]at hc;simp[bC]at hc;simp[hc]
 |some j=>rw[c]at hc;simp[bC]at hc;simp[hc]
theorem K6(l:ax):(l.map (DV.int .i64)).all (fun e=>decide (e.cells.length=1))=true:=by simp[t_]
theorem ZW(l:ax):(l.map (DV.int .i64)).all (fun e=>decide (e.cells.length=1/\e.cells.all DV.isCell=true))=true:=by simp[t_,aY]
theorem qI(a b:ax)(g:Tag)(h:(a.length+b.length)*8<=140737488355328):bU 1 8 (.sl U (a.map (.int .i64))) (.sl g (b.map (.int .i64)))=some (.sl U ((a++b).map (.int .i64))):=by
 unfold bU;simp only;rw[ay (ZW b)];cases b with
 |nil=>simp
 |cons x r=>simp only[bF,ge,bg,if_false];rw[ay ⟨by simpa using h,trivial,K6 a⟩];simp
theorem UQ(l:ax)(n:Int)(I:l.length<=2199023255552):aj XV 112 [.d (is l),aa n] []=some (.d (.sl U ((cv l n).map (.int .i64))),[]):=by
 rw[aK 112 xq rfl];have e:=qsP l n I
 by_cases hc:l.contains n=true
 ·rw[hc]at e
  have t:=qI [] l .sub (by simp;omega);have p:cv l n=l:=by unfold cv;rw[ay hc]
  simp only[bT,co]at t;rw[p];simp[xq,e,t]
 ·have g:l.contains n=false:=by simpa using hc
  rw[g]at e;have h:=bG (X:=XV) (T:=XV.lin 112) (L:=0) (live:=[0,1,5]) (b:=rM) (n:=l.length) (st:=fun(_:Unit) i=>⟨[(0,.d (is l)),(1,aa n),(5,aa i)],[]⟩) (step:=bH fun i=> !decide (aE l i<n))
   (F:=fun _=>(.exit 0,⟨[(0,.d (is l)),(1,aa n),(5,aa l.length),(24,au false)],[]⟩)) (R:=fun(j:Nat)=>(.exit 0,⟨[(0,.d (is l)),(1,aa n),(5,aa j),(24,au false)],[]⟩))
   (fun a=>⟨by simp,by simp[rM]⟩)
   (fun a i hi=>by
    have H:=aV (n:=i) (by omega);unfold bH
    by_cases m:aE l i<n
    ·rw[aC (by simp[m])]
     exact⟨_,by simp[rM,hi,H,cut,bR hi,m];rfl,by simp[aA,aB]⟩
    ·rw[ay (by simp[m])]
     exact⟨by simp,by simp[rM,hi,cut,bR hi,m]⟩)
   l.length () 0 ⟨[(0,.d (is l)),(1,aa n),(5,aa 0)],[]⟩ (by omega) (by simp[aA,aB])
  rw[cU]at h;have s:∃at_:Nat,at_=lz l n/\at_<=l.length/\bq XV (XV.lin 112) 0 [0,1,5] rM ⟨[(0,.d (is l)),(1,aa n),(5,aa 0)],[]⟩=some (.exit 0,⟨[(0,.d (is l)),(1,aa n),(5,aa at_),(24,au false)],[]⟩):=by
   have m:lz l n=match aR (fun i=> !decide (aE l i<n)) l.length 0 with|some j=>j|none=>l.length:=by
    unfold lz;rw[HZ];have:aR (fun i=>decide (aE l i>n)) l.length 0=aR (fun i=> !decide (aE l i<n)) l.length 0:=by
     refine O9 _ _ _ _ fun j J K=> ?_
     have o:j<l.length:=by omega
     have G:aE l j≠n:=by intro u;rw[<-bR o]at u;rw[<-u]at g;have:=gB o;rw[<-List.contains_iff_mem]at this;rw[g]at this;simp at this
     rw[pY];simp;omega
    rw[this]
    try (cases aR (fun i=> !decide (aE l i<n)) l.length 0<;>rfl)
   refine⟨lz l n,rfl,Ja,?_⟩;rw[h,m];cases aR (fun i=> !decide (aE l i<n)) l.length 0<;>rfl
  obtain⟨k,C,q,c⟩:=s;have p:cv l n=l.take k++[n]++l.drop k:=by unfold cv;rw[aC hc,<-C];simp
  have w:=qI [] (l.take k) .sub (by simp;omega);have z:=qI (l.take k) [n] U (by simp;omega);have y:=qI (l.take k++[n]) (l.drop k) .sub (by simp;omega);simp only[bT,co,yJ,E5,cL,bF]at w z y;rw[p];have r:=K6 l;simp only[qVd]at c;simp[xq,e];rw[c];have D:List.take l.length (l.map (DV.int .i64))=l.map (DV.int .i64):=dD (by simp);simp[r,q,w,z,y,D]
def eV(x:T)(l:ax):ax:=if x.f= -1 then cv l x.v else l
def IV(n:Nat)(l:ax):Prop:=l.length+n<=1099511627778
theorem FH(n:Nat)(l:ax)(x:T)(h:IV (n+1) l):IV n (eV x l):=by
 unfold IV eV at*
 have:=JG l x.v;split<;>omega
def dj(t:T):ax:=T.fold eV t []
theorem N8(t:T)(m:t.inner<=1099511627776):aj XV 104 [.d (t.enc .sub)] []=some (.d (.sl U ((dj t).map (.int .i64))),[]):=by
 rw[aK 104 Eh rfl];have key:=OW IV (fun l:ax=>[some [aa t.f,aa t.v,.d (ao .sub t.kids)],some [.d (.sl U (l.map (.int .i64)))]]) eV 105 [.ptr 1 0] 2 (fun _=>rfl) (fun n h=>by simp;omega) rfl (by simp) FH (fun x l r n h=>by
  rw[aK 105 xl rfl];obtain⟨e,g,o⟩:=x;have a:=iN (.node e g o);simp only[T.qaP]at a;have c:l.length<=1099511627777:=by unfold IV at h;omega
  unfold eV;simp only[T.qaP,T.qbz]
  by_cases b:e= -1
  ·subst b
   simp only[BEq.rfl]at a;have j:=qrG .sub l g [] c;simp[xl,a,splice,j]
  ·have k:(e== -1)=false:=by simp[b]
   rw[k]at a;simp[xl,a,b]) t m [] [] 0 (by simp[IV];omega)
 simp only[cS,ao,bT]at key;simp[Eh,splice,key,dj]
theorem RO(f v:Int)(ks:ah)(z:ks.length<=1099511627776)(e:Nat)
 (j:∀s,s∈ks->∀(l:ax) (n:Nat),IV (s.inner+1+n) l->aj XV 111 [.d (s.enc .sub),.d (is l)] []=some (.d (is (T.fold eV s l)),[])) (l:ax) (q:IV (ks.length+T.inners ks+1+e) l):
 aj XV 111 [.d ((T.node f v ks).enc .sub),.d (is l)] []=some (.d (is (T.fold eV (.node f v ks) l)),[]):=by
 rw[aK 111 wN rfl];have p:IV (ks.length+T.inners ks+e) (eV (.node f v ks) l):=FH _ _ _ (by rw[show ks.length+T.inners ks+e+1=ks.length+T.inners ks+1+e by omega];exact q);have h:=ey (X:=XV) (T:=XV.lin 111) (L:=1) (live:=[1,2,5]) (b:=CX) (n:=ks.length) (γ:=Unit) (st:=fun(l:ax) i=>⟨[(1,.d (is l)),(2,.ptr 0 0),(5,aa i)],[some [aa f,aa v,.d (ao .sub ks)]]⟩) (step:=mB eV ks)
  (F:=fun l=>(.exit 0,⟨[(1,.d (is l)),(2,.ptr 0 0),(5,aa ks.length),(17,au false)],[some [aa f,aa v,.d (ao .sub ks)]]⟩)) (R:=fun r=>(.ret,⟨[],[]⟩))
  (fun l i=>IV (k_ ks i+e) l)
  (fun _ _=>⟨by simp,by simp[CX]⟩)
  (fun l i hi hIn=>by have u:=aV (n:=i) (by omega);have k:=KB hi;rw[show k_ ks i+e=(ai ks i).inner+1+(k_ ks (i+1)+e)by omega]at hIn;have c:=D5 FH (ai ks i) _ l hIn;have hc:=j _ (bM hi) l _ hIn;refine⟨?_,fun a' a=>by unfold mB at a;simp only[j5]at a;subst a;exact c⟩;exact⟨_,by simp[CX,hi,u,cut,aZ hi,hc];rfl,by simp[aA,aB]⟩)
  ks.length (eV (.node f v ks) l) 0 ⟨[(1,.d (is (eV (.node f v ks) l))),(2,.ptr 0 0),(5,aa 0)],[some [aa f,aa v,.d (ao .sub ks)]]⟩ (by omega) (by rw[Jp];exact p) (by simp[aA,aB])
 rw[C9 eV ks _ _ _ (by omega)]at h;have g:T.folds eV ks (eV (.node f v ks) l)=T.fold eV (.node f v ks) l:=by simp[T.fold]
 simp only[eQ,ao,YA,g]at h;have y:l.length<=1099511627777:=by unfold IV at q;omega
 have w:=UQ l v (by omega)
 by_cases o:f= -1
 ·subst o
  have m:eV (.node (-1) v ks) l=cv l v:=by simp[eV]
  rw[m]at h;simp[wN,w];rw[h];simp
 ·have m:eV (.node f v ks) l=l:=by simp[eV,o]
  have t:(f== -1)=false:=by simp[o]
  rw[m]at h;simp[wN,t];rw[h];simp
theorem Lg(t:T)(a:t.inner<=1099511627776)(l:ax)(n:Nat)(b:IV (t.inner+1+n) l):aj XV 111 [.d (t.enc .sub),.d (is l)] []=some (.d (is (T.fold eV t l)),[]):=by
 match t,a with
 | .node f v ks,a=>simp only[T.inner]at a b;exact RO f v ks (by omega) n (fun s c l n h=>Lg s (by have:=T.qaD c;omega) l n h) l b
termination_by t
decreasing_by
 simp_wf
 have:=ed c;omega
theorem Q7(t:T)(a:t.inner<=1099511627776):aj XV 110 [.d (t.enc .sub)] []=some (.d (is (dj t)),[]):=by rw[aK 110 yN rfl];have h:=Lg t a [] 0 (by simp[IV];omega);obtain⟨f,v,ks⟩:=t;simp only[bT,is]at h;simp[yN,h,dj]
def cI(l:ax):aG:=l.map fun x=> aa x
def mk:Nat->Nat->ax
 |0,_=>[]
 |n+1,k=>(k:Int)::mk n (k+1)
theorem q3l(l:ax):(cI l).length=l.length:=by simp[cI]
mutual
def T.nb:T->Nat
 | .node _ _ []=>0
 | .node _ _ (t::r)=>T.nbs (t::r)+1
def T.nbs:ah->Nat
 | []=>0
 |t::r=>t.nb+T.nbs r
end
def q8q(ks:ah):Nat:=if ks=[]then 0 else T.nbs ks+1
def Sl(b:Nat)(ks:ah):AV:=if ks=[]then .d (ao .sub [])else .tsl true (b+T.nbs ks) 3 ks.length
def N1(b:Nat):ah->aG
 | []=>[]
 | .node f v ks::r=> aa f:: aa v::Sl b ks::N1 (b+q8q ks) r
mutual
def T.bx(b:Nat):T->az
 | .node _ _ []=>[]
 | .node _ _ (t::r)=>T.bxs b (t::r)++[some (N1 b (t::r))]
def T.bxs(b:Nat):ah->az
 | []=>[]
 |t::r=>t.bx b++T.bxs (b+t.nb) r
end
def bJ(l:ah):Nat:=l.length+T.inners l
theorem Fq(t:T):bJ t.kids=t.inner:=by cases t;simp[bJ,T.inner]
theorem GO:∀(a c:ah),T.inners (a++c)=T.inners a+T.inners c
 | [],c=>by simp[T.inners]
 |t::r,c=>by simp[T.inners,GO r c];omega
theorem jh(t:T)(l:ah):bJ (t::l)=(t.inner+1)+bJ l:=by unfold bJ;simp[T.inners];omega
theorem tu(ks:ah)(i:Nat)(hi:i<ks.length):ks.take (i+1)=ks.take i++[ai ks i]:=by rw[<-aZ hi,List.take_append_getElem hi]
theorem Zw(ks:ah)(i:Nat):bJ (ks.take i)<=bJ ks:=by
 have h:bJ (ks.take i++ks.drop i)=bJ (ks.take i)+bJ (ks.drop i):=by unfold bJ;rw[GO];simp;omega
 rw[dJ]at h;omega
theorem rC(a c:ah)(g:Tag)(h:(a.length+c.length)*40<=140737488355328):bU 3 40 (.sl U (a.map (T.enc U))) (.sl g (c.map (T.enc U)))=some (.sl U ((a++c).map (T.enc U))):=by
 have b:(c.map (T.enc U)).all (fun e=>decide (e.cells.length=3/\e.cells.all DV.isCell=true))=true:=by simp[aY,a6]
 have d:(a.map (T.enc U)).all (fun e=>decide (e.cells.length=3))=true:=by simp
 unfold bU;simp only;rw[ay b];cases c with
 |nil=>simp
 |cons x r=>simp only[bF,ge,bg,if_false];rw[ay ⟨by simpa using h,trivial,d⟩];simp
theorem EN(l:ah)(i:Nat)(h:i<l.length)(a:l.length<=1099511627776):bU 3 40 (.sl U ((l.take i).map (T.enc U))) (.sl U [(ai l i).enc U])=some (.sl U ((l.take (i+1)).map (T.enc U))):=by have:=rC (l.take i) [ai l i] U (by simp;omega);rw[tu l i h];exact this
theorem T7(f v:Int)(ks:ah)(j:ks.length<=1099511627776)(hc:∀t,t∈ks->aj XV 146 [.d (t.enc .sub)] []=some (.d (t.enc U),[])):
 aj XV 146 [.d ((T.node f v ks).enc .sub)] []=some (.d ((T.node f v ks).enc U),[]):=by
 rw[aK 146 v146 rfl];have a:=bG (X:=XV) (T:=XV.lin 146) (L:=3) (live:=[1,2,3,4]) (b:=CY) (n:=ks.length) (γ:=Unit) (st:=fun(_:Unit) i=>⟨[(1,.ptr 0 0),(2,.ptr 1 0),(3,.ptr 2 0),(4,aa i)],[some [aa f,aa v,.d (ao .sub ks)],some [aa 0,aa 0,.d (.sl U [])],some [aa f,aa v,.d (.sl U ((ks.take i).map (T.enc U)))]]⟩) (step:=fun _ _=> .inl ())
  (F:=fun _=>(.exit 0,⟨[(1,.ptr 0 0),(2,.ptr 1 0),(3,.ptr 2 0),(4,aa ks.length),(14,au false)],[some [aa f,aa v,.d (ao .sub ks)],some [aa 0,aa 0,.d (.sl U [])],some [aa f,aa v,.d (.sl U ((ks.take ks.length).map (T.enc U)))]]⟩)) (R:=fun _=>(.ret,⟨[],[]⟩))
  (fun _=>⟨by simp,by simp[CY]⟩)
  (fun _ i hi=>by
   have h:=aV (n:=i) (by omega);have g:=hc _ (bM hi);have c:=EN ks i hi j;generalize e:(ks.take (i+1)).map (T.enc U)=l2 at c;generalize (ks.take i).map (T.enc U)=l1 at c⊢
   exact⟨⟨[(1,.ptr 0 0),(2,.ptr 1 0),(3,.ptr 2 0),(4,aa (i+1:Nat))],[some [aa f,aa v,.d (ao .sub ks)],some [aa 0,aa 0,.d (.sl U [])],some [aa f,aa v,.d (.sl U l2)]]⟩,by simp[CY,q26,hi,h,cut,aZ hi,g,c,splice,AV.qay,aY,a6,bb,ba],by simp[aA,aB,<-e]⟩)
  ks.length () 0 ⟨[(1,.ptr 0 0),(2,.ptr 1 0),(3,.ptr 2 0),(4,aa 0)],[some [aa f,aa v,.d (ao .sub ks)],some [aa 0,aa 0,.d (.sl U [])],some [aa f,aa v,.d (.sl U [])]]⟩ (by omega) (by simp[aA,aB])
 rw[dB,jY]at a;simp only[Uu,ao]at a;simp[v146,splice,aY,a6,bb,ba,aW];rw[a];simp[splice,aY,a6,bb,ba,aW]
theorem wJ(t:T)(a:t.inner<=1099511627776):aj XV 146 [.d (t.enc .sub)] []=some (.d (t.enc U),[]):=by
 match t,a with
 | .node f v ks,a=>simp only[T.inner]at a;exact T7 f v ks (by omega) fun s b=>wJ s (by have:=T.qaD b;omega)
termination_by t
decreasing_by
 simp_wf
 have:=ed b;omega
theorem MY(ks:ah)(k:ks.length<=1099511627776)(hc:∀t,t∈ks->aj XV 150 [.d (t.enc .sub)] []=some (.d (t.enc U),[])):
 aj XV 151 [.d (ao .sub ks)] []=some (.d (ao U ks),[]):=by
 rw[aK 151 zL rfl];have a:=bG (X:=XV) (T:=XV.lin 151) (L:=0) (live:=[3,7,8,9]) (b:=BQ) (n:=ks.length) (γ:=Unit) (st:=fun(_:Unit) i=>⟨[(3,.d (.sl U ((ks.take i).map (T.enc U)))),(7,.d (ao .sub ks)),(8,aa ks.length),(9,aa i)],[]⟩) (step:=fun _ _=> .inl ())
  (F:=fun _=>(.exit 0,⟨[(3,.d (.sl U ((ks.take ks.length).map (T.enc U)))),(7,.d (ao .sub ks)),(8,aa ks.length),(9,aa ks.length),(10,au false)],[]⟩)) (R:=fun _=>(.ret,⟨[],[]⟩))
  (fun _=>⟨by simp,by simp[BQ]⟩)
  (fun _ i hi=>by
   have j:=aV (n:=i) (by omega);have g:=hc _ (bM hi);have c:=EN ks i hi k;generalize h:(ks.take (i+1)).map (T.enc U)=l2 at c;generalize (ks.take i).map (T.enc U)=l1 at c⊢
   exact⟨⟨[(3,.d (.sl U l2)),(7,.d (ao .sub ks)),(8,aa ks.length),(9,aa (i+1:Nat))],[some [aa (ai ks i).f,aa (ai ks i).v,.d (ao .sub (ai ks i).kids)]]⟩,by simp[BQ,hi,j,cut,aZ hi,g,c,splice,aY,a6,bb,ba,aW],im (e:=[some [aa (ai ks i).f,aa (ai ks i).v,.d (ao .sub (ai ks i).kids)]]) (by simp[<-h]) (by simp[aB]) (by simp) (by simp)⟩)
  ks.length () 0 ⟨[(3,.d (.sl U [])),(7,.d (ao .sub ks)),(8,aa ks.length),(9,aa 0)],[]⟩ (by omega) (by simp[aA,aB])
 rw[dB,jY]at a;simp only[Te]at a;simp[zL];rw[a];simp
theorem Zk(f v:Int)(ks:ah)(h:aj XV 151 [.d (ao .sub ks)] []=some (.d (ao U ks),[])):aj XV 150 [.d ((T.node f v ks).enc .sub)] []=some (.d ((T.node f v ks).enc U),[]):=by rw[aK 150 CS rfl];simp only[ao]at h;simp[CS,h,splice,aY,a6,bb,ba,aW]
theorem xB(t:T)(a:t.inner<=1099511627776):aj XV 150 [.d (t.enc .sub)] []=some (.d (t.enc U),[]):=by
 match t,a with
 | .node f v ks,a=>simp only[T.inner]at a;exact Zk f v ks (MY ks (by omega) fun s b=>xB s (by have:=T.qaD b;omega))
termination_by t
decreasing_by
 simp_wf
 have:=ed b;omega
theorem Qo(ks:ah)(a:bJ ks<=1099511627776):aj XV 151 [.d (ao .sub ks)] []=some (.d (ao U ks),[]):=MY ks (by unfold bJ at a;omega) fun s b=>xB s (by have:=T.qaD b;unfold bJ at a;omega)
theorem Lk(n:Int):aj XV 147 [aa n] []=some (.d ((T.node (-1) n []).enc U),[]):=by rw[aK 147 AH rfl];simp[AH,splice,aY,a6,bb,ba,aW];rw[T.qb8];rfl
theorem NP(n:Int):aj XV 149 [aa n] []=some (.d ((T.node (-1) n []).enc U),[]):=by rw[aK 149 D7 rfl];simp[D7,splice,aY,a6,bb,ba,aW];rw[T.qb8];rfl
def cp(l:aF)(n:Int):bi:=aR (fun i=>(aQ l i).v==n) l.length 0
def cH(l:aF)(n:Int):T:=match cp l n with
 |some i=>(aQ l i).t
 |none=> .node (-1) n []
theorem qvX(l:aF)(n:Int)(o:l.length<=1099511627776)(m:∀i,i<l.length->(aQ l i).t.inner<=1099511627776):aj XV 145 [.d (binds .sub l),aa n] []=some (.d ((cH l n).enc U),[]):=by
 rw[aK 145 BM rfl];have h:=bG (X:=XV) (T:=XV.lin 145) (L:=1) (live:=[0,1,4,5]) (b:=wD) (n:=l.length) (st:=fun(_:Unit) i=>⟨[(0,.d (binds .sub l)),(1,aa n),(4,.ptr 0 0),(5,aa i)],[some [aa 0,aa 0,.d (.sl U [])]]⟩) (step:=bH fun i=>(aQ l i).v==n)
  (F:=fun _=>(.exit 0,⟨[(0,.d (binds .sub l)),(1,aa n),(4,.ptr 0 0),(5,aa l.length),(9,au false)],[some [aa 0,aa 0,.d (.sl U [])]]⟩)) (R:=fun(j:Nat)=>(.ret,⟨[(4,.ptr 0 0)],[some [aa (aQ l j).t.f,aa (aQ l j).t.v,.d (ao U (aQ l j).t.kids)]]⟩))
  (fun a=>⟨by simp,by simp[wD]⟩)
  (fun a i hi=>by
   have g:=aV (n:=i) (by omega);have hc:=wJ (aQ l i).t (m i hi);unfold bH
   by_cases c:((aQ l i).v==n)=true
   ·rw[ay c]
    exact⟨by simp,by simp[wD,hi,cut,df hi,c,hc,splice,aY,a6,bb,ba]⟩
   ·rw[aC c]
    have e:((aQ l i).v==n)=false:=by simpa using c
    exact⟨_,by simp[wD,hi,g,cut,df hi,e];rfl,by simp[aA,aB]⟩)
  l.length () 0 ⟨[(0,.d (binds .sub l)),(1,aa n),(4,.ptr 0 0),(5,aa 0)],[some [aa 0,aa 0,.d (.sl U [])]]⟩ (by omega) (by simp[aA,aB])
 rw[cU]at h;simp only[qVa,binds]at h;unfold cH cp;simp[BM];rw[h];have k:=Lk n;cases c:aR (fun i=>(aQ l i).v==n) l.length 0 with
 |none=>simp[k,splice,aY,a6,bb,ba,aW]
 |some j=>simp[aW]
theorem QB(l:aF)(n:Int)(m:l.length<=1099511627776):aj XV 148 [.d (binds .sub l),aa n] []=some (.d (match cp l n with|some j=> .tup [(aQ l j).t.enc .sub,.bool true]|none=> .tup [(T.node 0 0 []).enc .sub,.bool false]),[]):=by
 rw[aK 148 v148 rfl];have h:=bG (X:=XV) (T:=XV.lin 148) (L:=1) (live:=[1,4,8,9,10]) (b:=xU) (n:=l.length) (st:=fun(_:Unit) i=>⟨[(1,aa n),(4,.ptr 0 0),(8,.d (binds .sub l)),(9,aa l.length),(10,aa i)],[some [aa 0,aa 0,.d (.sl U [])]]⟩) (step:=bH fun i=>(aQ l i).v==n)
  (F:=fun _=>(.exit 0,⟨[(1,aa n),(4,.ptr 0 0),(8,.d (binds .sub l)),(9,aa l.length),(10,aa l.length),(11,au false)],[some [aa 0,aa 0,.d (.sl U [])]]⟩)) (R:=fun(j:Nat)=>(.ret,⟨[(4,.ptr 0 0),(5,au true)],[some [aa (aQ l j).t.f,aa (aQ l j).t.v,.d (ao .sub (aQ l j).t.kids)],some [aa (aQ l j).v,aa (aQ l j).t.f,aa (aQ l j).t.v,.d (ao .sub (aQ l j).t.kids)]]⟩))
  (fun a=>⟨by simp,by simp[xU]⟩)
  (fun a i hi=>by
   have k:=aV (n:=i) (by omega);unfold bH
   by_cases c:((aQ l i).v==n)=true
   ·rw[ay c]
    exact⟨by simp,by simp[xU,hi,cut,df hi,c,splice,AV.qay,aY,a6,bb,ba,aW]⟩
   ·rw[aC c]
    have g:((aQ l i).v==n)=false:=by simpa using c
    exact⟨⟨[(1,aa n),(4,.ptr 0 0),(8,.d (binds .sub l)),(9,aa l.length),(10,aa (i+1:Nat))],[some [aa 0,aa 0,.d (.sl U [])],some [aa (aQ l i).v,aa (aQ l i).t.f,aa (aQ l i).t.v,.d (ao .sub (aQ l i).t.kids)]]⟩,by simp[xU,hi,k,cut,df hi,g,splice,aY,a6,bb,ba,aW],im (e:=[some [aa (aQ l i).v,aa (aQ l i).t.f,aa (aQ l i).t.v,.d (ao .sub (aQ l i).t.kids)]]) (by simp) (by simp[aB]) (by simp) (by simp)⟩)
  l.length () 0 ⟨[(1,aa n),(4,.ptr 0 0),(8,.d (binds .sub l)),(9,aa l.length),(10,aa 0)],[some [aa 0,aa 0,.d (.sl U [])]]⟩ (by omega) (by simp[aA,aB])
 rw[cU]at h;simp only[qU8,binds]at h;unfold cp;simp[v148];rw[h];cases c:aR (fun i=>(aQ l i).v==n) l.length 0 with
 |none=>simp[splice,aY,a6,bb,ba,aW];rw[T.qb8];rfl
 |some j=>simp[aW]
theorem qxp(l:aF)(n:Int)(c:l.length<=1099511627776)(e:∀i,i<l.length->(aQ l i).t.inner<=1099511627776):aj XV 144 [.d (binds .sub l),aa n] []=some (.d ((cH l n).enc U),[]):=by
 rw[aK 144 xz rfl];have h:=QB l n c;have b:=NP n;unfold cH;cases hq:cp l n with
 |none=>rw[hq]at h;simp[xz,h,b,splice,aY,a6,bb,ba,aW]
 |some j=>
  rw[hq]at h;have a:j<l.length:=by have:=(dy _ _ _ _ hq).2.1;omega
  have hc:=xB (aQ l j).t (e j a);simp[xz,h,hc,splice,aY,a6,bb,ba,aW]
theorem M8(l:ah)(t:T)(o:l.length<=1099511627776)(m:∀x,x∈l->x.inner<=1099511627776)(k:t.inner<=1099511627776):
 aj XV 259 [.d (ao .sub l),.d (t.enc .sub)] []=some (aa (bC (aR (dM l t) l.length 0)),[]):=by
 rw[aK 259 By rfl];obtain⟨f,v,ks⟩:=t;have h:=bG (X:=XV) (T:=XV.lin 259) (L:=1) (live:=[0,3,5]) (b:=vK) (n:=l.length) (γ:=Nat) (st:=fun(_:Unit) i=>⟨[(0,.d (ao .sub l)),(3,.ptr 0 0),(5,aa i)],[some [aa f,aa v,.d (ao .sub ks)]]⟩) (step:=bH (dM l (.node f v ks)))
  (F:=fun _=>(.exit 0,⟨[(0,.d (ao .sub l)),(3,.ptr 0 0),(5,aa l.length),(9,au false)],[some [aa f,aa v,.d (ao .sub ks)]]⟩)) (R:=fun j=>(.ret,⟨[(4,aa j)],[some [aa f,aa v,.d (ao .sub ks)]]⟩))
  (fun a=>⟨by simp,by simp[vK]⟩)
  (fun a i hi=>by
   have g:=aV (n:=i) (by omega);have hc:=lU (ai l i) (.node f v ks) (m _ (bM hi)) k;unfold bH
   by_cases c:dM l (.node f v ks) i=true
   ·rw[ay c]
    unfold dM at c;rw[c]at hc;exact⟨by simp,by simp[vK,LX,hi,cut,aZ hi,hc]⟩
   ·rw[aC c]
    have e:dM l (.node f v ks) i=false:=by simpa using c
    unfold dM at e;rw[e]at hc;exact⟨_,by simp[vK,LX,hi,g,cut,aZ hi,hc];rfl,by simp[aA,aB]⟩)
  l.length () 0 ⟨[(0,.d (ao .sub l)),(3,.ptr 0 0),(5,aa 0)],[some [aa f,aa v,.d (ao .sub ks)]]⟩ (by omega) (by simp[aA,aB])
 rw[cU]at h;simp only[qUN]at h;simp[By];rw[h];cases c:aR (dM l (.node f v ks)) l.length 0<;>simp[bC]
theorem tm(a c:ah)(g:Tag)(h:(a.length+c.length)*40<=140737488355328):bU 3 40 (.sl U (a.map (T.enc .sub))) (.sl g (c.map (T.enc .sub)))=some (.sl U ((a++c).map (T.enc .sub))):=by
 have b:(c.map (T.enc .sub)).all (fun e=>decide (e.cells.length=3/\e.cells.all DV.isCell=true))=true:=by simp[aY,a6]
 have d:(a.map (T.enc .sub)).all (fun e=>decide (e.cells.length=3))=true:=by simp
 unfold bU;simp only;rw[ay b];cases c with
 |nil=>simp
 |cons x r=>simp only[bF,ge,bg,if_false];rw[ay ⟨by simpa using h,trivial,d⟩];simp
theorem Y8(l:ah)(j:Nat)(m:j<l.length)(o:l.length<=1099511627776):
 aj XV 260 [.d (ao .sub l),aa j] []=some (.d (.sl U ((kr l j).map (T.enc .sub))),[]):=by
 rw[aK 260 CE rfl];have c:=aV (n:=j) (by omega);have e:j<=l.length:=by omega
 have k:j+1<=l.length:=by omega
 have b:=tm [] (l.take j) .sub (by simp;omega);have a:=tm (l.take j) (l.drop (j+1)) .sub (by simp;omega);simp only[bT,co,yJ,E5,cL]at b a;have g:(0:Int)<=(j:Int)+1:=by omega
 have h:List.take l.length (l.map (T.enc .sub))=l.map (T.enc .sub):=dD (by simp);simp[CE,c,e,k,g,h,b,a,kr]
variable{x:Bool}
theorem q5x(h:(!x)=true):x=false:=by cases x<;>simp_all
theorem q5y(h:¬(!x)=true):x=true:=by cases x<;>simp_all
theorem qFn(b c:Bd)(B:az)(h:b.t.inner<=1099511627776)(hc:c.t.inner<=1099511627776):
 aj XV 290 [.d (b.enc .sub),.d (c.enc .sub)] B=some (au (b.v==c.v&&T.cmp b.t c.t==0),B):=by
 rw[aK 290 xj rfl];have g:=same_eq b.t c.t h hc
 by_cases e:b.v=c.v
 ·have a:(b.v==c.v)=true:=by simpa using e
  rw[a,eE];simp[xj,e,g]
 ·have a:(b.v==c.v)=false:=by simpa using e
  rw[a,re];simp[xj,a]
theorem Td(u w:aF)(y:u.length<=1099511627776)(z:w.length<=1099511627776)(q:∀i,i<u.length->(aQ u i).t.inner<=1099511627776)(s:∀i,i<w.length->(aQ w i).t.inner<=1099511627776):
 aj XV 289 [.d (binds .sub u),.d (binds .sub w),.fn 290 []] []=some (au (jc u w),[]):=by
 rw[aK 289 vt rfl];unfold jc
 by_cases p:u.length=w.length
 ·have e:(u.length:Int)=w.length:=by omega
  have h:=bG (X:=XV) (T:=XV.lin 289) (L:=0) (live:=[1,2,15,16,17]) (b:=vY) (n:=u.length) (γ:=Nat) (st:=fun(_:Unit) i=>⟨[(1,.d (binds .sub w)),(2,.fn 290 []),(15,.d (binds .sub u)),(16,aa u.length),(17,aa i)],[]⟩) (step:=bH (kC u w))
   (F:=fun _=>(.exit 0,⟨[(1,.d (binds .sub w)),(2,.fn 290 []),(15,.d (binds .sub u)),(16,aa u.length),(17,aa u.length),(18,au false)],[]⟩)) (R:=fun j=>(.ret,⟨[(6,au false)],[some (aQ u j|>.enc .sub|>.cells.map .d),some (aQ w j|>.enc .sub|>.cells.map .d)]⟩))
   (fun a=>⟨by simp,by simp[vY]⟩)
   (fun a i hi=>by
    have c:i<w.length:=by omega
    have m:=aV (n:=i) (by omega);have hc:=qFn (aQ u i) (aQ w i) [some (aQ u i|>.enc .sub|>.cells.map .d),some (aQ w i|>.enc .sub|>.cells.map .d)] (q i hi) (s i c);unfold bH
    by_cases g:kC u w i=true
    ·rw[ay g]
     unfold kC at g;have k:((aQ u i).v==(aQ w i).v&&T.cmp (aQ u i).t (aQ w i).t==0)=false:=q5x g;rw[k]at hc;simp only[Bd.qfk,bF,bT]at hc;exact⟨by simp,by simp[vY,hi,c,cut,df hi,df c,hc,splice]⟩
    ·rw[aC g]
     unfold kC at g;have k:((aQ u i).v==(aQ w i).v&&T.cmp (aQ u i).t (aQ w i).t==0)=true:=q5y g;rw[k]at hc;simp only[Bd.qfk,bF,bT]at hc;exact⟨_,by simp[vY,hi,c,m,cut,df hi,df c,hc,splice];rfl,by simp[aA,aB]⟩)
   u.length () 0 ⟨[(1,.d (binds .sub w)),(2,.fn 290 []),(15,.d (binds .sub u)),(16,aa u.length),(17,aa 0)],[]⟩ (by omega) (by simp[aA,aB])
  rw[cU]at h;have o:decide (u.length=w.length)=true:=by simpa using p
  rw[o];simp only[qUD,binds]at h;simp[vt,e];simp only[e]at h;rw[h];cases g:aR (kC u w) u.length 0<;>simp
 ·have o:decide (u.length=w.length)=false:=by simpa using p
  have e:¬(u.length:Int)=w.length:=by omega
  have r:((u.length:Int) !=w.length)=true:=by simpa using e
  rw[o];simp[vt,r]
theorem qrF(u w:aF)(b:u.length<=1099511627776)(c:w.length<=1099511627776)(a:∀i,i<u.length->(aQ u i).t.inner<=1099511627776)(e:∀i,i<w.length->(aQ w i).t.inner<=1099511627776):
 aj XV 288 [.d (binds .sub u),.d (binds .sub w)] []=some (au (jc u w),[]):=by
 rw[aK 288 BD rfl];have h:=Td u w b c a e;simp[BD,h]
def gX(ws:List aF)(i:Nat):aF:=(ws[i]?).getD []
variable{ws:List aF}
theorem yg(h:i<ws.length):ws[i]=gX ws i:=by simp[gX,h]
theorem N_(h:i<ws.length):gX ws i∈ws:=by rw[<-yg h];exact gB h
abbrev nG(g:Tag)(ws:List aF):DV:= .sl g (ws.map (binds .sub))
@[simp] theorem qLz:DV.clr∘binds .sub=binds .sub:=funext fun w=>by simp[binds]
def small(u:aF):Prop:=u.length<=1099511627776/\∀i,i<u.length->(aQ u i).t.inner<=1099511627776
def jo(ws:List aF)(u:aF):Bool:=(aR (fun i=>jc (gX ws i) u) ws.length 0).isSome
theorem TV(l:List aF)(c:Nat)(caps:aG)(B:az)(P:aF->Bool)(r:l.length<=1099511627776)(o:AV.safe.safes B.length caps=true)(g:caps.map AV.clr=caps)(m:¬0∈XV.lin c)
 (q:∀s,s∈l->aj XV c (.d (binds .sub s)::caps) B=some (au (P s),B)):
 aj XV 269 [.d (nG .sub l),.fn c caps] B=some (aa (bC (aR (fun i=>P (gX l i)) l.length 0)),B):=by
 rw[aK 269 Bh rfl];have h:=bG (X:=XV) (T:=XV.lin 269) (L:=B.length) (live:=[0,1,7,8]) (b:=yc) (n:=l.length) (st:=fun(_:Unit) i=>⟨[(0,.d (nG .sub l)),(1,.fn c caps),(7,aa l.length),(8,aa i)],B⟩) (step:=bH fun i=>P (gX l i))
  (F:=fun _=>(.exit 0,⟨[(0,.d (nG .sub l)),(1,.fn c caps),(7,aa l.length),(8,aa l.length),(9,au false)],B⟩)) (R:=fun(j:Nat)=>(.ret,⟨[(4,aa j)],B⟩))
  (fun a=>⟨by simp,by simp[yc]⟩)
  (fun a i hi=>by
   have p:=aV (n:=i) (by omega);have hc:=q _ (N_ hi);unfold bH
   by_cases e:P (gX l i)=true
   ·rw[ay e];rw[e]at hc
    exact⟨by simp,by simp[yc,hi,cut,yg hi,hc,g,m]⟩
   ·rw[aC e]
    have k:P (gX l i)=false:=by simpa using e
    rw[k]at hc;exact⟨_,by simp[yc,hi,p,cut,yg hi,hc,g,m];rfl,by simp[aA,aB,o]⟩)
  l.length () 0 ⟨[(0,.d (nG .sub l)),(1,.fn c caps),(7,aa l.length),(8,aa 0)],B⟩ (by omega) (by simp[aA,aB,o])
 rw[cU]at h;simp only[RA]at h;simp[Bh];rw[h];cases e:aR (fun i=>P (gX l i)) l.length 0<;>simp[bC]
theorem UY(u w:aF)(o:small u)(p:small w):
 aj XV 261 [.d (binds .sub u),.d (binds .sub w)] []=some (au (jc u w),[]):=by
 rw[aK 261 xL rfl];obtain⟨o,s⟩:=o;obtain⟨p,z⟩:=p;unfold jc
 by_cases r:u.length=w.length
 ·have a:=bG (X:=XV) (T:=XV.lin 261) (L:=0) (live:=[0,1,5]) (b:=sr) (n:=u.length) (γ:=Nat) (st:=fun(_:Unit) i=>⟨[(0,.d (binds .sub u)),(1,.d (binds .sub w)),(5,aa i)],[]⟩) (step:=bH (kC u w))
   (F:=fun _=>(.exit 0,⟨[(0,.d (binds .sub u)),(1,.d (binds .sub w)),(5,aa u.length),(14,au false)],[]⟩)) (R:=fun _=>(.ret,⟨[(4,au false)],[]⟩))
   (fun _=>⟨by simp,by simp[sr]⟩)
   (fun _ i hi=>by
    have c:i<w.length:=by omega
    have h:=aV (n:=i) (by omega);have hc:=lU (aQ u i).t (aQ w i).t (s i hi) (z i c);unfold bH;cases hq:kC u w i with
    |true=>
     simp only[if_true];refine⟨by simp,?_⟩;unfold kC at hq
     by_cases e:(aQ u i).v=(aQ w i).v
     ·have k:(T.cmp (aQ u i).t (aQ w i).t==0)=false:=by
       have q:((aQ u i).v==(aQ w i).v)=true:=by simpa using e
       rw[q]at hq;simpa using hq
      rw[k]at hc;simp[sr,GX,hi,c,cut,df hi,df c,e,hc]
     ·have q:((aQ u i).v==(aQ w i).v)=false:=by simpa using e
      have e3:((aQ u i).v !=(aQ w i).v)=true:=by simpa using e
      simp[sr,GX,hi,c,cut,df hi,df c,e3]
    |false=>
     simp only[bg,if_false];unfold kC at hq;simp only[Bool.not_eq_false',cd,vG]at hq;have k:(T.cmp (aQ u i).t (aQ w i).t==0)=true:=by simpa using hq.2
     rw[k]at hc;refine⟨_,by simp[sr,GX,hi,c,h,cut,df hi,df c,hq.1,hc];rfl,by simp[aA,aB]⟩)
   u.length () 0 ⟨[(0,.d (binds .sub u)),(1,.d (binds .sub w)),(5,aa 0)],[]⟩ (by omega) (by simp[aA,aB])
  rw[cU]at a;have g:(u.length:Int)=w.length:=by omega
  have m:decide (u.length=w.length)=true:=by simpa using r
  rw[m];simp only[Y7]at a;simp[xL,g];simp only[binds]at a;rw[a];cases aR (kC u w) u.length 0 with
  |none=>simp
  |some j=>simp
 ·have m:decide (u.length=w.length)=false:=by simpa using r
  have g:¬(u.length:Int)=w.length:=by omega
  have y:((u.length:Int) !=w.length)=true:=by simpa using g
  rw[m];simp[xL,y]
theorem Vb(ws:List aF)(u:aF)(m:ws.length<=1099511627776)(k:∀w,w∈ws->small w)(j:small u):
 aj XV 249 [.d (nG .sub ws),.d (binds .sub u)] []=some (au (jo ws u),[]):=by
 rw[aK 249 BC rfl];have h:=bG (X:=XV) (T:=XV.lin 249) (L:=0) (live:=[0,1,5]) (b:=vS) (n:=ws.length) (γ:=Nat) (st:=fun(_:Unit) i=>⟨[(0,.d (nG .sub ws)),(1,.d (binds .sub u)),(5,aa i)],[]⟩) (step:=bH fun i=>jc (gX ws i) u)
  (F:=fun _=>(.exit 0,⟨[(0,.d (nG .sub ws)),(1,.d (binds .sub u)),(5,aa ws.length),(9,au false)],[]⟩)) (R:=fun _=>(.ret,⟨[(4,au true)],[]⟩))
  (fun a=>⟨by simp,by simp[vS]⟩)
  (fun a i hi=>by
   have g:=aV (n:=i) (by omega);have hc:=UY (gX ws i) u (k _ (N_ hi)) j;unfold bH
   by_cases c:jc (gX ws i) u=true
   ·rw[ay c];rw[c]at hc
    exact⟨by simp,by simp[vS,hi,cut,yg hi,hc]⟩
   ·rw[aC c]
    have e:jc (gX ws i) u=false:=by simpa using c
    rw[e]at hc;exact⟨_,by simp[vS,hi,g,cut,yg hi,hc];rfl,by simp[aA,aB]⟩)
  ws.length () 0 ⟨[(0,.d (nG .sub ws)),(1,.d (binds .sub u)),(5,aa 0)],[]⟩ (by omega) (by simp[aA,aB])
 rw[cU]at h;simp only[qUV]at h;unfold jo;simp[BC];rw[h];cases c:aR (fun i=>jc (gX ws i) u) ws.length 0<;>simp
def iq(t:T):ah->ah
 | []=>[t]
 |x::r=>if T.cmp t x<0 then t::x::r else x::iq t r
def gz:ah->ah->ah
 |acc,[]=>acc
 |acc,t::r=>gz (iq t acc) r
def dL(l:ah):ah:=gz [] l
theorem En(t:T):∀l:ah,(iq t l).Perm (t::l)
 | []=> .refl _
 |x::r=>by
  simp only[iq];split
  ·exact .refl _
  ·exact((En t r).cons x).trans (.swap t x r)
theorem MQ(t:T):∀l:ah,b0 l->b0 (iq t l)
 | [],_=>ru _ _
 |x::r,h=>by
  have h':=nX.1 h;simp only[iq];split
  ·rename_i a
   refine nX.2 ⟨fun y hy=> ?_,h⟩;rcases cE.1 hy with rfl|hy
   ·exact rQ a
   ·exact vI (rQ a) (h'.1 y hy)
  ·rename_i a
   refine nX.2 ⟨fun y hy=> ?_,MQ t r h'.2⟩;have:=(En t r).mem_iff.1 hy;rcases cE.1 this with rfl|hy
   ·exact si a
   ·exact h'.1 y hy
theorem Nu:∀(l acc:ah),(gz acc l).Perm (acc++l)
 | [],acc=>by simp[gz]
 |t::r,acc=>by simp only[gz];refine(Nu r _).trans ?_;refine((En t acc).append_right r).trans ?_;exact Dd.symm
theorem KR:∀(l acc:ah),b0 acc->b0 (gz acc l)
 | [],acc,h=>h
 |t::r,acc,h=>by simp only[gz];exact KR r _ (MQ t acc h)
theorem kM(l:ah):(dL l).Perm l:=Nu l []
theorem FO(l:ah):b0 (dL l):=KR l [] AO
variable{l:ah}
theorem IL{l':ah}(h:l'.Perm l)(a:b0 l'):l'=dL l:=qMN a (FO l) (h.trans (kM l).symm)
theorem H9:∀(a acc b:ah),gz acc (a++b)=gz (gz acc a) b
 | [],acc,b=>rfl
 |t::r,acc,b=>by simp only[c9,gz];exact H9 r _ b
def dw(s:aD)(f:Int)(k:T):ah:=if(br s f&&k.f==f)=true then k.kids else [k]
def flatK(s:aD)(f:Int)(l:ah):ah:=l.flatMap (dw s f)
mutual
def T.norm(s:aD):T->T
 | .node f v ks=> .node f v (if br s f=true then dL (flatK s f (T.norms s ks))else flatK s f (T.norms s ks))
def T.norms(s:aD):ah->ah
 | []=>[]
 |t::r=>t.norm s::T.norms s r
end
theorem T.norms_map(s:aD):∀l:ah,T.norms s l=l.map (T.norm s)
 | []=>by simp[T.norms]
 |t::r=>by simp[T.norms,T.norms_map s r]
theorem Fg(s:aD)(t:T):(t.norm s).f=t.f:=by cases t;simp[T.norm]
theorem Gz(s:aD)(t:T):(t.norm s).v=t.v:=by cases t;simp[T.norm]
theorem AU(a b:ah):bJ (a++b)=bJ a+bJ b:=by unfold bJ;rw[GO,cG];omega
theorem AY{a b:ah}(h:a.Perm b):bJ a=bJ b:=by
 induction h with
 |nil=>rfl
 |cons x _ e=>rw[jh,jh,e]
 |swap x y l=>rw[jh,jh,jh,jh];omega
 |trans _ _ c d=>rw[c,d]
theorem Qc(s:aD)(f:Int)(k:T):bJ (dw s f k)<=k.inner+1:=by
 unfold dw;split
 ·rw[Fq];omega
 ·rw[jh];simp[bJ,T.inners]
theorem lh(s:aD)(f:Int)(k:T)(l:ah):flatK s f (k::l)=dw s f k++flatK s f l:=rfl
theorem LU(s:aD)(f:Int)(a b:ah):flatK s f (a++b)=flatK s f a++flatK s f b:=by unfold flatK;simp
theorem AK(s:aD)(f:Int):∀l:ah,bJ (flatK s f l)<=bJ l
 | []=>by simp[flatK,bJ,T.inners]
 |k::l=>by rw[lh,AU,jh];have:=Qc s f k;have:=AK s f l;omega
theorem T.qa1(f v:Int)(ks:ah):(T.node f v ks).inner=bJ ks:=by simp[T.inner,bJ]
mutual
theorem qj(s:aD):∀t:T,(t.norm s).inner<=t.inner
 | .node f v ks=>by
  have h:=CR s ks;have a:=AK s f (T.norms s ks);simp only[T.norm,T.qa1];split
  ·rw[AY (kM _)];omega
  ·omega
theorem CR(s:aD):∀l:ah,bJ (T.norms s l)<=bJ l
 | []=>by simp[T.norms]
 |t::r=>by have a:=qj s t;have b:=CR s r;simp only[T.norms,jh];omega
end
theorem eS{t:T}(h:t∈l):t.inner<=bJ l:=by have:=T.qaD h;unfold bJ;omega
theorem g8(l:ah):l.length<=bJ l:=by unfold bJ;omega
def ia(s:aD)(f:Int)(ks:ah)(i:Nat):ah:=flatK s f ((ks.take i).map (T.norm s))
theorem Of(s:aD)(f:Int)(ks:ah):ia s f ks 0=[]:=by simp[ia,flatK]
theorem Kd(s:aD)(f:Int)(ks:ah)(i:Nat)(h:i<ks.length):ia s f ks (i+1)=ia s f ks i++dw s f ((ai ks i).norm s):=by unfold ia;rw[tu ks i h,cL,LU];simp[flatK]
theorem Od(s:aD)(f:Int)(ks:ah):ia s f ks ks.length=flatK s f (T.norms s ks):=by unfold ia;rw[jY,T.norms_map]
theorem Ma(s:aD)(f:Int)(ks:ah)(i:Nat):bJ (ia s f ks i)<=bJ ks:=by
 unfold ia;have a:=AK s f ((ks.take i).map (T.norm s));rw[<-T.norms_map]at a⊢
 have c:=CR s (ks.take i);have b:=Zw ks i;omega
theorem Kx(t:T):∀(l:ah) (j:Nat),j<=l.length->(∀i,i<j->¬T.cmp t (ai l i)<0)->(j<l.length->T.cmp t (ai l j)<0)->iq t l=l.take j++t::l.drop j
 | [],j,a,_,_=>by simp at a;subst a;rfl
 |x::r,0,a,b,c=>by have:=c (by simp);simp only[ai,pz,qB]at this;simp[iq,this]
 |x::r,j+1,a,b,c=>by have d:=b 0 (by omega);simp only[ai,pz,qB]at d;have:=Kx t r j (by simpa using a) (fun i hi=>by simpa[ai]using b (i+1) (by omega)) (fun h=>by simpa[ai]using c (by simpa using h));simp[iq,d,this]
def e3(t:T):aG:=[aa t.f,aa t.v,.d (ao U t.kids)]
def qQ(t:T):aG:=[aa t.f,aa t.v,.d (ao .sub t.kids)]
def kc(l:ah):aG:=(l.map e3).flatten
def sW(cs:List aG):Prop:=∀c,c∈cs->c.length=3
theorem Ge(l:ah):sW (l.map e3):=fun c hc=>by obtain⟨t,_,rfl⟩:=cC.1 hc;rfl
theorem Ik{cs:List aG}(h:sW cs)(p:Nat)(x:aG)(hx:x.length=3):sW (cs.set p x):=fun c hc=>by
 rcases I0 hc with a|a
 ·exact h c a
 ·rw[a,hx]
theorem xG:∀{cs:List aG},sW cs->cs.flatten.length=cs.length*3
 | [],_=>rfl
 |c::r,h=>by have:=xG (cs:=r) (fun x hx=>h x (by simp[hx]));have hc:=h c (by simp);simp only[lC,cG,c7,this,hc];omega
theorem y6:∀{cs:List aG} (_:sW cs) (p:Nat) (a:p<cs.length),(cs.flatten.drop (p*3)).take 3=cs[p]
 |c::r,h,0,a=>by have hc:=h c (by simp);simp only[xR,eQ,lC,List.getElem_cons_zero];rw[List.take_append_of_le_length (by omega),dD (by omega)]
 |c::r,h,p+1,a=>by have hc:=h c (by simp);have:=y6 (cs:=r) (fun x hx=>h x (by simp[hx])) p (by simpa using a);simp only[lC,List.getElem_cons_succ];rw[D4,yp (by omega),co,show(p+1)*3-c.length=p*3 by omega];exact this
theorem x9:∀{cs:List aG} (_:sW cs) (p:Nat) (a:p<cs.length) (x:aG) (hx:x.length=3),splice cs.flatten (p*3) x=(cs.set p x).flatten
 |c::r,h,0,a,x,hx=>by have hc:=h c (by simp);unfold splice;simp only[xR,Br,co,dE,lC,wI];rw[hx,D4,yp (by omega),co,show 3-c.length=0 by omega,eQ]
 |c::r,h,p+1,a,x,hx=>by
  have hc:=h c (by simp);have:=x9 (cs:=r) (fun y hy=>h y (by simp[hy])) p (by simpa using a) x hx;unfold splice at this⊢
  simp only[lC,List.set_cons_succ];rw[List.take_append,dD (l:=c) (by omega),D4,yp (l:=c) (by omega),co,show(p+1)*3-c.length=p*3 by omega,show(p+1)*3+x.length-c.length=p*3+x.length by omega,<-this];simp only[bX]
theorem mt(l:ah):(kc l).length=l.length*3:=by unfold kc;rw[xG (Ge l),cT]
theorem EK:∀l:ah,kc l=fq (l.map (T.enc U))
 | []=>rfl
 |t::r=>by
  have h:=EK r;unfold fq kc at h⊢
  simp[e3,flat]at h⊢
  exact h
def swp(l:ah)(p q:Nat):ah:=(l.set q (ai l p)).set p (ai l q)
theorem Dj(l:ah)(p q:Nat)(d:p<l.length)(b:q<l.length)(n:p≠q):∃c j e:aG,c.length=l.length*3/\j.length=l.length*3/\e.length=l.length*3/\
 ((kc l).drop (p*3)).take 3=e3 (ai l p)/\splice (kc l) (p*3) (qQ (ai l p))=c/\(c.drop (q*3)).take 3=e3 (ai l q)/\splice c (q*3) (qQ (ai l q))=j/\splice j (q*3) (e3 (ai l p))=e/\splice e (p*3) (e3 (ai l q))=kc (swp l p q):=by
 have g:=Ge l;have a:=Ik g p (qQ (ai l p)) rfl;have m:=Ik a q (qQ (ai l q)) rfl;have o:=Ik m q (e3 (ai l p)) rfl;refine⟨_,_,_,?_,?_,?_,?_,x9 g p (by simpa using d) _ rfl,?_,x9 a q (by simpa using b) _ rfl,x9 m q (by simpa using b) _ rfl,?_⟩
 ·rw[xG a];simp
 ·rw[xG m];simp
 ·rw[xG o];simp
 ·unfold kc;rw[y6 g p (by simpa using d)];simp[aZ d]
 ·rw[y6 a q (by simpa using b),List.getElem_set_ne n];simp[aZ b]
 ·rw[x9 o p (by simpa using d) _ rfl]
  unfold kc swp
  congr 1
  rw[List.map_set,List.map_set];apply K9 (by simp);intro k s t;simp only[List.getElem_set,Cu]
  by_cases h:p=k
  ·subst h;simp
  ·by_cases r:q=k
   ·subst r;simp[h]
   ·simp[h,r]
theorem oT(t:T):e3 t=[aa t.f,aa t.v,.d (ao U t.kids)]:=rfl
theorem Dn(t:T):qQ t=[aa t.f,aa t.v,.d (ao .sub t.kids)]:=rfl
theorem XN(l:ah)(i:Nat)(K:l.length<=1099511627776)(u:i+1<l.length)(e d r p:AV)(D:e.clr=e)(G:d.clr=d):
 aS XV [46,50] (.region true 0 [0,1,2,3,8,9] A4) ⟨[(0,.tsl true 0 3 l.length),(1,e),(2,d),(3,r),(8,p),(9,aa ((i+1:Nat):Int)),(34,au true)],[some (kc l)]⟩=some (.normal,⟨[(0,.tsl true 0 3 l.length),(1,e),(2,d),(3,r),(8,p),(9,aa ((i+1:Nat):Int))],[some (kc (swp l i (i+1)))]⟩):=by
 have m:IntKind.i64.wrap (((i+1:Nat):Int)-1)=(i:Int):=by rw[show((i+1:Nat):Int)-1=(i:Int)by omega];exact wrap_i64 (by omega) (by omega)
 obtain⟨I,F,H,t,C,s,f1,f2,f3,f4,q,j⟩:=Dj l i (i+1) (by omega) u (by omega);have o:=mt l;generalize kc (swp l i (i+1))=c4 at j⊢
 generalize kc l=c0 at f1 f2 o⊢
 generalize w:l.length=n at*
 have a:(0:Int)<=((i+1:Nat):Int)/\((i+1:Nat):Int)<n:=⟨by omega,by omega⟩;have b:((i+1:Nat):Int).toNat=i+1:=rfl;have h:(i:Int)<n:=by omega
 have k:i*3+3<=n*3:=by omega
 have g:(i+1)*3+3<=n*3:=by omega
 generalize ((i+1:Nat):Int)=J at m a b⊢
 simp only[oT,Dn,ao]at f1 f2 f3 f4 q j;have c:∀x y z:AV,AV.clrs [x,y,z]=[x.clr,y.clr,z.clr]:=fun x y z=>by simp only[AV.clrs]
 simp[q23,m,a,b,h,o,t,C,s,f1,f2,f3,f4,q,j,k,g,c,bb,aY,a6,ba]
theorem SU(a b c d e f:Int)(B:az)(s:B.length=3):
 bq XV [] 3 [2,3,26,27,28] iX ⟨[(2,.ptr 1 0),(3,.ptr 2 0),(26,.d (.sl .sub (jd a b c d e f))),(27,aa 3),(28,aa 0)],B⟩=
  some (match runN (kT a b c d e f) 3 () 0 with
   | .inl _=>(.exit 0,⟨[(2,.ptr 1 0),(3,.ptr 2 0),(26,.d (.sl .sub (jd a b c d e f))),(27,aa 3),(28,aa 3),(29,au false)],B⟩)
   | .inr r=>(.ret,⟨[(4,aa r.1)],B++[some [aa r.2.1,aa r.2.2]]⟩)):=by
 obtain⟨z,h,g,rfl⟩:∃z h g,B=[z,h,g]:=by
  match B,s with
  | [z,h,g],_=>exact⟨z,h,g,rfl⟩
 have key:=bG (X:=XV) (T:=[]) (L:=3) (live:=[2,3,26,27,28]) (b:=iX) (n:=3) (γ:=Int×(Int×Int)) (st:=fun(_:Unit) i=>⟨[(2,.ptr 1 0),(3,.ptr 2 0),(26,.d (.sl .sub (jd a b c d e f))),(27,aa 3),(28,aa i)],[z,h,g]⟩) (step:=kT a b c d e f)
  (F:=fun _=>(.exit 0,⟨[(2,.ptr 1 0),(3,.ptr 2 0),(26,.d (.sl .sub (jd a b c d e f))),(27,aa 3),(28,aa 3),(29,au false)],[z,h,g]⟩)) (R:=fun r=>(.ret,⟨[(4,aa r.1)],[z,h,g]++[some [aa r.2.1,aa r.2.2]]⟩))
  (fun _=>⟨by simp,by simp[iX]⟩)
  (fun _ i hi=>by
   have p:=aV (n:=i) (by omega);have j:(i:Int)<3:=by omega
   have m:=I9 a b c d e f i hi;unfold kT;generalize k9 a b c d e f i=q at m;obtain⟨x,y⟩:=q;simp only at m⊢
   by_cases k:x<y
   ·rw[ay k]
    refine⟨by simp,?_⟩;simp[iX,j,m,cut,k,aY,splice,aW,bb,ba]
   ·rw[aC k]
    by_cases o:x>y
    ·rw[ay o]
     refine⟨by simp,?_⟩;simp[iX,j,m,cut,k,o,aY,splice,aW,bb,ba]
    ·rw[aC o]
     refine⟨_,by simp[iX,j,m,cut,k,o,p,aY,splice,aW,bb,ba];rfl,?_⟩;simp[aA,aB])
  3 () 0 ⟨[(2,.ptr 1 0),(3,.ptr 2 0),(26,.d (.sl .sub (jd a b c d e f))),(27,aa 3),(28,aa 0)],[z,h,g]⟩ (by omega) (by simp[aA,aB])
 rw[key];cases runN (kT a b c d e f) 3 () 0<;>rfl
theorem qxH(z:Option aG)(f v:Int)(ks:ah)(e v':Int)(a:ah)(p:ks.length<=1099511627776)(g:ks.length=a.length)
 (j:∀s s',s∈ks->s'∈a->aj XV 6 [.d (s.enc .sub),.d (s'.enc .sub)] []=some (aa (T.cmp s s'),[])):
 bq XV [] 3 [2,3,47,48] ln ⟨[(2,.ptr 1 0),(3,.ptr 2 0),(47,aa ks.length),(48,aa 0)],z::ck f v ks e v' a⟩=
  some (if T.cmps ks a=0 then(.exit 3,⟨[(2,.ptr 1 0),(3,.ptr 2 0),(47,aa ks.length),(48,aa ks.length),(49,au false)],z::ck f v ks e v' a⟩)else(.ret,⟨[(4,aa (T.cmps ks a))],z::ck f v ks e v' a⟩)):=by
 have h:=bG (X:=XV) (T:=[]) (L:=3) (live:=[2,3,47,48]) (b:=ln) (n:=ks.length) (γ:=Int) (st:=fun(_:Unit) i=>⟨[(2,.ptr 1 0),(3,.ptr 2 0),(47,aa ks.length),(48,aa i)],z::ck f v ks e v' a⟩) (step:=lI ks a)
  (F:=fun _=>(.exit 3,⟨[(2,.ptr 1 0),(3,.ptr 2 0),(47,aa ks.length),(48,aa ks.length),(49,au false)],z::ck f v ks e v' a⟩)) (R:=fun r=>(.ret,⟨[(4,aa r)],z::ck f v ks e v' a⟩))
  (fun _=>⟨by simp,by simp[ln]⟩)
  (fun _ i hi=>by
   have o:=aV (n:=i) (by omega);have c:i<a.length:=by omega
   have hc:=j _ _ (bM hi) (bM c);unfold lI ck
   by_cases k:T.cmp (ai ks i) (ai a i)=0
   ·rw[k]at hc⊢
    simp only[eg,sR,if_false];refine⟨_,by simp[ln,CN,hi,c,o,cut,aZ hi,aZ c,hc,aW];rfl,?_⟩;simp[aA,aB]
   ·simp only[eg,k,mq,if_true]
    have m:(T.cmp (ai ks i) (ai a i) !=0)=true:=by simp[k]
    refine⟨by simp,?_⟩;simp[ln,CN,hi,c,cut,aZ hi,aZ c,hc,aW,m])
  ks.length () 0 ⟨[(2,.ptr 1 0),(3,.ptr 2 0),(47,aa ks.length),(48,aa 0)],z::ck f v ks e v' a⟩ (by omega) (by simp[aA,aB,ck])
 rw[vD ks a g _ _ (by omega)]at h;simp only[eQ]at h;rw[h]
 by_cases k:T.cmps ks a=0<;>simp[k]
theorem Tc(z:Option aG)(f v:Int)(ks:ah)(c v':Int)(a:ah)(o:ks.length<=1099511627776)(m:a.length<=1099511627776)
 (e:∀s s',s∈ks->s'∈a->aj XV 6 [.d (s.enc .sub),.d (s'.enc .sub)] []=some (aa (T.cmp s s'),[])):
 aj XV 6 [.d ((T.node f v ks).enc .sub),.d ((T.node c v' a).enc .sub)] [z]=some (aa (T.cmp (.node f v ks) (.node c v' a)),[z]):=by
 rw[aK 6 v6 rfl];have h:=SU f c v v' ks.length a.length (z::ck f v ks c v' a) rfl;simp[v6,aY,a6,bb,ba,splice,aW,f6,List.replicate];simp only[jd,ck]at h;rw[h,y_];rcases Mo f c v v' ks.length a.length with⟨g,n,t,e3⟩|⟨r,g,p⟩
 ·rw[g]
  have b:ks.length=a.length:=by omega
  have k:=qxH z f v ks c v' a o b e;simp only[ck]at k;subst n;subst t
  simp[GY,aW];rw[k];have q:eY f f v v ks.length a.length (T.cmps ks a)=T.cmps ks a:=by simp[eY,b]
  rw[q]
  by_cases j:T.cmps ks a=0
  ·simp[j,EW]
  ·simp[j]
 ·rw[g,p];simp
theorem DZ(z:Option aG)(a b:T)(g:a.inner<=1099511627776)(j:b.inner<=1099511627776):aj XV 6 [.d (a.enc .sub),.d (b.enc .sub)] [z]=some (aa (T.cmp a b),[z]):=by obtain⟨f,v,ks⟩:=a;obtain⟨h,v',e⟩:=b;simp only[T.inner]at g j;exact Tc z f v ks h v' e (by omega) (by omega) (fun s s' k c=>CF s s' (by have:=T.qaD k;omega) (by have:=T.qaD c;omega))
theorem F3(A Z:ah)(x:T):ai (A++x::Z) A.length=x:=by simp[ai]
theorem Bf(A M Z:ah)(x y:T)(q:Nat)(b:q=A.length+1+M.length):swp (A++x::(M++y::Z)) A.length q=A++y::(M++x::Z):=by
 subst b;have a:ai (A++x::(M++y::Z)) (A.length+1+M.length)=y:=by have:=F3 (A++x::M) Z y;simp only[cG,c7,bX,c9]at this;rw[show A.length+1+M.length=A.length+(M.length+1)by omega];exact this
 have c:=F3 A (M++y::Z) x;unfold swp;rw[a,c];have s1:(A++x::(M++y::Z)).set (A.length+1+M.length) x=A++x::(M++x::Z):=by have:=ye (s:=A++x::M) (t:=y::Z) (A.length+1+M.length) x (by simp;omega);simp only[bX,c9,cG,c7]at this;rw[this,show A.length+1+M.length-(A.length+(M.length+1))=0 by omega];rfl
 rw[s1,ye _ _ (bI _),mO];rfl
theorem LQ(l:ah)(p q:Nat)(h:p≠q):swp l p q=swp l q p:=by unfold swp;rw[List.set_comm _ _ h]
theorem qS9(l:ah)(a b i:Nat)(n:Int)(N:l.length<=1099511627776)(D:a+i<l.length)(C:b+i<l.length)(u:b≠a):
 aS XV [29,35] (.region true 0 [0,1,2,3,10] Dr) ⟨[(0,.tsl true 0 3 l.length),(1,aa a),(2,aa b),(3,aa n),(10,aa i),(13,au true)],[some (kc l)]⟩=some (.normal,⟨[(0,.tsl true 0 3 l.length),(1,aa a),(2,aa b),(3,aa n),(10,aa i)],[some (kc (swp l (b+i) (a+i)))]⟩):=by
 have g:IntKind.i64.wrap ((a:Int)+i)=((a+i:Nat):Int):=by rw[wrap_i64 (by omega) (by omega)];omega
 have h:IntKind.i64.wrap ((b:Int)+i)=((b+i:Nat):Int):=by rw[wrap_i64 (by omega) (by omega)];omega
 obtain⟨M,H,I,w,G,t,f1,f2,f3,f4,s,p⟩:=Dj l (b+i) (a+i) C D (by omega);have r:=mt l;generalize kc (swp l (b+i) (a+i))=c4 at p⊢
 generalize kc l=c0 at f1 f2 r⊢
 generalize F:l.length=m at*
 have c:(0:Int)<=((a+i:Nat):Int)/\((a+i:Nat):Int)<m:=⟨by omega,by omega⟩;have k:(0:Int)<=((b+i:Nat):Int)/\((b+i:Nat):Int)<m:=⟨by omega,by omega⟩;have e:((a+i:Nat):Int).toNat=a+i:=rfl;have d:((b+i:Nat):Int).toNat=b+i:=rfl;have q:(a+i)*3+3<=m*3:=by omega
 have o:(b+i)*3+3<=m*3:=by omega
 generalize ((a+i:Nat):Int)=J at g c e⊢
 generalize ((b+i:Nat):Int)=K at h k d⊢
 simp only[oT,Dn,ao]at f1 f2 f3 f4 s p;have j:∀x y z:AV,AV.clrs [x,y,z]=[x.clr,y.clr,z.clr]:=fun x y z=>by simp only[AV.clrs]
 simp[q20,g,h,c,e,k,d,r,w,G,t,f1,f2,f3,f4,s,p,q,o,j,bb,aY,a6,ba]
def dU(A P Q R Z:ah)(i:Nat):ah:=A++R.take i++P.drop i++Q++P.take i++R.drop i++Z
theorem WE(A P Q R Z:ah)(i:Nat)(h:P.length=R.length):(dU A P Q R Z i).length=(A++P++Q++R++Z).length:=by simp[dU];omega
theorem YM(A P Q R Z:ah)(i:Nat)(h:P.length=R.length)(hi:i<P.length):swp (dU A P Q R Z i) (A.length+P.length+Q.length+i) (A.length+i)=dU A P Q R Z (i+1):=by
 have a:i<R.length:=by omega
 have c:dU A P Q R Z i=(A++R.take i)++P[i]::((P.drop (i+1)++Q++P.take i)++R[i]::(R.drop (i+1)++Z)):=by unfold dU;rw[dS hi,dS a];simp only[bX,c9]
 have b:dU A P Q R Z (i+1)=(A++R.take i)++R[i]::((P.drop (i+1)++Q++P.take i)++P[i]::(R.drop (i+1)++Z)):=by unfold dU;rw[<-List.take_append_getElem hi,<-List.take_append_getElem a];simp only[bX,c9,co]
 have d:(A++R.take i).length=A.length+i:=by simp;omega
 rw[c,b,LQ _ _ _ (by omega),<-d];exact Bf _ _ _ _ _ _ (by simp;omega)
theorem Wy(A P Q R Z:ah)(h:P.length=R.length)(j:(A++P++Q++R++Z).length<=1099511627776)(f:AV)(s:f.clr=f):
 aj XV 175 [.tsl true 0 3 (A++P++Q++R++Z).length,aa A.length,aa (A.length+P.length+Q.length:Nat),aa P.length,f] [some (kc (A++P++Q++R++Z))]=some (.d (.tup []),[some (kc (A++R++Q++P++Z))]):=by
 rw[aK 175 Ba rfl];have c:∀i,(dU A P Q R Z i).length=(A++P++Q++R++Z).length:=fun i=>WE A P Q R Z i h
 have r:dU A P Q R Z 0=A++P++Q++R++Z:=by simp[dU]
 have m:dU A P Q R Z P.length=A++R++Q++P++Z:=by unfold dU;rw[yp (l:=R) (by omega),dD (l:=R) (by omega)];simp
 rw[<-r,<-m];generalize p:(A++P++Q++R++Z).length=N at j c;have o:N=A.length+P.length+Q.length+R.length+Z.length:=by rw[<-p];simp;omega
 rw[c 0];have a:=bG (X:=XV) (T:=[29,35]) (L:=1) (live:=[0,1,2,3,10]) (b:=Af) (n:=P.length) (γ:=Unit) (st:=fun(_:Unit) i=>⟨[(0,.tsl true 0 3 N),(1,aa A.length),(2,aa (A.length+P.length+Q.length:Nat)),(3,aa P.length),(10,aa i)],[some (kc (dU A P Q R Z i))]⟩) (step:=fun _ _=> .inl ())
  (F:=fun _=>(.exit 0,⟨[(0,.tsl true 0 3 N),(1,aa A.length),(2,aa (A.length+P.length+Q.length:Nat)),(3,aa P.length),(10,aa P.length),(13,au false)],[some (kc (dU A P Q R Z P.length))]⟩)) (R:=fun _=>(.ret,⟨[],[]⟩))
  (fun _=>⟨by simp,by simp[Af]⟩)
  (fun _ i hi=>by
   have k:=aV (n:=i) (by omega);have e:=qS9 (dU A P Q R Z i) A.length (A.length+P.length+Q.length) i P.length (by rw[c];exact j) (by rw[c];omega) (by rw[c];omega) (by omega);rw[YM A P Q R Z i h hi,c]at e;have q:(i:Int)<P.length:=by omega
   generalize g:kc (dU A P Q R Z (i+1))=c2 at e;generalize kc (dU A P Q R Z i)=c1 at e⊢
   exact⟨⟨[(0,.tsl true 0 3 N),(1,aa A.length),(2,aa (A.length+P.length+Q.length:Nat)),(3,aa P.length),(10,aa (i+1:Nat))],[some c2]⟩,by
    simp[Af,hi];simp only[qt]at e;rw[e];simp[k],by simp[aA,aB,fN,g]⟩)
  P.length () 0 ⟨[(0,.tsl true 0 3 N),(1,aa A.length),(2,aa (A.length+P.length+Q.length:Nat)),(3,aa P.length),(10,aa 0)],[some (kc (dU A P Q R Z 0))]⟩ (by omega) (by simp[aA,aB,fN])
 rw[dB]at a;generalize kc (dU A P Q R Z P.length)=c2 at a⊢
 generalize kc (dU A P Q R Z 0)=c1 at a⊢
 generalize ((A.length+P.length+Q.length:Nat):Int)=K at a⊢
 simp[Ba];rw[a];simp
theorem Hl(A P Q R Z:ah)(a b n N:Nat)(e:a=A.length)(m:b=A.length+P.length+Q.length)(c:n=P.length)(g:n=R.length)(k:N=(A++P++Q++R++Z).length)(j:N<=1099511627776)(f:AV)(h:f.clr=f):
 aj XV 175 [.tsl true 0 3 N,aa a,aa b,aa n,f] [some (kc (A++P++Q++R++Z))]=some (.d (.tup []),[some (kc (A++R++Q++P++Z))]):=by
 subst e;subst m;subst c;subst k
 exact Wy A P Q R Z g j f h
theorem Ra(G:ah)(m N:Nat)(O:N<=1099511627776)(f:AV)(n:f.clr=f)(r:f.safe 1=true):∀(k:Nat) (A X Y Z:ah),X.length+Y.length<=k->0<X.length->0<Y.length->A.length+X.length=m->(A++X++Y++Z).length=N->G=A++Y++X++Z->
 ∃(d a b e:ah),a.length=b.length/\d.length+a.length=m/\(d++a++b++e).length=N/\G=d++b++a++e/\
  bq XV [] 1 [0,2,4,10,11] wu ⟨[(0,.tsl true 0 3 N),(2,aa m),(4,f),(10,aa X.length),(11,aa Y.length)],[some (kc (A++X++Y++Z))]⟩=some (.exit 0,⟨[(0,.tsl true 0 3 N),(2,aa m),(4,f),(10,aa a.length),(11,aa a.length),(20,au false)],[some (kc (d++a++b++e))]⟩):=by
 intro k
 induction k with
 |zero=>intro A X Y Z h1 h2;omega
 |succ k S=>
  intro A X Y Z hk hx hy hm K t;have h3:A.length+X.length+Y.length+Z.length=N:=by rw[<-K];simp;omega
  have head:∀(x y:Nat) (c:aG),aA 1 [0,2,4,10,11] ⟨[(0,.tsl true 0 3 N),(2,aa m),(4,f),(10,aa x),(11,aa y)],[some c]⟩=some ⟨[(0,.tsl true 0 3 N),(2,aa m),(4,f),(10,aa x),(11,aa y)],[some c]⟩:=fun x y c=>by simp[aA,aB,fN,r]
  rcases Nat.lt_trichotomy X.length Y.length with h4|h|h5
  ·
   have j:(Y.take (Y.length-X.length)).length=Y.length-X.length:=by simp
   have I:(Y.drop (Y.length-X.length)).length=X.length:=by simp;omega
   generalize F:Y.take (Y.length-X.length)=Q at j;generalize hR:Y.drop (Y.length-X.length)=R at I;have V:Y=Q++R:=by rw[<-F,<-hR,dJ]
   have g:=Hl A X Q R Z A.length (m+Y.length-X.length) X.length N rfl (by omega) rfl I.symm (by simp;omega) O f n;obtain⟨d,a,b,e,H,o,s,w,J⟩:=S A R Q (X++Z) (by omega) (by omega) (by omega) (by omega) (by simp;omega) (by rw[t,V];simp);refine⟨d,a,b,e,H,o,s,w,?_⟩;rw[<-J,I,j];have z:A++X++Y++Z=A++X++Q++R++Z:=by rw[V];simp
   have e2:A++R++Q++(X++Z)=A++R++Q++X++Z:=by simp
   rw[z,e2];have q:IntKind.i64.wrap ((m:Int)-X.length)=(A.length:Int):=by rw[wrap_i64 (by omega) (by omega)];omega
   have w2:IntKind.i64.wrap ((m:Int)+Y.length)=((m+Y.length:Nat):Int):=by rw[wrap_i64 (by omega) (by omega)];omega
   have w3:IntKind.i64.wrap (((m+Y.length:Nat):Int)-X.length)=((m+Y.length-X.length:Nat):Int):=by rw[wrap_i64 (by omega) (by omega)];omega
   have D:IntKind.i64.wrap ((Y.length:Int)-X.length)=((Y.length-X.length:Nat):Int):=by rw[wrap_i64 (by omega) (by omega)];omega
   refine d_ (head _ _ _) ?_;have u:((X.length:Int) !=(Y.length:Int))=true:=by simp;omega
   have C:¬((Y.length:Int)<X.length):=by omega
   generalize kc (A++X++Q++R++Z)=c1 at g⊢
   generalize kc (A++R++Q++X++Z)=c2 at g⊢
   generalize ((m+Y.length-X.length:Nat):Int)=gv1 at*
   generalize ((m+Y.length:Nat):Int)=gv2 at*
   generalize ((Y.length-X.length:Nat):Int)=gv3 at*
   generalize (X.length:Int)=vx at*
   generalize (Y.length:Int)=vy at*
   simp[wu,u,C,q,w2,w3,D,g,n]
  ·
   refine⟨A,X,Y,Z,h,hm,K,t,?_⟩;rw[<-h];refine dX (head _ _ _) ?_ (by simp);simp[wu]
  ·have p:(X.take Y.length).length=Y.length:=by simp;omega
   have j:(X.drop Y.length).length=X.length-Y.length:=by simp
   generalize hP:X.take Y.length=P at p;generalize F:X.drop Y.length=Q at j;have M:X=P++Q:=by rw[<-hP,<-F,dJ]
   have g:=Hl A P Q Y Z A.length m Y.length N rfl (by omega) p.symm rfl (by simp;omega) O f n;obtain⟨d,a,b,e,H,o,s,w,J⟩:=S (A++Y) Q P Z (by omega) (by omega) (by omega) (by simp;omega) (by simp;omega) (by rw[t,M];simp);refine⟨d,a,b,e,H,o,s,w,?_⟩;rw[<-J,p,j];have z:A++X++Y++Z=A++P++Q++Y++Z:=by rw[M];simp
   rw[z];have q:IntKind.i64.wrap ((m:Int)-X.length)=(A.length:Int):=by rw[wrap_i64 (by omega) (by omega)];omega
   have D:IntKind.i64.wrap ((X.length:Int)-Y.length)=((X.length-Y.length:Nat):Int):=by rw[wrap_i64 (by omega) (by omega)];omega
   refine d_ (head _ _ _) ?_;have u:((X.length:Int) !=(Y.length:Int))=true:=by simp;omega
   have C:((Y.length:Int)<X.length):=by omega
   generalize kc (A++P++Q++Y++Z)=c1 at g⊢
   generalize kc (A++Y++Q++P++Z)=c2 at g⊢
   generalize ((X.length-Y.length:Nat):Int)=gv3 at*
   generalize (X.length:Int)=vx at*
   generalize (Y.length:Int)=vy at*
   simp[wu,u,C,q,D,g,n]
theorem ZD(A X Y Z:ah)(a m b N:Nat)(G:a=A.length)(y:m=A.length+X.length)(H:b=A.length+X.length+Y.length)(n:N=(A++X++Y++Z).length)(p:N<=1099511627776)(hx:0<X.length)(hy:0<Y.length)(f:AV)(j:f.clr=f)(k:f.safe 1=true):
 aj XV 174 [.tsl true 0 3 N,aa a,aa m,aa b,f] [some (kc (A++X++Y++Z))]=some (.d (.tup []),[some (kc (A++Y++X++Z))]):=by
 have F:A.length+X.length+Y.length+Z.length=N:=by rw[n];simp;omega
 obtain⟨c,e,h,g,w,D,q,r,C⟩:=Ra (A++Y++X++Z) m N p f j k (X.length+Y.length) A X Y Z (bI _) hx hy y.symm n.symm rfl;have u:c.length+e.length+h.length+g.length=N:=by rw[<-q];simp;omega
 have o:=Hl c e [] h g c.length m e.length N rfl (by simp;omega) rfl w (by simp;omega) p f j;simp only[cS]at o;rw[aK 174 AN rfl,r];have s:IntKind.i64.wrap ((m:Int)-a)=(X.length:Int):=by rw[wrap_i64 (by omega) (by omega)];omega
 have z:IntKind.i64.wrap ((b:Int)-m)=(Y.length:Int):=by rw[wrap_i64 (by omega) (by omega)];omega
 have t:IntKind.i64.wrap ((m:Int)-e.length)=(c.length:Int):=by rw[wrap_i64 (by omega) (by omega)];omega
 generalize kc (A++X++Y++Z)=c1 at*
 generalize kc (c++e++h++g)=c2 at*
 generalize kc (c++h++e++g)=c3 at*
 simp[AN,s,z];rw[C];simp[KU,t,j,o]
theorem pS(l:ah)(i:Nat)(hi:i<l.length):((kc l).drop (i*3)).take 3=e3 (ai l i):=by unfold kc;rw[y6 (Ge l) i (by simpa using hi)];simp[aZ hi]
theorem Vz(l:ah)(a:Nat)(j:Nat)(F:l.length<=1099511627776)(p:j+1<l.length)(y:a<j+1)(q:∀t,t∈l->t.inner<=1099511627776)(m s:AV):
 aS XV [46,50] (.region true 0 [0,1,2,3,8,9,34] C8) ⟨[(0,.tsl true 0 3 l.length),(1,aa a),(2,m),(3,.fn 6 []),(8,s),(9,aa ((j+1:Nat):Int))],[some (kc l)]⟩=some (.normal,⟨[(0,.tsl true 0 3 l.length),(1,aa a),(2,m),(3,.fn 6 []),(8,s),(9,aa ((j+1:Nat):Int)),(34,au (decide (T.cmp (ai l (j+1)) (ai l j)<0)))],[some (kc l)]⟩):=by
 have k:IntKind.i64.wrap (((j+1:Nat):Int)-1)=(j:Int):=by rw[show((j+1:Nat):Int)-1=(j:Int)by omega];exact wrap_i64 (by omega) (by omega)
 have hc:=DZ (some (kc l)) (ai l (j+1)) (ai l j) (q _ (bM p)) (q _ (bM (by omega)));have f1:=pS l j (by omega);have f2:=pS l (j+1) p;have o:=mt l;generalize T.cmp (ai l (j+1)) (ai l j)=r at hc⊢
 generalize kc l=c0 at f1 f2 o hc⊢
 generalize u:l.length=n at*
 have b:(0:Int)<=((j+1:Nat):Int)/\((j+1:Nat):Int)<n:=⟨by omega,by omega⟩;have c:((j+1:Nat):Int).toNat=j+1:=rfl;have g:(j:Int)<n:=by omega
 have h:j*3+3<=n*3:=by omega
 have e:(j+1)*3+3<=n*3:=by omega
 have d:((a:Int)<((j+1:Nat):Int)):=by omega
 generalize ((j+1:Nat):Int)=J at k b c d⊢
 obtain⟨G,w,C⟩:=ai l (j+1);obtain⟨z,vb,D⟩:=ai l j;simp only[oT,ao]at f1 f2;simp[Nf,k,b,c,g,d,o,f1,f2,h,e,hc]
theorem Eb(A Z:ah)(x:T)(i:Nat)(h:i=A.length):ai (A++x::Z) i=x:=by subst h;exact F3 A Z x
theorem Uk(N a:Nat)(Y:N<=1099511627776)(o p:Int)(x:T):∀(k:Nat) (A S b:ah),S.length=k->A.length=a->(A++S++x::b).length=N->(∀t,t∈A++S++x::b->t.inner<=1099511627776)->
 ∃q m:ah,S=q++m/\(∀s,s∈m->T.cmp x s<0)/\(∀s,q.getLast?=some s->¬T.cmp x s<0)/\
  ∀(s0:XS),s0.r=[(0,.tsl true 0 3 N),(1,aa a),(2,aa o),(3,.fn 6 []),(8,aa p),(9,aa (a+S.length:Nat))]->s0.B=[some (kc (A++S++x::b))]->
  ∃w,bq XV [46,50] 1 [0,1,2,3,8,9] xP s0=some (.exit 2,⟨[(0,.tsl true 0 3 N),(1,aa a),(2,aa o),(3,.fn 6 []),(8,aa p),(9,aa (a+q.length:Nat)),(34,w)],[some (kc (A++q++x::(m++b)))]⟩):=by
 have head:∀(y:Int) (c:aG) (s0:XS),s0.r=[(0,.tsl true 0 3 N),(1,aa a),(2,aa o),(3,.fn 6 []),(8,aa p),(9,aa y)]->s0.B=[some c]->aA 1 [0,1,2,3,8,9] s0=some ⟨[(0,.tsl true 0 3 N),(1,aa a),(2,aa o),(3,.fn 6 []),(8,aa p),(9,aa y)],[some c]⟩:=fun y c s0 d g=>by
  obtain⟨r,B⟩:=s0;simp only at d g;subst d;subst g
  simp[aA,aB,fN,ix,eP]
 intro k
 induction k with
 |zero=>intro A S b G F j O;have:S=[]:=gS.1 G;subst this;refine⟨[],[],rfl,by simp,by simp,fun s0 d g=>⟨au false,?_⟩⟩;refine dX (head _ _ s0 d g) ?_ (by simp);simp[xP,Nf,Ia]
 |succ k ih=>
  intro A S b G F j O;have z:S≠[]:=by intro h;simp[h]at G
  obtain⟨S',s,rfl⟩:∃S' s,S=S'++[s]:=⟨S.dropLast,S.getLast z,(vL z).symm⟩;have R:S'.length=k:=by simpa using G
  have C:A++(S'++[s])++x::b=(A++S')++s::([]++x::b):=by simp
  have Q:A++S'++x::(s::b)=(A++S')++x::([]++s::b):=by simp
  have h3:A.length+S'.length+b.length+2=N:=by rw[<-j];simp;omega
  have u:a+(S'++[s]).length=(a+S'.length)+1:=by simp;omega
  have t0:ai (A++(S'++[s])++x::b) (a+S'.length)=s:=by rw[C];exact Eb _ _ _ _ (by simp[F])
  have t1:ai (A++(S'++[s])++x::b) (a+S'.length+1)=x:=Eb _ _ _ _ (by simp;omega);have hc:=Vz (A++(S'++[s])++x::b) a (a+S'.length) (by rw[j];exact Y) (by rw[j];omega) (by omega) O (aa o) (aa p);rw[t0,t1,j]at hc
  by_cases D:T.cmp x s<0
  ·have e:=XN (A++(S'++[s])++x::b) (a+S'.length) (by rw[j];exact Y) (by rw[j];omega) (aa a) (aa o) (.fn 6 []) (aa p) (by simp) (by simp)
   have P:swp (A++(S'++[s])++x::b) (a+S'.length) (a+S'.length+1)=A++S'++x::(s::b):=by rw[C,Q,show a+S'.length=(A++S').length by simp[F]];exact Bf _ [] _ _ _ _ (by simp)
   rw[P,j]at e;obtain⟨q,m,e1,e2,e3,e4⟩:=ih A S' (s::b) R F (by simp;omega) (fun t V=>O t (by
    simp only[bw,cE]at V;rcases V with(h|h)|h|h|h<;>simp[h]))
   refine⟨q,m++[s],by rw[e1];simp,fun y hy=> ?_,e3,fun s0 d g=> ?_⟩
   ·rcases bw.1 hy with h|h
    ·exact e2 y h
    ·simp at h;subst h;exact D
   ·rw[u]at d
    have Z:=wrap_i64 (n:=((a+S'.length:Nat):Int)) (by omega) (by omega);obtain⟨w,H⟩:=e4 ⟨[(0,.tsl true 0 3 N),(1,aa a),(2,aa o),(3,.fn 6 []),(8,aa p),(9,aa (a+S'.length:Nat))],[some (kc (A++S'++x::(s::b)))]⟩ rfl rfl;refine⟨w,?_⟩;have K:m++[s]++b=m++(s::b):=by simp
    rw[K,<-H];refine d_ (head _ _ s0 d g) ?_;have M:IntKind.i64.wrap (((a+S'.length+1:Nat):Int)-1)=((a+S'.length:Nat):Int):=by rw[show((a+S'.length+1:Nat):Int)-1=((a+S'.length:Nat):Int)by omega];exact Z
    simp only[D,decide_true]at hc;generalize kc (A++S'++x::(s::b))=c2 at e⊢
    generalize kc (A++(S'++[s])++x::b)=c1 at hc e⊢
    generalize ((a+S'.length+1:Nat):Int)=J at*
    generalize ((a+S'.length:Nat):Int)=I at*
    simp only[xP,H5,hc];simp;rw[e];simp[Ia,M]
  ·refine⟨S'++[s],[],by simp,by simp,fun y hy=> ?_,fun s0 d g=>⟨au false,?_⟩⟩
   ·simp at hy;subst hy;exact D
   ·rw[u]at d⊢
    refine dX (head _ _ s0 d g) ?_ (by simp);simp only[D,decide_false]at hc;simp only[co];generalize kc (A++(S'++[s])++x::b)=c1 at hc⊢
    generalize ((a+S'.length+1:Nat):Int)=J at*
    simp only[xP,H5,hc];simp
theorem Zf{b g:ah}{x:T}(h:b0 (b++g))(r:∀s,s∈g->T.cmp x s<0)(m:∀s,b.getLast?=some s->¬T.cmp x s<0):b0 (b++x::g):=by
 unfold b0 at*
 rw[ob]at h⊢
 obtain⟨j,q,n⟩:=h;have hx:∀s,s∈b->cZ s x:=by
  intro s c;have a:b≠[]:=fun d=>by rw[d]at c;simp at c
  have k:=si (m (b.getLast a) (Np a))
  by_cases d:s=b.getLast a
  ·rw[d];exact k
  ·have o:s∈b.dropLast:=by
    have:=vL a;rw[<-this]at c;rcases bw.1 c with h|h
    ·exact h
    ·simp at h;exact absurd h d
   have p:(b.dropLast++[b.getLast a]).Pairwise cZ:=by rw[vL];exact j
   exact vI ((ob.1 p).2.2 s o _ (by simp)) k
 refine⟨j,nX.2 ⟨fun s c=>rQ (r s c),q⟩,fun s c t e=> ?_⟩;rcases cE.1 e with rfl|e
 ·exact hx s c
 ·exact n s c t e
theorem Tx(N a b:Nat)(hn:N<=1099511627776)(A Z:ah)(V:A.length=a):∀(R S:ah),0<S.length->b=a+S.length+R.length->(A++S++R++Z).length=N->(∀t,t∈A++S++R++Z->t.inner<=1099511627776)->b0 S->
 ∃W:ah,W.Perm (S++R)/\b0 W/\
  ∀(s0:XS),s0.r=[(0,.tsl true 0 3 N),(1,aa a),(2,aa b),(3,.fn 6 []),(8,aa (a+S.length:Nat))]->s0.B=[some (kc (A++S++R++Z))]->
  bq XV [46,50] 1 [0,1,2,3,8] pR s0=some (.exit 0,⟨[(0,.tsl true 0 3 N),(1,aa a),(2,aa b),(3,.fn 6 []),(8,aa b),(14,au false)],[some (kc (A++W++Z))]⟩):=by
 have head:∀(y:Int) (c:aG) (s0:XS),s0.r=[(0,.tsl true 0 3 N),(1,aa a),(2,aa b),(3,.fn 6 []),(8,aa y)]->s0.B=[some c]->aA 1 [0,1,2,3,8] s0=some ⟨[(0,.tsl true 0 3 N),(1,aa a),(2,aa b),(3,.fn 6 []),(8,aa y)],[some c]⟩:=fun y c s0 m j=>by
  obtain⟨r,B⟩:=s0;simp only at m j;subst m;subst j
  simp[aA,aB,fN,ix,eP]
 intro R
 induction R with
 |nil=>
  intro S Y z C k K;refine⟨S,by simp,K,fun s0 m j=> ?_⟩;have F:b=a+S.length:=by simpa using z
  rw[<-F]at m;rw[cS]at j;refine dX (head _ _ s0 m j) ?_ (by simp);simp[pR]
 |cons x R ih=>
  intro S Y z C k K;obtain⟨g,e,s,e2,e3,e4⟩:=Uk N a hn b (a+S.length:Nat) x S.length A S (R++Z) rfl V (by rw[<-C];simp) (fun t u=>k t (by
   simp only[bw,cE]at u⊢
   rcases u with(h|h)|h|h|h<;>simp[h]))
  have O:b0 (g++x::e):=Zf (by rw[<-s];exact K) e2 e3;have d:(g++x::e).length=S.length+1:=by rw[s];simp;omega
  have p:(g++x::e).Perm (S++[x]):=by
   rw[s];exact(Dd).trans (by
    have:=yt (l₁:=[x]) (l₂:=g++e);simpa using this)
  have M:(A++(g++x::e)++R++Z).length=N:=by rw[<-C,s];simp;omega
  obtain⟨W,Q,w2,w3⟩:=ih (g++x::e) (by rw[d];omega) (by rw[d,z];simp;omega) M (fun t u=>k t (by
   rw[s];simp only[bw,cE]at u⊢
   rcases u with((h|h|h|h)|h)|h<;>simp[h])) O
  refine⟨W,Q.trans ((p.append_right R).trans (by simp)),w2,fun s0 m j=> ?_⟩;have h3:A.length+S.length+(R.length+1)+Z.length=N:=by rw[<-C];simp;omega
  have H:((a+S.length:Nat):Int)<(b:Int):=by simp only[c7]at z;omega
  obtain⟨w,o⟩:=e4 ⟨[(0,.tsl true 0 3 N),(1,aa a),(2,aa b),(3,.fn 6 []),(8,aa (a+S.length:Nat)),(9,aa (a+S.length:Nat))],[some (kc (A++S++x::(R++Z)))]⟩ rfl rfl;have G:A++S++x::R++Z=A++S++x::(R++Z):=by simp
  rw[G]at j;have P:=aV (n:=a+S.length) (by omega);have q:=w3 ⟨[(0,.tsl true 0 3 N),(1,aa a),(2,aa b),(3,.fn 6 []),(8,aa (a+(g++x::e).length:Nat))],[some (kc (A++(g++x::e)++R++Z))]⟩ rfl rfl;rw[<-q];refine d_ (head _ _ s0 m j) ?_;have D:A++(g++x::e)++R++Z=A++g++x::(e++(R++Z)):=by simp
  rw[D,d,show a+(S.length+1)=a+S.length+1 by omega];generalize kc (A++g++x::(e++(R++Z)))=c2 at o⊢
  generalize kc (A++S++x::(R++Z))=c1 at o⊢
  generalize ((a+S.length+1:Nat):Int)=J at*
  generalize ((a+S.length:Nat):Int)=I at*
  simp[pR,H];rw[o];simp[P]
theorem I6(A X Z:ah)(a b N:Nat)(o:a=A.length)(m:b=A.length+X.length)(q:N=(A++X++Z).length)(y:N<=1099511627776)(e:∀t,t∈A++X++Z->t.inner<=1099511627776):
 ∃W:ah,W.Perm X/\b0 W/\aj XV 172 [.tsl true 0 3 N,aa a,aa b,.fn 6 []] [some (kc (A++X++Z))]=some (.d (.tup []),[some (kc (A++W++Z))]):=by
 have u:A.length+X.length+Z.length=N:=by rw[q];simp;omega
 have k:=aV (n:=a) (by omega);cases X with
 |nil=>
  refine⟨[],kt _,AO,?_⟩;rw[aK 172 oi rfl];have g:b=a:=by simp at m;omega
  subst g;have c:bq XV [46,50] 1 [0,1,2,3,8] pR ⟨[(0,.tsl true 0 3 N),(1,aa b),(2,aa b),(3,.fn 6 []),(8,aa (b+1:Nat))],[some (kc (A++[]++Z))]⟩=some (.exit 0,⟨[(0,.tsl true 0 3 N),(1,aa b),(2,aa b),(3,.fn 6 []),(8,aa (b+1:Nat)),(14,au false)],[some (kc (A++[]++Z))]⟩):=by
   refine dX (s0:=⟨[(0,.tsl true 0 3 N),(1,aa b),(2,aa b),(3,.fn 6 []),(8,aa (b+1:Nat))],[some (kc (A++[]++Z))]⟩) (by simp[aA,aB,fN,ix,eP]) ?_ (by simp);have j:¬(((b+1:Nat):Int)<(b:Int)):=by omega
   generalize ((b+1:Nat):Int)=J at*
   simp[pR,j]
  generalize kc (A++[]++Z)=c1 at c⊢
  generalize ((b+1:Nat):Int)=J at*
  simp[oi,k];rw[c];simp
 |cons x R=>
  obtain⟨W,r,w,s⟩:=Tx N a b y A Z o.symm R [x] (by simp) (by rw[m,o];simp;omega) (by rw[q];simp) (fun t p=>e t (by
   simp only[bw,cE,List.not_mem_nil,or_false]at p⊢
   rcases p with((h|h)|h)|h<;>simp[h])) (ru _ _)
  refine⟨W,by simpa using r,w,?_⟩;rw[aK 172 oi rfl];have c:=s ⟨[(0,.tsl true 0 3 N),(1,aa a),(2,aa b),(3,.fn 6 []),(8,aa (a+1:Nat))],[some (kc (A++[x]++R++Z))]⟩ rfl rfl;have hc:A++x::R++Z=A++[x]++R++Z:=by simp
  rw[hc];generalize kc (A++[x]++R++Z)=c1 at c⊢
  generalize kc (A++W++Z)=c2 at c⊢
  generalize ((a+1:Nat):Int)=J at*
  simp[oi,k];rw[c];simp
theorem qMK(l:ah)(k:Nat)(z:l.length<=1099511627776)(t:k+1<l.length)(b:Int):
 aS XV [70,74,122,126] (.region true 0 [0,10,13] yG) ⟨[(0,.tsl true 0 3 l.length),(10,aa b),(13,aa k),(58,au true)],[some (kc l)]⟩=some (.normal,⟨[(0,.tsl true 0 3 l.length),(10,aa b),(13,aa k)],[some (kc (swp l (k+1) k))]⟩):=by
 have m:=aV (n:=k) (by omega);obtain⟨w,y,u,s,r,p,f1,f2,f3,f4,j,e⟩:=Dj l (k+1) k t (by omega) (by omega);have o:=mt l;generalize kc (swp l (k+1) k)=c4 at e⊢
 generalize kc l=c0 at f1 f2 o⊢
 generalize q:l.length=n at*
 have a:(0:Int)<=((k+1:Nat):Int)/\((k+1:Nat):Int)<n:=⟨by omega,by omega⟩;have c:((k+1:Nat):Int).toNat=k+1:=rfl;have g:(k:Int)<n:=by omega
 have h:k*3+3<=n*3:=by omega
 have d:(k+1)*3+3<=n*3:=by omega
 generalize ((k+1:Nat):Int)=J at m a c⊢
 simp only[oT,Dn,ao]at f1 f2 f3 f4 j e;simp[YI,m,a,c,g,o,s,r,p,f1,f2,f3,f4,j,e,h,d,bb,aY,a6,ba]
theorem WS(l:ah)(k:Nat)(z:l.length<=1099511627776)(t:k+1<l.length)(c:Int):
 aS XV [70,74,122,126] (.region true 0 [0,14,17] D9) ⟨[(0,.tsl true 0 3 l.length),(14,aa c),(17,aa ((k+1:Nat):Int)),(110,au true)],[some (kc l)]⟩=some (.normal,⟨[(0,.tsl true 0 3 l.length),(14,aa c),(17,aa ((k+1:Nat):Int))],[some (kc (swp l k (k+1)))]⟩):=by
 have m:IntKind.i64.wrap (((k+1:Nat):Int)-1)=(k:Int):=by rw[show((k+1:Nat):Int)-1=(k:Int)by omega];exact wrap_i64 (by omega) (by omega)
 obtain⟨w,y,u,s,r,p,f1,f2,f3,f4,j,e⟩:=Dj l k (k+1) (by omega) t (by omega);have o:=mt l;generalize kc (swp l k (k+1))=c4 at e⊢
 generalize kc l=c0 at f1 f2 o⊢
 generalize q:l.length=n at*
 have a:(0:Int)<=((k+1:Nat):Int)/\((k+1:Nat):Int)<n:=⟨by omega,by omega⟩;have b:((k+1:Nat):Int).toNat=k+1:=rfl;have g:(k:Int)<n:=by omega
 have h:k*3+3<=n*3:=by omega
 have d:(k+1)*3+3<=n*3:=by omega
 generalize ((k+1:Nat):Int)=J at m a b⊢
 simp only[oT,Dn,ao]at f1 f2 f3 f4 j e;simp[WK,m,a,b,g,o,s,r,p,f1,f2,f3,f4,j,e,h,d,bb,aY,a6,ba]
theorem qOP(l:ah)(a h:Nat)(z:l.length<=1099511627776)(o:a<l.length)(p:h<l.length)(m:∀t,t∈l->t.inner<=1099511627776)(b c:Int):
 aS XV [70,74,122,126] (.region true 0 [0,1,4,10,11,12,50] y5) ⟨[(0,.tsl true 0 3 l.length),(1,aa a),(4,.fn 6 []),(10,aa b),(11,aa c),(12,aa h)],[some (kc l)]⟩=some (.normal,⟨[(0,.tsl true 0 3 l.length),(1,aa a),(4,.fn 6 []),(10,aa b),(11,aa c),(12,aa h),(50,au (decide (T.cmp (ai l h) (ai l a)<0)))],[some (kc l)]⟩):=by
 have hc:=DZ (some (kc l)) (ai l h) (ai l a) (m _ (bM p)) (m _ (bM o));have f1:=pS l h p;have f2:=pS l a o;have k:=mt l;generalize T.cmp (ai l h) (ai l a)=r at hc⊢
 generalize kc l=c0 at f1 f2 k hc⊢
 generalize q:l.length=n at*
 have g:(h:Int)<n:=by omega
 have e:(a:Int)<n:=by omega
 have j:h*3+3<=n*3:=by omega
 have d:a*3+3<=n*3:=by omega
 obtain⟨C,s,w⟩:=ai l h;obtain⟨u,vb,y⟩:=ai l a;simp only[oT,ao]at f1 f2;simp[SD,g,e,k,f1,f2,j,d,hc]
theorem Um(l:ah)(m h:Nat)(C:l.length<=1099511627776)(p:m<l.length)(q:h<l.length)(k:∀t,t∈l->t.inner<=1099511627776)(e b:Int):
 aS XV [70,74,122,126] (.region true 0 [0,2,4,14,15,16,103] yD) ⟨[(0,.tsl true 0 3 l.length),(2,aa m),(4,.fn 6 []),(14,aa e),(15,aa b),(16,aa h)],[some (kc l)]⟩=some (.normal,⟨[(0,.tsl true 0 3 l.length),(2,aa m),(4,.fn 6 []),(14,aa e),(15,aa b),(16,aa h),(103,au (!decide (T.cmp (ai l m) (ai l h)<0)))],[some (kc l)]⟩):=by
 have hc:=DZ (some (kc l)) (ai l m) (ai l h) (k _ (bM p)) (k _ (bM q));have f1:=pS l h q;have f2:=pS l m p;have j:=mt l;generalize T.cmp (ai l m) (ai l h)=r at hc⊢
 generalize kc l=c0 at f1 f2 j hc⊢
 generalize s:l.length=n at*
 have d:(h:Int)<n:=by omega
 have c:(m:Int)<n:=by omega
 have g:h*3+3<=n*3:=by omega
 have a:m*3+3<=n*3:=by omega
 obtain⟨D,u,y⟩:=ai l h;obtain⟨w,vb,z⟩:=ai l m;simp only[oT,ao]at f1 f2
 by_cases o:r<0
 ·simp[Jc,d,c,j,f1,f2,g,a,hc,o]
 ·simp[Jc,d,c,j,f1,f2,g,a,hc,o]
theorem SA(l:ah)(p c:Nat)(O:l.length<=1099511627776)(G:c<=p)(s:p-c<l.length)(u:c<l.length)(F:p<=4398046511104)(D:∀t,t∈l->t.inner<=1099511627776)(C z y g j h k:Int):
 aS XV [70,74,122,126] (.region true 0 [0,1,2,3,4,18,19,20,21,22,23,171] DT) ⟨[(0,.tsl true 0 3 l.length),(1,aa C),(2,aa z),(3,aa y),(4,.fn 6 []),(18,aa g),(19,aa j),(20,aa h),(21,aa k),(22,aa p),(23,aa c)],[some (kc l)]⟩=some (.normal,⟨[(0,.tsl true 0 3 l.length),(1,aa C),(2,aa z),(3,aa y),(4,.fn 6 []),(18,aa g),(19,aa j),(20,aa h),(21,aa k),(22,aa p),(23,aa c),(171,au (!decide (T.cmp (ai l (p-c)) (ai l c)<0)))],[some (kc l)]⟩):=by
 have w:IntKind.i64.wrap ((p:Int)-c)=((p-c:Nat):Int):=by rw[wrap_i64 (by omega) (by omega)];omega
 have hc:=DZ (some (kc l)) (ai l (p-c)) (ai l c) (D _ (bM s)) (D _ (bM u));have f1:=pS l c u;have f2:=pS l (p-c) s;have m:=mt l;generalize T.cmp (ai l (p-c)) (ai l c)=r at hc⊢
 generalize kc l=c0 at f1 f2 m hc⊢
 generalize H:l.length=n at*
 generalize J:p-c=q at*
 have d:(c:Int)<n:=by omega
 have b:(q:Int)<n:=by omega
 have e:c*3+3<=n*3:=by omega
 have a:q*3+3<=n*3:=by omega
 obtain⟨P,I,M⟩:=ai l c;obtain⟨K,vb,N⟩:=ai l q;simp only[oT,ao]at f1 f2
 by_cases o:r<0
 ·simp[MR,w,d,b,m,f1,f2,e,a,hc,o]
 ·simp[MR,w,d,b,m,f1,f2,e,a,hc,o]
end Go.Proofs.YtpcoohnjllclnaaGreat.VS
