/- Contracts of the program's functions on the evaluator without names, and plain lemmas: part 2. -/
import Derived.Test.YtpcoohnjllclnaaGreatXP1
set_option linter.unusedSimpArgs false
set_option linter.unusedVariables false
namespace Go.Proofs.YtpcoohnjllclnaaGreat.VS
theorem Cg(q:Nat->Bool):∀(k i j:Nat),aO q k i=none->i<=j->j<i+k->q j=false
 |0,i,j,_,h1,b=>by omega
 |k+1,i,j,a,h1,b=>by
  simp only[aO]at a;split at a
  ·simp at a
  ·rename_i c
   by_cases he:j=i
   ·subst he;simpa using c
   ·exact Cg q k (i+1) j a (by omega) (by omega)
theorem Z_(l:List Int)(n:Int):decide (0<=cZ (aO (fun i=>n==cA l i) l.length 0))=l.contains n:=by
 cases hq:aO (fun i=>n==cA l i) l.length 0 with
 |none=>
  have h:=fun j=>Cg _ _ _ j hq
  have hc:l.contains n=false:=by
   rw[Bool.eq_false_iff];intro hm;rw[ut]at hm;obtain⟨j,hj⟩:=c9.1 hm;have a:j<l.length:=(aK.1 hj).1;have:=h j (cE _) (by omega);simp[cA,hj]at this
  rw[hc];simp[cZ]
 |some j=>
  obtain⟨h1,c,b⟩:=eT _ _ _ _ hq;have a:j<l.length:=by omega
  have hc:l.contains n=true:=by
   rw[ut];simp only[eJ]at b;rw[b,<-jE a];exact il a
  rw[hc];simp[cZ]
theorem EY(q:Nat->Bool):∀(k i j:Nat),aO q k i=some j->∀a,i<=a->a<j->q a=false
 |0,i,j,h,a,_,_=>by simp[aO]at h
 |k+1,i,j,h,a,h1,b=>by
  simp only[aO]at h;split at h
  ·simp at h;omega
  ·rename_i c
   by_cases he:a=i
   ·subst he;simpa using c
   ·exact EY q k (i+1) j h a (by omega) b
theorem K5(l:List Int)(q:Int->Bool):l.findIdx q=match aO (fun i=>q (cA l i)) l.length 0 with|some j=>j|none=>l.length:=by
 cases hq:aO (fun i=>q (cA l i)) l.length 0 with
 |none=>
  have h:=fun j=>Cg _ _ _ j hq
  simp only;apply Zb.2;intro x hx;obtain⟨j,hj⟩:=c9.1 hx;have a:j<l.length:=(aK.1 hj).1;have:=h j (cE _) (by omega);simpa[cA,hj]using this
 |some j=>
  obtain⟨h1,d,c⟩:=eT _ _ _ _ hq;simp only;have a:j<l.length:=by omega
  rw[List.findIdx_eq a];refine⟨by rw[jE a];exact c,fun i hi=> ?_⟩;have b:i<l.length:=by omega
  rw[jE b];exact EY _ _ _ _ hq i (cE _) hi
section
variable (X:XEnv)
theorem Zr(hn:X.nat 56=none)(hc:X.env.code 56=some lD)(k:X.lin 56=[])(l:List Int)(n:Int)(B:ah)(m:l.length<=140737488355328)(g:X.env.base 56=none:=by first|rfl|assumption):
 al X 56 [.d (is l),aa n] B=some (aa (cZ (aO (fun i=>n==cA l i) l.length 0)),B):=by
 rw[pk X _ _ _ lD hn hc rfl];have h:=cg (X:=X) (T:=[]) (L:=B.length) (live:=[0,1,7,8]) (b:=r9) (n:=l.length) (st:=fun(_:Unit) i=>⟨[(0,.d (is l)),(1,aa n),(7,aa l.length),(8,aa i)],B⟩) (step:=b_ fun i=>n==cA l i)
  (F:=fun _=>(.exit 0,⟨[(0,.d (is l)),(1,aa n),(7,aa l.length),(8,aa l.length),(9,ar false)],B⟩)) (R:=fun(j:Nat)=>(.ret,⟨[(4,aa j)],B⟩))
  (fun a=>⟨by simp,by simp[r9]⟩)
  (fun a i hi=>by
   have hw:=bH (n:=i) (by omega);unfold b_
   by_cases c:(n==cA l i)=true
   ·rw[ap c]
    exact⟨by simp,by simp[r9,hi,cut,jE hi,c]⟩
   ·rw[ak c]
    have e:(n==cA l i)=false:=by simpa using c
    exact⟨_,by simp[r9,hi,hw,cut,jE hi,e];rfl,by simp[aE,aD]⟩)
  l.length () 0 ⟨[(0,.d (is l)),(1,aa n),(7,aa l.length),(8,aa 0)],B⟩ (by omega) (by simp[aE,aD])
 rw[ee]at h;simp[lD,k];rw[h];cases c:aO (fun i=>n==cA l i) l.length 0<;>simp[cZ]
theorem Nb(hn:X.nat 47=none)(hc:X.env.code 47=some mS)(p:X.lin 47=[])(l:List Int)(c:Nat)(caps:List AV)(B:ah)(P:Int->Bool)(r:l.length<=140737488355328)(hs:AV.safe.safes B.length caps=true)(e:caps.map AV.clr=caps)(m:X.lin c=[])
 (q:∀s,s∈l->al X c (aa s::caps) B=some (ar (P s),B)) (o:X.env.base 47=none:=by first|rfl|assumption):
 al X 47 [.d (is l),.fn c caps] B=some (aa (cZ (aO (fun i=>P (cA l i)) l.length 0)),B):=by
 rw[pk X _ _ _ mS hn hc rfl];have h:=cg (X:=X) (T:=[]) (L:=B.length) (live:=[0,1,7,8]) (b:=rL) (n:=l.length) (st:=fun(_:Unit) i=>⟨[(0,.d (is l)),(1,.fn c caps),(7,aa l.length),(8,aa i)],B⟩) (step:=b_ fun i=>P (cA l i))
  (F:=fun _=>(.exit 0,⟨[(0,.d (is l)),(1,.fn c caps),(7,aa l.length),(8,aa l.length),(9,ar false)],B⟩)) (R:=fun(j:Nat)=>(.ret,⟨[(4,aa j)],B⟩))
  (fun a=>⟨by simp,by simp[rL]⟩)
  (fun a i hi=>by
   have hw:=bH (n:=i) (by omega);have hc:=q (cA l i) (by rw[<-jE hi];exact il hi);unfold b_
   by_cases g:P (cA l i)=true
   ·rw[ap g];rw[g]at hc
    exact⟨by simp,by simp[rL,hi,cut,jE hi,hc,e,m]⟩
   ·rw[ak g]
    have k:P (cA l i)=false:=by simpa using g
    rw[k]at hc;exact⟨_,by simp[rL,hi,hw,cut,jE hi,hc,e,m];rfl,by simp[aE,aD,hs]⟩)
  l.length () 0 ⟨[(0,.d (is l)),(1,.fn c caps),(7,aa l.length),(8,aa 0)],B⟩ (by omega) (by simp[aE,aD,hs])
 rw[ee]at h;simp[mS,p];rw[h];cases g:aO (fun i=>P (cA l i)) l.length 0<;>simp[cZ]
theorem Uc(hn:X.nat 55=none)(hc:X.env.code 55=some ml)(i:X.lin 55=[])(a:X.nat 56=none)(b:X.env.code 56=some lD)(c:X.lin 56=[])(l:List Int)(n:Int)(j:l.length<=140737488355328)(g:X.env.base 55=none:=by first|rfl|assumption)(e:X.env.base 56=none:=by first|rfl|assumption):
 al X 55 [.d (is l),aa n] []=some (ar (l.contains n),[]):=by
 rw[pk X _ _ _ ml hn hc rfl];have h:=Zr X a b c l n [] j;have k:=Z_ l n;simp[ml,i,h];simpa using k
theorem SG(c:X.nat 54=none)(e:X.env.code 54=some oD)(a:X.lin 54=[])(hn:X.nat 55=none)(hc:X.env.code 55=some ml)(o:X.lin 55=[])(b:X.nat 56=none)(g:X.env.code 56=some lD)(i:X.lin 56=[])(l:List Int)(n:Int)(p:l.length<=140737488355328)(j:X.env.base 54=none:=by first|rfl|assumption)(m:X.env.base 55=none:=by first|rfl|assumption)(k:X.env.base 56=none:=by first|rfl|assumption):
 al X 54 [.d (is l),aa n] []=some (ar (l.contains n),[]):=by
 rw[pk X _ _ _ oD c e rfl];have h:=Uc X hn hc o b g i l n p;simp[oD,a,h]
theorem SJ(hn:X.nat 108=none)(hc:X.env.code 108=some ms)(b:X.lin 108=[])(x n:Int)(a:X.env.base 108=none:=by first|rfl|assumption):al X 108 [aa x,.ptr 0 0] [some [aa n]]=some (ar (decide (x>n)),[some [aa n]]):=by
 rw[pk X _ _ _ ms hn hc rfl];simp[ms,b]
theorem Uu(hn:X.nat 47=none)(hc:X.env.code 47=some mS)(h:X.lin 47=[])(b:X.nat 108=none)(c:X.env.code 108=some ms)(a:X.lin 108=[])(l:List Int)(n:Int)(j:l.length<=140737488355328)(g:X.env.base 47=none:=by first|rfl|assumption)(e:X.env.base 108=none:=by first|rfl|assumption):
 al X 47 [.d (is l),.fn 108 [.ptr 0 0]] [some [aa n]]=some (aa (cZ (aO (fun i=>decide (cA l i>n)) l.length 0)),[some [aa n]]):=
 Nb X hn hc h l 108 [.ptr 0 0] [some [aa n]] (fun x=>decide (x>n)) j (by simp[Gj,fJ,KG]) rfl a (fun s _=>SJ X b c a s n)
end
def lF(ks:List T)(i:Nat):Nat:=(ks.length-i)+T.inners (ks.drop i)
theorem ZJ(ks:List T):lF ks 0=ks.length+T.inners ks:=by simp[lF]
theorem qsY{ks:List T}{i:Nat}(h:i<ks.length):lF ks i=(ae ks i).inner+1+lF ks (i+1):=by
 unfold lF;rw[cW h,bc h];simp only[T.inners];omega
mutual
theorem Fb{σ:Type}{I:Nat->σ->Prop}{e:T->σ->σ}(a:∀n s x,I (n+1) s->I n (e x s)):∀(t:T) (n:Nat) (s:σ),I (t.inner+1+n) s->I n (T.fold e t s)
 | .node f v ks,n,s,h=>by
  simp only[T.inner]at h;simp only[T.fold];exact Jd a ks n _ (a _ _ _ (by rw[show ks.length+T.inners ks+n+1=ks.length+T.inners ks+1+n by omega];exact h))
theorem Jd{σ:Type}{I:Nat->σ->Prop}{e:T->σ->σ}(a:∀n s x,I (n+1) s->I n (e x s)):∀(l:List T) (n:Nat) (s:σ),I (l.length+T.inners l+n) s->I n (T.folds e l s)
 | [],n,s,h=>by simpa[T.folds,T.inners]using h
 |t::r,n,s,h=>by
  simp only[T.folds];simp only[cB,T.inners]at h;exact Jd a r n _ (Fb a t _ s (by rw[show t.inner+1+(r.length+T.inners r+n)=r.length+1+(t.inner+T.inners r)+n by omega];exact h))
end
theorem Vi{σ:Type}(I:Nat->σ->Prop)(st:σ->ah)(e:T->σ->σ)(k:Nat)(caps:List AV)(m:Nat)(hm:∀s,(st s).length=m)(hcs:∀n,m<=n->AV.safe.safes n caps=true)(u:caps.map AV.clr=caps)(K:¬0∈XV.lin k)
 (H:∀n s x,I (n+1) s->I n (e x s)) (f v:Int) (ks:List T) (S:ks.length<=1099511627776)
 (N:∀(x:T) (s:σ) (r:ah) (n:Nat),I (n+1) s->al XV k (.d (x.enc .sub)::caps) (st s++r)=some (.d (.tup []),st (e x s)++r))
 (q:∀x,x∈ks->∀(s:σ) (r:ah) (n:Nat),I (x.inner+1+n) s->al XV 25 [.d (x.enc .sub),.fn k caps] (st s++r)=some (.d (.tup []),st (T.fold e x s)++r)) (s:σ) (r:ah) (g:Nat) (J:I (ks.length+T.inners ks+1+g) s):
 al XV 25 [.d ((T.node f v ks).enc .sub),.fn k caps] (st s++r)=some (.d (.tup []),st (T.fold e (.node f v ks) s)++r):=by
 rw[aJ 25 po rfl];have z:I (ks.length+T.inners ks+g) (e (.node f v ks) s):=H _ _ _ (by rw[show ks.length+T.inners ks+g+1=ks.length+T.inners ks+1+g by omega];exact J);have c:=N (.node f v ks) s (r++[some [aa f,aa v,.d (aj .sub ks)]]) (ks.length+T.inners ks+g) (by rw[show ks.length+T.inners ks+g+1=ks.length+T.inners ks+1+g by omega];exact J);have len:∀s,(st s++r).length=m+r.length:=fun s=>by simp[hm]
 have a:=tQ (X:=XV) (T:=XV.lin 25) (L:=m+r.length+1) (live:=[1,10,11,12]) (b:=mO) (n:=ks.length) (γ:=Unit) (st:=fun(s:σ) i=>⟨[(1,.fn k caps),(10,.d (aj .sub ks)),(11,aa ks.length),(12,aa i)],(st s++r)++[some [aa f,aa v,.d (aj .sub ks)]]⟩) (step:=mP e ks)
  (F:=fun s=>(.exit 0,⟨[(1,.fn k caps),(10,.d (aj .sub ks)),(11,aa ks.length),(12,aa ks.length),(13,ar false)],(st s++r)++[some [aa f,aa v,.d (aj .sub ks)]]⟩)) (R:=fun _=>(.ret,⟨[],[]⟩))
  (fun s i=>I (lF ks i+g) s)
  (fun s _=>⟨by simp,by simp[mO]⟩)
  (fun s i hi hIn=>by
   have y:=qsY hi;rw[show lF ks i+g=(ae ks i).inner+1+(lF ks (i+1)+g)by omega]at hIn;have j:=Fb H (ae ks i) _ s hIn;refine⟨?_,fun a' l=>by unfold mP at l;simp only[v8]at l;subst l;exact j⟩;have hw:=bH (n:=i) (by omega);have w:=q _ (bS hi) s (r++[some [aa f,aa v,.d (aj .sub ks)],some [aa (ae ks i).f,aa (ae ks i).v,.d (aj .sub (ae ks i).kids)]]) _ hIn;have C:=len s;have h:=len (T.fold e (ae ks i) s);simp only[<-b7]at w;generalize Q:st s++r=B at w C;generalize o:st (T.fold e (ae ks i) s)++r=B' at w h;unfold mP;refine⟨⟨[(1,.fn k caps),(10,.d (aj .sub ks)),(11,aa ks.length),(12,aa (i+1:Nat))],B'++[some [aa f,aa v,.d (aj .sub ks)],some [aa (ae ks i).f,aa (ae ks i).v,.d (aj .sub (ae ks i).kids)]]⟩,?_,?_⟩
   ·simp[mO,hi,hw,cut,bc hi,u,w,splice]
   ·refine gg (e:=[some [aa (ae ks i).f,aa (ae ks i).v,.d (aj .sub (ae ks i).kids)]]) (by simp) (by simp[aD,hcs _ (show m<=m+r.length+1 by omega)]) (by simp[h,o]) (by simp[<-o]))
  ks.length (e (.node f v ks) s) 0 ⟨[(1,.fn k caps),(10,.d (aj .sub ks)),(11,aa ks.length),(12,aa 0)],(st (e (.node f v ks) s)++r)++[some [aa f,aa v,.d (aj .sub ks)]]⟩ (by omega) (by rw[ZJ];exact z) (gg (e:=[]) (by simp) (by simp[aD,hcs _ (show m<=m+r.length+1 by omega)]) (by simp[hm];omega) (by simp))
 rw[Dj e ks _ _ _ (by omega)]at a;simp only[fE]at a;have D:=len s;have p:=len (e (.node f v ks) s);have G:(st (T.fold e (.node f v ks) s)++r).length=m+r.length:=len _;have t:T.folds e ks (e (.node f v ks) s)=T.fold e (.node f v ks) s:=by simp[T.fold]
 rw[t]at a;simp only[<-b7]at c;generalize P:st s++r=B0 at c D;generalize O:st (e (.node f v ks) s)++r=B1 at c p a;generalize M:st (T.fold e (.node f v ks) s)++r=B2 at G a;have hlen:B1.length=B0.length:=by omega
 rw[<-p]at a;simp only[aj,Lw]at c a;simp[po,c,u,K,hlen.symm];rw[a];simp[show B1.length=B2.length by omega]
theorem EM{σ:Type}(I:Nat->σ->Prop)(st:σ->ah)(e:T->σ->σ)(k:Nat)(caps:List AV)(m:Nat)(hm:∀s,(st s).length=m)(hcs:∀n,m<=n->AV.safe.safes n caps=true)(a:caps.map AV.clr=caps)(g:¬0∈XV.lin k)
 (h:∀n s x,I (n+1) s->I n (e x s)) (c:∀(x:T) (s:σ) (r:ah) (n:Nat),I (n+1) s->al XV k (.d (x.enc .sub)::caps) (st s++r)=some (.d (.tup []),st (e x s)++r)) (t:T) (b:t.inner<=1099511627776) (s:σ) (r:ah) (n:Nat) (i:I (t.inner+1+n) s):
 al XV 25 [.d (t.enc .sub),.fn k caps] (st s++r)=some (.d (.tup []),st (T.fold e t s)++r):=by
 match t,b with
 | .node f v ks,b=>
  simp only[T.inner]at b i;exact Vi I st e k caps m hm hcs a g h f v ks (by omega) c (fun x hx s r n hn=>EM I st e k caps m hm hcs a g h c x (by have:=T.qaI hx;omega) s r n hn) s r n i
termination_by t
decreasing_by
 simp_wf
 have:=gP hx;omega
theorem Rw:XV.nat 106=some jz:=rfl
theorem ZV(g:Tag)(l:List Int)(n:Int)(B:ah)(a:l.length<=1099511627777):al XV 106 [.d (.sl g (l.map (.int .i64))),aa n] B=some (.d (.sl U ((cL l n).map (.int .i64))),B):=by
 rw[uH XV 106 _ _ _ Rw];have h:(l.length+1)*8<=140737488355328:=by omega
 simp[aM,jz,Cu,h,U]
theorem KN(l:List Int)(n:Int):(cL l n).length<=l.length+1:=by
 unfold cL;split
 ·omega
 ·simp[fL];have:=BR (p:=fun x=>decide (x>n)) (xs:=l);omega
def eV(x:T)(l:List Int):List Int:=if x.f= -1 then cL l x.v else l
def IV(n:Nat)(l:List Int):Prop:=l.length+n<=1099511627778
theorem VK(n:Nat)(l:List Int)(x:T)(h:IV (n+1) l):IV n (eV x l):=by
 unfold IV eV at*
 have:=KN l x.v;split<;>omega
def eB(t:T):List Int:=T.fold eV t []
theorem QZ(t:T)(e:t.inner<=1099511627776):al XV 104 [.d (t.enc .sub)] []=some (.d (.sl U ((eB t).map (.int .i64))),[]):=by
 rw[aJ 104 tO rfl];have key:=EM IV (fun l:List Int=>[some [aa t.f,aa t.v,.d (aj .sub t.kids)],some [.d (.sl U (l.map (.int .i64)))]]) eV 105 [.ptr 1 0] 2 (fun _=>rfl) (fun n hn=>by simp;omega) rfl (by simp) VK (fun x l r n hn=>by
  rw[aJ 105 qD rfl];obtain⟨b,c,h⟩:=x;have a:=gH (.node b c h);simp only[T.qaP]at a;have hle:l.length<=1099511627777:=by unfold IV at hn;omega
  unfold eV;simp only[T.qaP,T.qb7]
  by_cases h1:b= -1
  ·subst h1
   simp only[BEq.rfl]at a;have ha:=ZV .sub l c [] hle;simp[qD,a,splice,ha]
  ·have g:(b== -1)=false:=by simp[h1]
   rw[g]at a;simp[qD,a,h1]) t e [] [] 0 (by simp[IV];omega)
 simp only[dq,aj,cv]at key;simp[tO,splice,key,eB]
def mk:Nat->Nat->List Int
 |0,_=>[]
 |n+1,k=>(k:Int)::mk n (k+1)
theorem ER(B:ah)(n:Nat)(v:DV):AV.frzC B n (.d v)=some v:=by cases n<;>simp only[AV.frzC]
mutual
def T.nb:T->Nat
 | .node _ _ []=>0
 | .node _ _ (t::r)=>T.nbs (t::r)+1
def T.nbs:List T->Nat
 | []=>0
 |t::r=>t.nb+T.nbs r
end
def WG(ks:List T):Nat:=if ks=[]then 0 else T.nbs ks+1
def X4(b:Nat)(ks:List T):AV:=if ks=[]then .d (aj .sub [])else .tsl true (b+T.nbs ks) 3 ks.length
def FR(b:Nat):List T->List AV
 | []=>[]
 | .node f v ks::r=> aa f:: aa v::X4 b ks::FR (b+WG ks) r
mutual
def T.bx(b:Nat):T->ah
 | .node _ _ []=>[]
 | .node _ _ (t::r)=>T.bxs b (t::r)++[some (FR b (t::r))]
def T.bxs(b:Nat):List T->ah
 | []=>[]
 |t::r=>t.bx b++T.bxs (b+t.nb) r
end
def bh(l:List T):Nat:=l.length+T.inners l
theorem Bt(t:T):bh t.kids=t.inner:=by cases t;simp[bh,T.inner]
theorem C6:∀(a c:List T),T.inners (a++c)=T.inners a+T.inners c
 | [],c=>by simp[T.inners]
 |t::r,c=>by simp[T.inners,C6 r c];omega
theorem dN(t:T)(l:List T):bh (t::l)=(t.inner+1)+bh l:=by unfold bh;simp[T.inners];omega
theorem sa(ks:List T)(i:Nat)(hi:i<ks.length):ks.take (i+1)=ks.take i++[ae ks i]:=by
 rw[<-bc hi,List.take_append_getElem hi]
theorem Sd(ks:List T)(i:Nat):bh (ks.take i)<=bh ks:=by
 have h:bh (ks.take i++ks.drop i)=bh (ks.take i)+bh (ks.drop i):=by unfold bh;rw[C6];simp;omega
 rw[du]at h;omega
theorem rC(a c:List T)(g:Tag)(h:(a.length+c.length)*40<=140737488355328):cG 3 40 (.sl U (a.map (T.enc U))) (.sl g (c.map (T.enc U)))=some (.sl U ((a++c).map (T.enc U))):=by
 have h1:(c.map (T.enc U)).all (fun e=>decide (e.cells.length=3/\e.cells.all DV.isCell=true))=true:=by
  simp[aX,bg]
 have b:(a.map (T.enc U)).all (fun e=>decide (e.cells.length=3))=true:=by simp
 unfold cG;simp only;rw[ap h1];cases c with
 |nil=>simp
 |cons x r=>
  simp only[bo,iV,bI,if_false];rw[ap ⟨by simpa using h,trivial,b⟩];simp
theorem Xi(l:List T)(i:Nat)(h:i<l.length)(a:l.length<=1099511627776):cG 3 40 (.sl U ((l.take i).map (T.enc U))) (.sl U [(ae l i).enc U])=some (.sl U ((l.take (i+1)).map (T.enc U))):=by
 have:=rC (l.take i) [ae l i] U (by simp;omega);rw[sa l i h];exact this
theorem E7(ks:List T)(h:ks.length<=1099511627776)(hc:∀t,t∈ks->al XV 150 [.d (t.enc .sub)] []=some (.d (t.enc U),[])):
 al XV 151 [.d (aj .sub ks)] []=some (.d (aj U ks),[]):=by
 rw[aJ 151 tj rfl];have a:=cg (X:=XV) (T:=XV.lin 151) (L:=0) (live:=[3,7,8,9]) (b:=wR) (n:=ks.length) (γ:=Unit) (st:=fun(_:Unit) i=>⟨[(3,.d (.sl U ((ks.take i).map (T.enc U)))),(7,.d (aj .sub ks)),(8,aa ks.length),(9,aa i)],[]⟩) (step:=fun _ _=> .inl ())
  (F:=fun _=>(.exit 0,⟨[(3,.d (.sl U ((ks.take ks.length).map (T.enc U)))),(7,.d (aj .sub ks)),(8,aa ks.length),(9,aa ks.length),(10,ar false)],[]⟩)) (R:=fun _=>(.ret,⟨[],[]⟩))
  (fun _=>⟨by simp,by simp[wR]⟩)
  (fun _ i hi=>by
   have hw:=bH (n:=i) (by omega);have g:=hc _ (bS hi);have ha:=Xi ks i hi h;generalize c:(ks.take (i+1)).map (T.enc U)=l2 at ha;generalize (ks.take i).map (T.enc U)=l1 at ha⊢
   exact⟨⟨[(3,.d (.sl U l2)),(7,.d (aj .sub ks)),(8,aa ks.length),(9,aa (i+1:Nat))],[some [aa (ae ks i).f,aa (ae ks i).v,.d (aj .sub (ae ks i).kids)]]⟩,by simp[wR,hi,hw,cut,bc hi,g,ha,splice,aX,bg,bm,a_,aG],gg (e:=[some [aa (ae ks i).f,aa (ae ks i).v,.d (aj .sub (ae ks i).kids)]]) (by simp[<-c]) (by simp[aD]) (by simp) (by simp)⟩)
  ks.length () 0 ⟨[(3,.d (.sl U [])),(7,.d (aj .sub ks)),(8,aa ks.length),(9,aa 0)],[]⟩ (by omega) (by simp[aE,aD])
 rw[oI,fR]at a;simp only[M2]at a;simp[tj];rw[a];simp
theorem N6(f v:Int)(ks:List T)(h:al XV 151 [.d (aj .sub ks)] []=some (.d (aj U ks),[])):al XV 150 [.d ((T.node f v ks).enc .sub)] []=some (.d ((T.node f v ks).enc U),[]):=by
 rw[aJ 150 uf rfl];simp only[aj]at h;simp[uf,h,splice,aX,bg,bm,a_,aG]
theorem wi(t:T)(a:t.inner<=1099511627776):al XV 150 [.d (t.enc .sub)] []=some (.d (t.enc U),[]):=by
 match t,a with
 | .node f v ks,a=>
  simp only[T.inner]at a;exact N6 f v ks (E7 ks (by omega) fun s hs=>wi s (by have:=T.qaI hs;omega))
termination_by t
decreasing_by
 simp_wf
 have:=gP hs;omega
theorem N_(ks:List T)(a:bh ks<=1099511627776):al XV 151 [.d (aj .sub ks)] []=some (.d (aj U ks),[]):=
 E7 ks (by unfold bh at a;omega) fun s hs=>wi s (by have:=T.qaI hs;unfold bh at a;omega)
theorem Jf(n:Int):al XV 147 [aa n] []=some (.d ((T.node (-1) n []).enc U),[]):=by
 rw[aJ 147 tV rfl];simp[tV,splice,aX,bg,bm,a_,aG];rw[T.qbJ];rfl
theorem Uz(n:Int):al XV 149 [aa n] []=some (.d ((T.node (-1) n []).enc U),[]):=by
 rw[aJ 149 x_ rfl];simp[x_,splice,aX,bg,bm,a_,aG];rw[T.qbJ];rfl
def dm(l:List Bd)(n:Int):Option Nat:=aO (fun i=>(az l i).v==n) l.length 0
def ej(l:List Bd)(n:Int):T:=match dm l n with
 |some i=>(az l i).t
 |none=> .node (-1) n []
theorem rm(l:List Bd)(n:Int)(k:l.length<=1099511627776):al XV 148 [.d (binds .sub l),aa n] []=some (.d (match dm l n with|some j=> .tup [(az l j).t.enc .sub,.bool true]|none=> .tup [(T.node 0 0 []).enc .sub,.bool false]),[]):=by
 rw[aJ 148 v148 rfl];have h:=cg (X:=XV) (T:=XV.lin 148) (L:=1) (live:=[1,4,8,9,10]) (b:=qG) (n:=l.length) (st:=fun(_:Unit) i=>⟨[(1,aa n),(4,.ptr 0 0),(8,.d (binds .sub l)),(9,aa l.length),(10,aa i)],[some [aa 0,aa 0,.d (.sl U [])]]⟩) (step:=b_ fun i=>(az l i).v==n)
  (F:=fun _=>(.exit 0,⟨[(1,aa n),(4,.ptr 0 0),(8,.d (binds .sub l)),(9,aa l.length),(10,aa l.length),(11,ar false)],[some [aa 0,aa 0,.d (.sl U [])]]⟩)) (R:=fun(j:Nat)=>(.ret,⟨[(4,.ptr 0 0),(5,ar true)],[some [aa (az l j).t.f,aa (az l j).t.v,.d (aj .sub (az l j).t.kids)],some [aa (az l j).v,aa (az l j).t.f,aa (az l j).t.v,.d (aj .sub (az l j).t.kids)]]⟩))
  (fun a=>⟨by simp,by simp[qG]⟩)
  (fun a i hi=>by
   have hw:=bH (n:=i) (by omega);unfold b_
   by_cases c:((az l i).v==n)=true
   ·rw[ap c]
    exact⟨by simp,by simp[qG,hi,cut,bK hi,c,splice,AV.qax,aX,bg,bm,a_,aG]⟩
   ·rw[ak c]
    have g:((az l i).v==n)=false:=by simpa using c
    exact⟨⟨[(1,aa n),(4,.ptr 0 0),(8,.d (binds .sub l)),(9,aa l.length),(10,aa (i+1:Nat))],[some [aa 0,aa 0,.d (.sl U [])],some [aa (az l i).v,aa (az l i).t.f,aa (az l i).t.v,.d (aj .sub (az l i).t.kids)]]⟩,by simp[qG,hi,hw,cut,bK hi,g,splice,aX,bg,bm,a_,aG],gg (e:=[some [aa (az l i).v,aa (az l i).t.f,aa (az l i).t.v,.d (aj .sub (az l i).t.kids)]]) (by simp) (by simp[aD]) (by simp) (by simp)⟩)
  l.length () 0 ⟨[(1,aa n),(4,.ptr 0 0),(8,.d (binds .sub l)),(9,aa l.length),(10,aa 0)],[some [aa 0,aa 0,.d (.sl U [])]]⟩ (by omega) (by simp[aE,aD])
 rw[ee]at h;simp only[Zq,binds]at h;unfold dm;simp[v148];rw[h];cases c:aO (fun i=>(az l i).v==n) l.length 0 with
 |none=>
  simp[splice,aX,bg,bm,a_,aG];rw[T.qbJ];rfl
 |some j=>
  simp[aG]
theorem Ih(l:List Bd)(n:Int)(b:l.length<=1099511627776)(hb:∀i,i<l.length->(az l i).t.inner<=1099511627776):al XV 144 [.d (binds .sub l),aa n] []=some (.d ((ej l n).enc U),[]):=by
 rw[aJ 144 rb rfl];have h:=rm l n b;have a:=Uz n;unfold ej;cases hq:dm l n with
 |none=>
  rw[hq]at h;simp[rb,h,a,splice,aX,bg,bm,a_,aG]
 |some j=>
  rw[hq]at h;have hj:j<l.length:=by have:=(eT _ _ _ _ hq).2.1;omega
  have hc:=wi (az l j).t (hb j hj);simp[rb,h,hc,splice,aX,bg,bm,a_,aG]
theorem G0(a c:List T)(g:Tag)(h:(a.length+c.length)*40<=140737488355328):cG 3 40 (.sl U (a.map (T.enc .sub))) (.sl g (c.map (T.enc .sub)))=some (.sl U ((a++c).map (T.enc .sub))):=by
 have h1:(c.map (T.enc .sub)).all (fun e=>decide (e.cells.length=3/\e.cells.all DV.isCell=true))=true:=by
  simp[aX,bg]
 have b:(a.map (T.enc .sub)).all (fun e=>decide (e.cells.length=3))=true:=by simp
 unfold cG;simp only;rw[ap h1];cases c with
 |nil=>simp
 |cons x r=>
  simp only[bo,iV,bI,if_false];rw[ap ⟨by simpa using h,trivial,b⟩];simp
theorem Oe{x:Bool}(h:(!x)=true):x=false:=by cases x<;>simp_all
theorem WN{x:Bool}(h:¬(!x)=true):x=true:=by cases x<;>simp_all
theorem qAU(b c:Bd)(B:ah)(hb:b.t.inner<=1099511627776)(hc:c.t.inner<=1099511627776):
 al XV 290 [.d (b.enc .sub),.d (c.enc .sub)] B=some (ar (b.v==c.v&&T.cmp b.t c.t==0),B):=by
 rw[aJ 290 pX rfl];have hs:=same_eq b.t c.t hb hc
 by_cases e:b.v=c.v
 ·have a:(b.v==c.v)=true:=by simpa using e
  rw[a,eP];simp[pX,e,hs]
 ·have a:(b.v==c.v)=false:=by simpa using e
  rw[a,Bool.false_and];simp[pX,a]
theorem RP(u w:List Bd)(s:u.length<=1099511627776)(hw:w.length<=1099511627776)(r:∀i,i<u.length->(az u i).t.inner<=1099511627776)(p:∀i,i<w.length->(az w i).t.inner<=1099511627776):
 al XV 289 [.d (binds .sub u),.d (binds .sub w),.fn 290 []] []=some (ar (fQ u w),[]):=by
 rw[aJ 289 qB rfl];unfold fQ
 by_cases o:u.length=w.length
 ·have e:(u.length:Int)=w.length:=by omega
  have h:=cg (X:=XV) (T:=XV.lin 289) (L:=0) (live:=[1,2,15,16,17]) (b:=qa) (n:=u.length) (γ:=Nat) (st:=fun(_:Unit) i=>⟨[(1,.d (binds .sub w)),(2,.fn 290 []),(15,.d (binds .sub u)),(16,aa u.length),(17,aa i)],[]⟩) (step:=b_ (gO u w))
   (F:=fun _=>(.exit 0,⟨[(1,.d (binds .sub w)),(2,.fn 290 []),(15,.d (binds .sub u)),(16,aa u.length),(17,aa u.length),(18,ar false)],[]⟩)) (R:=fun j=>(.ret,⟨[(6,ar false)],[some (az u j|>.enc .sub|>.cells.map .d),some (az w j|>.enc .sub|>.cells.map .d)]⟩))
   (fun a=>⟨by simp,by simp[qa]⟩)
   (fun a i hi=>by
    have c:i<w.length:=by omega
    have l:=bH (n:=i) (by omega);have hc:=qAU (az u i) (az w i) [some (az u i|>.enc .sub|>.cells.map .d),some (az w i|>.enc .sub|>.cells.map .d)] (r i hi) (p i c);unfold b_
    by_cases k:gO u w i=true
    ·rw[ap k]
     unfold gO at k;have g:((az u i).v==(az w i).v&&T.cmp (az u i).t (az w i).t==0)=false:=Oe k;rw[g]at hc;simp only[Bd.qgb,bo,cv]at hc;exact⟨by simp,by simp[qa,hi,c,cut,bK hi,bK c,hc,splice]⟩
    ·rw[ak k]
     unfold gO at k;have g:((az u i).v==(az w i).v&&T.cmp (az u i).t (az w i).t==0)=true:=WN k;rw[g]at hc;simp only[Bd.qgb,bo,cv]at hc;exact⟨_,by simp[qa,hi,c,l,cut,bK hi,bK c,hc,splice];rfl,by simp[aE,aD]⟩)
   u.length () 0 ⟨[(1,.d (binds .sub w)),(2,.fn 290 []),(15,.d (binds .sub u)),(16,aa u.length),(17,aa 0)],[]⟩ (by omega) (by simp[aE,aD])
  rw[ee]at h;have m:decide (u.length=w.length)=true:=by simpa using o
  rw[m];simp only[Vv,binds]at h;simp[qB,e];simp only[e]at h;rw[h];cases k:aO (gO u w) u.length 0<;>simp
 ·have m:decide (u.length=w.length)=false:=by simpa using o
  have e:¬(u.length:Int)=w.length:=by omega
  have q:((u.length:Int) !=w.length)=true:=by simpa using e
  rw[m];simp[qB,q]
theorem Yw(u w:List Bd)(b:u.length<=1099511627776)(hw:w.length<=1099511627776)(a:∀i,i<u.length->(az u i).t.inner<=1099511627776)(c:∀i,i<w.length->(az w i).t.inner<=1099511627776):
 al XV 288 [.d (binds .sub u),.d (binds .sub w)] []=some (ar (fQ u w),[]):=by
 rw[aJ 288 uB rfl];have h:=RP u w b hw a c;simp[uB,h]
def e_(ws:List (List Bd))(i:Nat):List Bd:=(ws[i]?).getD []
theorem pS{ws:List (List Bd)}{i:Nat}(h:i<ws.length):ws[i]=e_ ws i:=by simp[e_,h]
theorem JD{ws:List (List Bd)}{i:Nat}(h:i<ws.length):e_ ws i∈ws:=by rw[<-pS h];exact il h
abbrev lL(g:Tag)(ws:List (List Bd)):DV:= .sl g (ws.map (binds .sub))
@[simp] theorem qFr:DV.clr∘binds .sub=binds .sub:=funext fun w=>by simp[binds]
def small(u:List Bd):Prop:=u.length<=1099511627776/\∀i,i<u.length->(az u i).t.inner<=1099511627776
def fO(ws:List (List Bd))(u:List Bd):Bool:=(aO (fun i=>fQ (e_ ws i) u) ws.length 0).isSome
theorem qIb(w u:List Bd)(pre r:ah)(hw:small w)(a:small u):
 al XV 320 [.d (binds .sub w),.ptr pre.length 0] (pre++some [.d (binds .sub u)]::r)=some (ar (fQ w u),pre++some [.d (binds .sub u)]::r):=by
 rw[aJ 320 vD rfl];have h:=Yw w u hw.1 a.1 hw.2 a.2;have hn:¬(pre.length+(r.length+1)<=pre.length):=by omega
 simp[vD,h,hn,ud]
theorem OX(l:List (List Bd))(c:Nat)(caps:List AV)(B:ah)(P:List Bd->Bool)(p:l.length<=1099511627776)(hs:AV.safe.safes B.length caps=true)(g:caps.map AV.clr=caps)(m:¬0∈XV.lin c)
 (o:∀s,s∈l->al XV c (.d (binds .sub s)::caps) B=some (ar (P s),B)):
 al XV 269 [.d (lL .sub l),.fn c caps] B=some (aa (cZ (aO (fun i=>P (e_ l i)) l.length 0)),B):=by
 rw[aJ 269 xd rfl];have h:=cg (X:=XV) (T:=XV.lin 269) (L:=B.length) (live:=[0,1,7,8]) (b:=rt) (n:=l.length) (st:=fun(_:Unit) i=>⟨[(0,.d (lL .sub l)),(1,.fn c caps),(7,aa l.length),(8,aa i)],B⟩) (step:=b_ fun i=>P (e_ l i))
  (F:=fun _=>(.exit 0,⟨[(0,.d (lL .sub l)),(1,.fn c caps),(7,aa l.length),(8,aa l.length),(9,ar false)],B⟩)) (R:=fun(j:Nat)=>(.ret,⟨[(4,aa j)],B⟩))
  (fun a=>⟨by simp,by simp[rt]⟩)
  (fun a i hi=>by
   have hw:=bH (n:=i) (by omega);have hc:=o _ (JD hi);unfold b_
   by_cases e:P (e_ l i)=true
   ·rw[ap e];rw[e]at hc
    exact⟨by simp,by simp[rt,hi,cut,pS hi,hc,g,m]⟩
   ·rw[ak e]
    have k:P (e_ l i)=false:=by simpa using e
    rw[k]at hc;exact⟨_,by simp[rt,hi,hw,cut,pS hi,hc,g,m];rfl,by simp[aE,aD,hs]⟩)
  l.length () 0 ⟨[(0,.d (lL .sub l)),(1,.fn c caps),(7,aa l.length),(8,aa 0)],B⟩ (by omega) (by simp[aE,aD,hs])
 rw[ee]at h;simp only[Xa]at h;simp[xd];rw[h];cases e:aO (fun i=>P (e_ l i)) l.length 0<;>simp[cZ]
theorem Qm(ws:List (List Bd))(u:List Bd)(pre r:ah)(a:ws.length<=1099511627776)(hw:∀w,w∈ws->small w)(b:small u):
 al XV 265 [.d (lL .sub ws),.fn 320 [.ptr pre.length 0]] (pre++some [.d (binds .sub u)]::r)=some (ar (fO ws u),pre++some [.d (binds .sub u)]::r):=by
 rw[aJ 265 vG rfl];have h:=OX ws 320 [.ptr pre.length 0] (pre++some [.d (binds .sub u)]::r) (fun w=>fQ w u) a (by simp[AV.safe.safes,AV.safe]) (by simp) (by simp) (fun w hx=>qIb w u pre r (hw w hx) b);simp[vG,h,ud,fO];cases aO (fun i=>fQ (e_ ws i) u) ws.length 0<;>simp[cZ]
def gq(t:T):List T->List T
 | []=>[t]
 |x::r=>if T.cmp t x<0 then t::x::r else x::gq t r
def fP:List T->List T->List T
 |acc,[]=>acc
 |acc,t::r=>fP (gq t acc) r
def dX(l:List T):List T:=fP [] l
theorem sP(t:T):∀l:List T,(gq t l).Perm (t::l)
 | []=> .refl _
 |x::r=>by
  simp only[gq];split
  ·exact .refl _
  ·exact((sP t r).cons x).trans (.swap t x r)
theorem JN(t:T):∀l:List T,bW l->bW (gq t l)
 | [],_=>qc _ _
 |x::r,h=>by
  have b:=gC.1 h;simp only[gq];split
  ·rename_i a
   refine gC.2 ⟨fun y hy=> ?_,h⟩;rcases br.1 hy with rfl|hy
   ·exact nj a
   ·exact pt (nj a) (b.1 y hy)
  ·rename_i a
   refine gC.2 ⟨fun y hy=> ?_,JN t r b.2⟩;have:=(sP t r).mem_iff.1 hy;rcases br.1 this with rfl|hy
   ·exact oW a
   ·exact b.1 y hy
theorem Ib:∀(l acc:List T),(fP acc l).Perm (acc++l)
 | [],acc=>by simp[fP]
 |t::r,acc=>by
  simp only[fP];refine(Ib r _).trans ?_;refine((sP t acc).append_right r).trans ?_;exact mD.symm
theorem GG:∀(l acc:List T),bW acc->bW (fP acc l)
 | [],acc,h=>h
 |t::r,acc,h=>by
  simp only[fP];exact GG r _ (JN t acc h)
theorem jX(l:List T):(dX l).Perm l:=Ib l []
theorem Gg(l:List T):bW (dX l):=GG l [] mr
theorem vk{l a:List T}(h:a.Perm l)(hs:bW a):a=dX l:=Xp hs (Gg l) (h.trans (jX l).symm)
theorem EG:∀(a acc b:List T),fP acc (a++b)=fP (fP acc a) b
 | [],acc,b=>rfl
 |t::r,acc,b=>by simp only[cP,fP];exact EG r _ b
def dk(s:List SymL)(f:Int)(k:T):List T:=if(bA s f&&k.f==f)=true then k.kids else [k]
def flatK(s:List SymL)(f:Int)(l:List T):List T:=l.flatMap (dk s f)
mutual
def T.norm(s:List SymL):T->T
 | .node f v ks=> .node f v (if bA s f=true then dX (flatK s f (T.norms s ks))else flatK s f (T.norms s ks))
def T.norms(s:List SymL):List T->List T
 | []=>[]
 |t::r=>t.norm s::T.norms s r
end
theorem T.norms_map(s:List SymL):∀l:List T,T.norms s l=l.map (T.norm s)
 | []=>by simp[T.norms]
 |t::r=>by simp[T.norms,T.norms_map s r]
theorem Cn(s:List SymL)(t:T):(t.norm s).f=t.f:=by cases t;simp[T.norm]
theorem GJ(s:List SymL)(t:T):(t.norm s).v=t.v:=by cases t;simp[T.norm]
theorem BJ(a b:List T):bh (a++b)=bh a+bh b:=by unfold bh;rw[C6,dz];omega
theorem tn{a b:List T}(h:a.Perm b):bh a=bh b:=by
 induction h with
 |nil=>rfl
 |cons x _ c=>rw[dN,dN,c]
 |swap x y l=>rw[dN,dN,dN,dN];omega
 |trans _ _ h1 d=>rw[h1,d]
theorem XF(s:List SymL)(f:Int)(k:T):bh (dk s f k)<=k.inner+1:=by
 unfold dk;split
 ·rw[Bt];omega
 ·rw[dN];simp[bh,T.inners]
theorem og(s:List SymL)(f:Int)(k:T)(l:List T):flatK s f (k::l)=dk s f k++flatK s f l:=rfl
theorem XM(s:List SymL)(f:Int)(a b:List T):flatK s f (a++b)=flatK s f a++flatK s f b:=by unfold flatK;simp
theorem yN(s:List SymL)(f:Int):∀l:List T,bh (flatK s f l)<=bh l
 | []=>by simp[flatK,bh,T.inners]
 |k::l=>by
  rw[og,BJ,dN];have:=XF s f k;have:=yN s f l;omega
theorem T.qcf(f v:Int)(ks:List T):(T.node f v ks).inner=bh ks:=by simp[T.inner,bh]
mutual
theorem lq(s:List SymL):∀t:T,(t.norm s).inner<=t.inner
 | .node f v ks=>by
  have h:=xD s ks;have a:=yN s f (T.norms s ks);simp only[T.norm,T.qcf];split
  ·rw[tn (jX _)];omega
  ·omega
theorem xD(s:List SymL):∀l:List T,bh (T.norms s l)<=bh l
 | []=>by simp[T.norms]
 |t::r=>by
  have h1:=lq s t;have a:=xD s r;simp only[T.norms,dN];omega
end
theorem iY{l:List T}{t:T}(h:t∈l):t.inner<=bh l:=by have:=T.qaI h;unfold bh;omega
theorem jv(l:List T):l.length<=bh l:=by unfold bh;omega
def gu(s:List SymL)(f:Int)(ks:List T)(i:Nat):List T:=flatK s f ((ks.take i).map (T.norm s))
theorem Hw(s:List SymL)(f:Int)(ks:List T):gu s f ks 0=[]:=by simp[gu,flatK]
theorem GH(s:List SymL)(f:Int)(ks:List T)(i:Nat)(h:i<ks.length):gu s f ks (i+1)=gu s f ks i++dk s f ((ae ks i).norm s):=by
 unfold gu;rw[sa ks i h,ea,XM];simp[flatK]
theorem GT(s:List SymL)(f:Int)(ks:List T):gu s f ks ks.length=flatK s f (T.norms s ks):=by
 unfold gu;rw[fR,T.norms_map]
theorem I5(s:List SymL)(f:Int)(ks:List T)(i:Nat):bh (gu s f ks i)<=bh ks:=by
 unfold gu;have h1:=yN s f ((ks.take i).map (T.norm s));rw[<-T.norms_map]at h1⊢
 have a:=xD s (ks.take i);have b:=Sd ks i;omega
theorem Kj(t:T):∀(l:List T) (j:Nat),j<=l.length->(∀i,i<j->¬T.cmp t (ae l i)<0)->(j<l.length->T.cmp t (ae l j)<0)->gq t l=l.take j++t::l.drop j
 | [],j,hj,_,_=>by simp at hj;subst hj;rfl
 |x::r,0,hj,h1,a=>by
  have:=a (by simp);simp only[ae,d9,eE]at this;simp[gq,this]
 |x::r,j+1,hj,h1,a=>by
  have b:=h1 0 (by omega);simp only[ae,d9,eE]at b;have:=Kj t r j (by simpa using hj) (fun i hi=>by simpa[ae]using h1 (i+1) (by omega)) (fun h=>by simpa[ae]using a (by simpa using h));simp[gq,b,this]
def e3(t:T):List AV:=[aa t.f,aa t.v,.d (aj U t.kids)]
def ky(t:T):List AV:=[aa t.f,aa t.v,.d (aj .sub t.kids)]
def kc(l:List T):List AV:=(l.map e3).flatten
def nP(cs:List (List AV)):Prop:=∀c,c∈cs->c.length=3
theorem Ae(l:List T):nP (l.map e3):=fun c hc=>by
 obtain⟨t,_,rfl⟩:=bP.1 hc;rfl
theorem Et{cs:List (List AV)}(h:nP cs)(p:Nat)(x:List AV)(hx:x.length=3):nP (cs.set p x):=fun c hc=>by
 rcases qh hc with h1|h1
 ·exact h c h1
 ·rw[h1,hx]
theorem pN:∀{cs:List (List AV)},nP cs->cs.flatten.length=cs.length*3
 | [],_=>rfl
 |c::r,h=>by
  have:=pN (cs:=r) (fun x hx=>h x (by simp[hx]));have hc:=h c (by simp);simp only[jh,dz,cB,this,hc];omega
theorem sX:∀{cs:List (List AV)} (_:nP cs) (p:Nat) (a:p<cs.length),(cs.flatten.drop (p*3)).take 3=cs[p]
 |c::r,h,0,a=>by
  have hc:=h c (by simp);simp only[qd,fE,jh,List.getElem_cons_zero];rw[Js (by omega),eU (by omega)]
 |c::r,h,p+1,a=>by
  have hc:=h c (by simp);have:=sX (cs:=r) (fun x hx=>h x (by simp[hx])) p (by simpa using a);simp only[jh,List.getElem_cons_succ];rw[pL,mY (by omega),dj,show(p+1)*3-c.length=p*3 by omega];exact this
theorem qz:∀{cs:List (List AV)} (_:nP cs) (p:Nat) (a:p<cs.length) (x:List AV) (hx:x.length=3),splice cs.flatten (p*3) x=(cs.set p x).flatten
 |c::r,h,0,a,x,hx=>by
  have hc:=h c (by simp);unfold splice;simp only[qd,rI,dj,eQ,jh,kq];rw[hx,pL,mY (by omega),dj,show 3-c.length=0 by omega,fE]
 |c::r,h,p+1,a,x,hx=>by
  have hc:=h c (by simp);have:=qz (cs:=r) (fun y hy=>h y (by simp[hy])) p (by simpa using a) x hx;unfold splice at this⊢
  simp only[jh,List.set_cons_succ];rw[List.take_append,eU (l:=c) (by omega),pL,mY (l:=c) (by omega),dj,show(p+1)*3-c.length=p*3 by omega,show(p+1)*3+x.length-c.length=p*3+x.length by omega,<-this];simp only[b7]
theorem ka(l:List T):(kc l).length=l.length*3:=by unfold kc;rw[pN (Ae l),dK]
theorem yU:∀l:List T,kc l=D6 (l.map (T.enc U))
 | []=>rfl
 |t::r=>by
  have h:=yU r;unfold D6 kc at h⊢
  simp[e3,flat]at h⊢
  exact h
def swp(l:List T)(p q:Nat):List T:=(l.set q (ae l p)).set p (ae l q)
theorem vU(l:List T)(p q:Nat)(b:p<l.length)(a:q<l.length)(c:p≠q):∃c1 c2 c3:List AV,c1.length=l.length*3/\c2.length=l.length*3/\c3.length=l.length*3/\
 ((kc l).drop (p*3)).take 3=e3 (ae l p)/\splice (kc l) (p*3) (ky (ae l p))=c1/\(c1.drop (q*3)).take 3=e3 (ae l q)/\splice c1 (q*3) (ky (ae l q))=c2/\splice c2 (q*3) (e3 (ae l p))=c3/\splice c3 (p*3) (e3 (ae l q))=kc (swp l p q):=by
 have g:=Ae l;have h1:=Et g p (ky (ae l p)) rfl;have d:=Et h1 q (ky (ae l q)) rfl;have h:=Et d q (e3 (ae l p)) rfl;refine⟨_,_,_,?_,?_,?_,?_,qz g p (by simpa using b) _ rfl,?_,qz h1 q (by simpa using a) _ rfl,qz d q (by simpa using a) _ rfl,?_⟩
 ·rw[pN h1];simp
 ·rw[pN d];simp
 ·rw[pN h];simp
 ·unfold kc;rw[sX g p (by simpa using b)];simp[bc b]
 ·rw[sX h1 q (by simpa using a),List.getElem_set_ne c];simp[bc a]
 ·rw[qz h p (by simpa using b) _ rfl]
  unfold kc swp
  congr 1
  rw[List.map_set,List.map_set];apply Jx (by simp);intro k j k2;simp only[List.getElem_set,xf]
  by_cases e:p=k
  ·subst e;simp
  ·by_cases i:q=k
   ·subst i;simp[e]
   ·simp[e,i]
theorem kX(t:T):e3 t=[aa t.f,aa t.v,.d (aj U t.kids)]:=rfl
theorem tJ(t:T):ky t=[aa t.f,aa t.v,.d (aj .sub t.kids)]:=rfl
theorem MQ(l:List T)(i:Nat)(hn:l.length<=1099511627776)(r:i+1<l.length)(d e p m:AV)(h1:d.clr=d)(C:e.clr=e):
 aH XV [46,50] (.region true 0 [0,1,2,3,8,9] yQ) ⟨[(0,.tsl true 0 3 l.length),(1,d),(2,e),(3,p),(8,m),(9,aa ((i+1:Nat):Int)),(34,ar true)],[some (kc l)]⟩=some (.normal,⟨[(0,.tsl true 0 3 l.length),(1,d),(2,e),(3,p),(8,m),(9,aa ((i+1:Nat):Int))],[some (kc (swp l i (i+1)))]⟩):=by
 have hw:IntKind.i64.wrap (((i+1:Nat):Int)-1)=(i:Int):=by rw[show((i+1:Nat):Int)-1=(i:Int)by omega];exact wrap_i64 (by omega) (by omega)
 obtain⟨c1,c2,c3,t,w,u,f1,f2,f3,f4,o,g⟩:=vU l i (i+1) (by omega) r (by omega);have q:=ka l;generalize kc (swp l i (i+1))=c4 at g⊢
 generalize kc l=c0 at f1 f2 q⊢
 generalize s:l.length=n at*
 have c:(0:Int)<=((i+1:Nat):Int)/\((i+1:Nat):Int)<n:=⟨by omega,by omega⟩;have a:((i+1:Nat):Int).toNat=i+1:=rfl;have k:(i:Int)<n:=by omega
 have h:i*3+3<=n*3:=by omega
 have j:(i+1)*3+3<=n*3:=by omega
 generalize ((i+1:Nat):Int)=J at hw c a⊢
 simp only[kX,tJ,aj]at f1 f2 f3 f4 o g;have b:∀x y z:AV,AV.clrs [x,y,z]=[x.clr,y.clr,z.clr]:=fun x y z=>by simp only[AV.clrs]
 simp[Sl,hw,c,a,k,q,t,w,u,f1,f2,f3,f4,o,g,h,j,b,bm,aX,bg,a_]
theorem Zh(a b c d e f:Int)(B:ah)(l:B.length=3):
 bV XV [] 3 [2,3,26,27,28] gB ⟨[(2,.ptr 1 0),(3,.ptr 2 0),(26,.d (.sl .sub (gM a b c d e f))),(27,aa 3),(28,aa 0)],B⟩=
  some (match runN (iB a b c d e f) 3 () 0 with
   | .inl _=>(.exit 0,⟨[(2,.ptr 1 0),(3,.ptr 2 0),(26,.d (.sl .sub (gM a b c d e f))),(27,aa 3),(28,aa 3),(29,ar false)],B⟩)
   | .inr r=>(.ret,⟨[(4,aa r.1)],B++[some [aa r.2.1,aa r.2.2]]⟩)):=by
 obtain⟨z,h,g,rfl⟩:∃z h g,B=[z,h,g]:=by
  match B,l with
  | [z,h,g],_=>exact⟨z,h,g,rfl⟩
 have key:=cg (X:=XV) (T:=[]) (L:=3) (live:=[2,3,26,27,28]) (b:=gB) (n:=3) (γ:=Int×(Int×Int)) (st:=fun(_:Unit) i=>⟨[(2,.ptr 1 0),(3,.ptr 2 0),(26,.d (.sl .sub (gM a b c d e f))),(27,aa 3),(28,aa i)],[z,h,g]⟩) (step:=iB a b c d e f)
  (F:=fun _=>(.exit 0,⟨[(2,.ptr 1 0),(3,.ptr 2 0),(26,.d (.sl .sub (gM a b c d e f))),(27,aa 3),(28,aa 3),(29,ar false)],[z,h,g]⟩)) (R:=fun r=>(.ret,⟨[(4,aa r.1)],[z,h,g]++[some [aa r.2.1,aa r.2.2]]⟩))
  (fun _=>⟨by simp,by simp[gB]⟩)
  (fun _ i hi=>by
   have hw:=bH (n:=i) (by omega);have j:(i:Int)<3:=by omega
   have hb:=GI a b c d e f i hi;unfold iB;generalize iu a b c d e f i=q at hb;obtain⟨x,y⟩:=q;simp only at hb⊢
   by_cases h1:x<y
   ·rw[ap h1]
    refine⟨by simp,?_⟩;simp[gB,j,hb,cut,h1,aX,splice,aG,bm,a_]
   ·rw[ak h1]
    by_cases k:x>y
    ·rw[ap k]
     refine⟨by simp,?_⟩;simp[gB,j,hb,cut,h1,k,aX,splice,aG,bm,a_]
    ·rw[ak k]
     refine⟨_,by simp[gB,j,hb,cut,h1,k,hw,aX,splice,aG,bm,a_];rfl,?_⟩;simp[aE,aD])
  3 () 0 ⟨[(2,.ptr 1 0),(3,.ptr 2 0),(26,.d (.sl .sub (gM a b c d e f))),(27,aa 3),(28,aa 0)],[z,h,g]⟩ (by omega) (by simp[aE,aD])
 rw[key];cases runN (iB a b c d e f) 3 () 0<;>rfl
theorem MP(z:Option (List AV))(f v:Int)(ks:List T)(e v':Int)(a:List T)(l:ks.length<=1099511627776)(hlen:ks.length=a.length)
 (j:∀s s',s∈ks->s'∈a->al XV 6 [.d (s.enc .sub),.d (s'.enc .sub)] []=some (aa (T.cmp s s'),[])):
 bV XV [] 3 [2,3,47,48] iz ⟨[(2,.ptr 1 0),(3,.ptr 2 0),(47,aa ks.length),(48,aa 0)],z::cf f v ks e v' a⟩=
  some (if T.cmps ks a=0 then(.exit 3,⟨[(2,.ptr 1 0),(3,.ptr 2 0),(47,aa ks.length),(48,aa ks.length),(49,ar false)],z::cf f v ks e v' a⟩)else(.ret,⟨[(4,aa (T.cmps ks a))],z::cf f v ks e v' a⟩)):=by
 have h:=cg (X:=XV) (T:=[]) (L:=3) (live:=[2,3,47,48]) (b:=iz) (n:=ks.length) (γ:=Int) (st:=fun(_:Unit) i=>⟨[(2,.ptr 1 0),(3,.ptr 2 0),(47,aa ks.length),(48,aa i)],z::cf f v ks e v' a⟩) (step:=jN ks a)
  (F:=fun _=>(.exit 3,⟨[(2,.ptr 1 0),(3,.ptr 2 0),(47,aa ks.length),(48,aa ks.length),(49,ar false)],z::cf f v ks e v' a⟩)) (R:=fun r=>(.ret,⟨[(4,aa r)],z::cf f v ks e v' a⟩))
  (fun _=>⟨by simp,by simp[iz]⟩)
  (fun _ i hi=>by
   have hw:=bH (n:=i) (by omega);have c:i<a.length:=by omega
   have hc:=j _ _ (bS hi) (bS c);unfold jN cf
   by_cases g:T.cmp (ae ks i) (ae a i)=0
   ·rw[g]at hc⊢
    simp only[eD,mA,if_false];refine⟨_,by simp[iz,uk,hi,c,hw,cut,bc hi,bc c,hc,aG];rfl,?_⟩;simp[aE,aD]
   ·simp only[eD,g,iN,if_true]
    have k:(T.cmp (ae ks i) (ae a i) !=0)=true:=by simp[g]
    refine⟨by simp,?_⟩;simp[iz,uk,hi,c,cut,bc hi,bc c,hc,aG,k])
  ks.length () 0 ⟨[(2,.ptr 1 0),(3,.ptr 2 0),(47,aa ks.length),(48,aa 0)],z::cf f v ks e v' a⟩ (by omega) (by simp[aE,aD,cf])
 rw[qu ks a hlen _ _ (by omega)]at h;simp only[fE]at h;rw[h]
 by_cases g:T.cmps ks a=0<;>simp[g]
theorem quc(z:Option (List AV))(f v:Int)(ks:List T)(b v':Int)(a:List T)(i:ks.length<=1099511627776)(n:a.length<=1099511627776)
 (c:∀s s',s∈ks->s'∈a->al XV 6 [.d (s.enc .sub),.d (s'.enc .sub)] []=some (aa (T.cmp s s'),[])):
 al XV 6 [.d ((T.node f v ks).enc .sub),.d ((T.node b v' a).enc .sub)] [z]=some (aa (T.cmp (.node f v ks) (.node b v' a)),[z]):=by
 rw[aJ 6 v6 rfl];have h1:=Zh f b v v' ks.length a.length (z::cf f v ks b v' a) rfl;simp[v6,aX,bg,bm,a_,splice,aG,cF,List.replicate];simp only[gM,cf]at h1;rw[h1,tU];rcases JW f b v v' ks.length a.length with⟨e,m,l,e3⟩|⟨r,e,j⟩
 ·rw[e]
  have hlen:ks.length=a.length:=by omega
  have g:=MP z f v ks b v' a i hlen c;simp only[cf]at g;subst m;subst l
  simp[Ac,aG];rw[g];have k:fa f f v v ks.length a.length (T.cmps ks a)=T.cmps ks a:=by simp[fa,hlen]
  rw[k]
  by_cases h:T.cmps ks a=0
  ·simp[h,DG]
  ·simp[h]
 ·rw[e,j];simp
theorem yC(z:Option (List AV))(a b:T)(ha:a.inner<=1099511627776)(hb:b.inner<=1099511627776):al XV 6 [.d (a.enc .sub),.d (b.enc .sub)] [z]=some (aa (T.cmp a b),[z]):=by
 obtain⟨f,v,ks⟩:=a;obtain⟨g,v',e⟩:=b;simp only[T.inner]at ha hb;exact quc z f v ks g v' e (by omega) (by omega) (fun s s' hs c=>vL s s' (by have:=T.qaI hs;omega) (by have:=T.qaI c;omega))
theorem AW(A Z:List T)(x:T):ae (A++x::Z) A.length=x:=by simp[ae]
theorem yd(A M Z:List T)(x y:T)(q:Nat)(b:q=A.length+1+M.length):swp (A++x::(M++y::Z)) A.length q=A++y::(M++x::Z):=by
 subst b;have h1:ae (A++x::(M++y::Z)) (A.length+1+M.length)=y:=by
  have:=AW (A++x::M) Z y;simp only[dz,cB,b7,cP]at this;rw[show A.length+1+M.length=A.length+(M.length+1)by omega];exact this
 have a:=AW A (M++y::Z) x;unfold swp;rw[h1,a];have s1:(A++x::(M++y::Z)).set (A.length+1+M.length) x=A++x::(M++x::Z):=by
  have:=mJ (s:=A++x::M) (t:=y::Z) (A.length+1+M.length) x (by simp;omega);simp only[b7,cP,dz,cB]at this;rw[this,show A.length+1+M.length-(A.length+(M.length+1))=0 by omega];rfl
 rw[s1,mJ _ _ (aU _),mq];rfl
theorem HH(l:List T)(p q:Nat)(h:p≠q):swp l p q=swp l q p:=by
 unfold swp;rw[DI _ _ h]
theorem NB(l:List T)(a b i:Nat)(n:Int)(hn:l.length<=1099511627776)(ha:a+i<l.length)(hb:b+i<l.length)(t:b≠a):
 aH XV [29,35] (.region true 0 [0,1,2,3,10] sO) ⟨[(0,.tsl true 0 3 l.length),(1,aa a),(2,aa b),(3,aa n),(10,aa i),(13,ar true)],[some (kc l)]⟩=some (.normal,⟨[(0,.tsl true 0 3 l.length),(1,aa a),(2,aa b),(3,aa n),(10,aa i)],[some (kc (swp l (b+i) (a+i)))]⟩):=by
 have j:IntKind.i64.wrap ((a:Int)+i)=((a+i:Nat):Int):=by rw[wrap_i64 (by omega) (by omega)];omega
 have e:IntKind.i64.wrap ((b:Int)+i)=((b+i:Nat):Int):=by rw[wrap_i64 (by omega) (by omega)];omega
 obtain⟨c1,c2,c3,w,D,C,f1,f2,f3,f4,r,o⟩:=vU l (b+i) (a+i) hb ha (by omega);have s:=ka l;generalize kc (swp l (b+i) (a+i))=c4 at o⊢
 generalize kc l=c0 at f1 f2 s⊢
 generalize u:l.length=m at*
 have k:(0:Int)<=((a+i:Nat):Int)/\((a+i:Nat):Int)<m:=⟨by omega,by omega⟩;have g:(0:Int)<=((b+i:Nat):Int)/\((b+i:Nat):Int)<m:=⟨by omega,by omega⟩;have c:((a+i:Nat):Int).toNat=a+i:=rfl;have d:((b+i:Nat):Int).toNat=b+i:=rfl;have p:(a+i)*3+3<=m*3:=by omega
 have q:(b+i)*3+3<=m*3:=by omega
 generalize ((a+i:Nat):Int)=J at j k c⊢
 generalize ((b+i:Nat):Int)=K at e g d⊢
 simp only[kX,tJ,aj]at f1 f2 f3 f4 r o;have h:∀x y z:AV,AV.clrs [x,y,z]=[x.clr,y.clr,z.clr]:=fun x y z=>by simp only[AV.clrs]
 simp[Vk,j,e,k,c,g,d,s,w,D,C,f1,f2,f3,f4,r,o,p,q,h,bm,aX,bg,a_]
def d_(A P Q R Z:List T)(i:Nat):List T:=A++R.take i++P.drop i++Q++P.take i++R.drop i++Z
theorem Y6(A P Q R Z:List T)(i:Nat)(h:P.length=R.length):(d_ A P Q R Z i).length=(A++P++Q++R++Z).length:=by simp[d_];omega
theorem Pq(A P Q R Z:List T)(i:Nat)(h:P.length=R.length)(hi:i<P.length):swp (d_ A P Q R Z i) (A.length+P.length+Q.length+i) (A.length+i)=d_ A P Q R Z (i+1):=by
 have a:i<R.length:=by omega
 have d:d_ A P Q R Z i=(A++R.take i)++P[i]::((P.drop (i+1)++Q++P.take i)++R[i]::(R.drop (i+1)++Z)):=by
  unfold d_;rw[cW hi,cW a];simp only[b7,cP]
 have c:d_ A P Q R Z (i+1)=(A++R.take i)++R[i]::((P.drop (i+1)++Q++P.take i)++P[i]::(R.drop (i+1)++Z)):=by
  unfold d_;rw[<-List.take_append_getElem hi,<-List.take_append_getElem a];simp only[b7,cP,dj]
 have b:(A++R.take i).length=A.length+i:=by simp;omega
 rw[d,c,HH _ _ _ (by omega),<-b];exact yd _ _ _ _ _ _ (by simp;omega)
theorem Zm(A P Q R Z:List T)(h:P.length=R.length)(hn:(A++P++Q++R++Z).length<=1099511627776)(f:AV)(o:f.clr=f):
 al XV 175 [.tsl true 0 3 (A++P++Q++R++Z).length,aa A.length,aa (A.length+P.length+Q.length:Nat),aa P.length,f] [some (kc (A++P++Q++R++Z))]=some (.d (.tup []),[some (kc (A++R++Q++P++Z))]):=by
 rw[aJ 175 yK rfl];have hlen:∀i,(d_ A P Q R Z i).length=(A++P++Q++R++Z).length:=fun i=>Y6 A P Q R Z i h
 have j:d_ A P Q R Z 0=A++P++Q++R++Z:=by simp[d_]
 have g:d_ A P Q R Z P.length=A++R++Q++P++Z:=by
  unfold d_;rw[mY (l:=R) (by omega),eU (l:=R) (by omega)];simp
 rw[<-j,<-g];generalize e:(A++P++Q++R++Z).length=N at hn hlen;have m:N=A.length+P.length+Q.length+R.length+Z.length:=by rw[<-e];simp;omega
 rw[hlen 0];have a:=cg (X:=XV) (T:=[29,35]) (L:=1) (live:=[0,1,2,3,10]) (b:=vH) (n:=P.length) (γ:=Unit) (st:=fun(_:Unit) i=>⟨[(0,.tsl true 0 3 N),(1,aa A.length),(2,aa (A.length+P.length+Q.length:Nat)),(3,aa P.length),(10,aa i)],[some (kc (d_ A P Q R Z i))]⟩) (step:=fun _ _=> .inl ())
  (F:=fun _=>(.exit 0,⟨[(0,.tsl true 0 3 N),(1,aa A.length),(2,aa (A.length+P.length+Q.length:Nat)),(3,aa P.length),(10,aa P.length),(13,ar false)],[some (kc (d_ A P Q R Z P.length))]⟩)) (R:=fun _=>(.ret,⟨[],[]⟩))
  (fun _=>⟨by simp,by simp[vH]⟩)
  (fun _ i hi=>by
   have hw:=bH (n:=i) (by omega);have hs:=NB (d_ A P Q R Z i) A.length (A.length+P.length+Q.length) i P.length (by rw[hlen];exact hn) (by rw[hlen];omega) (by rw[hlen];omega) (by omega);rw[Pq A P Q R Z i h hi,hlen]at hs;have k:(i:Int)<P.length:=by omega
   generalize c:kc (d_ A P Q R Z (i+1))=c2 at hs;generalize kc (d_ A P Q R Z i)=c1 at hs⊢
   exact⟨⟨[(0,.tsl true 0 3 N),(1,aa A.length),(2,aa (A.length+P.length+Q.length:Nat)),(3,aa P.length),(10,aa (i+1:Nat))],[some c2]⟩,by
    simp[vH,hi];simp only[mN]at hs;rw[hs];simp[hw],by simp[aE,aD,eq,c]⟩)
  P.length () 0 ⟨[(0,.tsl true 0 3 N),(1,aa A.length),(2,aa (A.length+P.length+Q.length:Nat)),(3,aa P.length),(10,aa 0)],[some (kc (d_ A P Q R Z 0))]⟩ (by omega) (by simp[aE,aD,eq])
 rw[oI]at a;generalize kc (d_ A P Q R Z P.length)=c2 at a⊢
 generalize kc (d_ A P Q R Z 0)=c1 at a⊢
 generalize ((A.length+P.length+Q.length:Nat):Int)=K at a⊢
 simp[yK];rw[a];simp
theorem DD(A P Q R Z:List T)(a b n N:Nat)(ha:a=A.length)(hb:b=A.length+P.length+Q.length)(c:n=P.length)(h:n=R.length)(e:N=(A++P++Q++R++Z).length)(hn:N<=1099511627776)(f:AV)(g:f.clr=f):
 al XV 175 [.tsl true 0 3 N,aa a,aa b,aa n,f] [some (kc (A++P++Q++R++Z))]=some (.d (.tup []),[some (kc (A++R++Q++P++Z))]):=by
 subst ha;subst hb;subst c;subst e
 exact Zm A P Q R Z h hn f g
theorem Sn(G:List T)(m N:Nat)(F:N<=1099511627776)(f:AV)(h:f.clr=f)(r:f.safe 1=true):∀(k:Nat) (A X Y Z:List T),X.length+Y.length<=k->0<X.length->0<Y.length->A.length+X.length=m->(A++X++Y++Z).length=N->G=A++Y++X++Z->
 ∃(b a d e:List T),a.length=d.length/\b.length+a.length=m/\(b++a++d++e).length=N/\G=b++d++a++e/\
  bV XV [] 1 [0,2,4,10,11] ra ⟨[(0,.tsl true 0 3 N),(2,aa m),(4,f),(10,aa X.length),(11,aa Y.length)],[some (kc (A++X++Y++Z))]⟩=some (.exit 0,⟨[(0,.tsl true 0 3 N),(2,aa m),(4,f),(10,aa a.length),(11,aa a.length),(20,ar false)],[some (kc (b++a++d++e))]⟩):=by
 intro k
 induction k with
 |zero=>intro A X Y Z h1 h2;omega
 |succ k K=>
  intro A X Y Z hk hx hy hm H n;have h3:A.length+X.length+Y.length+Z.length=N:=by rw[<-H];simp;omega
  have head:∀(x y:Nat) (c:List AV),aE 1 [0,2,4,10,11] ⟨[(0,.tsl true 0 3 N),(2,aa m),(4,f),(10,aa x),(11,aa y)],[some c]⟩=some ⟨[(0,.tsl true 0 3 N),(2,aa m),(4,f),(10,aa x),(11,aa y)],[some c]⟩:=fun x y c=>by
   simp[aE,aD,eq,r]
  rcases Nat.lt_trichotomy X.length Y.length with V|heq|O
  ·
   have g:(Y.take (Y.length-X.length)).length=Y.length-X.length:=by simp
   have t:(Y.drop (Y.length-X.length)).length=X.length:=by simp;omega
   generalize C:Y.take (Y.length-X.length)=Q at g;generalize hR:Y.drop (Y.length-X.length)=R at t;have I:Y=Q++R:=by rw[<-C,<-hR,du]
   have hs:=DD A X Q R Z A.length (m+Y.length-X.length) X.length N rfl (by omega) rfl t.symm (by simp;omega) F f h;obtain⟨b,a,d,e,q,o,z,D,l⟩:=K A R Q (X++Z) (by omega) (by omega) (by omega) (by omega) (by simp;omega) (by rw[n,I];simp);refine⟨b,a,d,e,q,o,z,D,?_⟩;rw[<-l,t,g];have u:A++X++Y++Z=A++X++Q++R++Z:=by rw[I];simp
   have W:A++R++Q++(X++Z)=A++R++Q++X++Z:=by simp
   rw[u,W];have j:IntKind.i64.wrap ((m:Int)-X.length)=(A.length:Int):=by rw[wrap_i64 (by omega) (by omega)];omega
   have M:IntKind.i64.wrap ((m:Int)+Y.length)=((m+Y.length:Nat):Int):=by rw[wrap_i64 (by omega) (by omega)];omega
   have S:IntKind.i64.wrap (((m+Y.length:Nat):Int)-X.length)=((m+Y.length-X.length:Nat):Int):=by rw[wrap_i64 (by omega) (by omega)];omega
   have w:IntKind.i64.wrap ((Y.length:Int)-X.length)=((Y.length-X.length:Nat):Int):=by rw[wrap_i64 (by omega) (by omega)];omega
   refine eF (head _ _ _) ?_;have p:((X.length:Int) !=(Y.length:Int))=true:=by simp;omega
   have i:¬((Y.length:Int)<X.length):=by omega
   generalize kc (A++X++Q++R++Z)=c1 at hs⊢
   generalize kc (A++R++Q++X++Z)=c2 at hs⊢
   generalize ((m+Y.length-X.length:Nat):Int)=gv1 at*
   generalize ((m+Y.length:Nat):Int)=gv2 at*
   generalize ((Y.length-X.length:Nat):Int)=gv3 at*
   generalize (X.length:Int)=vx at*
   generalize (Y.length:Int)=vy at*
   simp[ra,p,i,j,M,S,w,hs,h]
  ·
   refine⟨A,X,Y,Z,heq,hm,H,n,?_⟩;rw[<-heq];refine d7 (head _ _ _) ?_ (by simp);simp[ra]
  ·have s:(X.take Y.length).length=Y.length:=by simp;omega
   have g:(X.drop Y.length).length=X.length-Y.length:=by simp
   generalize hP:X.take Y.length=P at s;generalize C:X.drop Y.length=Q at g;have J:X=P++Q:=by rw[<-hP,<-C,du]
   have hs:=DD A P Q Y Z A.length m Y.length N rfl (by omega) s.symm rfl (by simp;omega) F f h;obtain⟨b,a,d,e,q,o,z,D,l⟩:=K (A++Y) Q P Z (by omega) (by omega) (by omega) (by simp;omega) (by simp;omega) (by rw[n,J];simp);refine⟨b,a,d,e,q,o,z,D,?_⟩;rw[<-l,s,g];have u:A++X++Y++Z=A++P++Q++Y++Z:=by rw[J];simp
   rw[u];have j:IntKind.i64.wrap ((m:Int)-X.length)=(A.length:Int):=by rw[wrap_i64 (by omega) (by omega)];omega
   have w:IntKind.i64.wrap ((X.length:Int)-Y.length)=((X.length-Y.length:Nat):Int):=by rw[wrap_i64 (by omega) (by omega)];omega
   refine eF (head _ _ _) ?_;have p:((X.length:Int) !=(Y.length:Int))=true:=by simp;omega
   have i:((Y.length:Int)<X.length):=by omega
   generalize kc (A++P++Q++Y++Z)=c1 at hs⊢
   generalize kc (A++Y++Q++P++Z)=c2 at hs⊢
   generalize ((X.length-Y.length:Nat):Int)=gv3 at*
   generalize (X.length:Int)=vx at*
   generalize (Y.length:Int)=vy at*
   simp[ra,p,i,j,w,hs,h]
theorem X7(A X Y Z:List T)(a m b N:Nat)(ha:a=A.length)(hm:m=A.length+X.length)(hb:b=A.length+X.length+Y.length)(k:N=(A++X++Y++Z).length)(hn:N<=1099511627776)(hx:0<X.length)(hy:0<Y.length)(f:AV)(i:f.clr=f)(j:f.safe 1=true):
 al XV 174 [.tsl true 0 3 N,aa a,aa m,aa b,f] [some (kc (A++X++Y++Z))]=some (.d (.tup []),[some (kc (A++Y++X++Z))]):=by
 have u:A.length+X.length+Y.length+Z.length=N:=by rw[k];simp;omega
 obtain⟨c,e,h,g,q,w,r,s,o⟩:=Sn (A++Y++X++Z) m N hn f i j (X.length+Y.length) A X Y Z (aU _) hx hy hm.symm k.symm rfl;have t:c.length+e.length+h.length+g.length=N:=by rw[<-r];simp;omega
 have hs:=DD c e [] h g c.length m e.length N rfl (by simp;omega) rfl q (by simp;omega) hn f i;simp only[dq]at hs;rw[aJ 174 uM rfl,s];have n:IntKind.i64.wrap ((m:Int)-a)=(X.length:Int):=by rw[wrap_i64 (by omega) (by omega)];omega
 have l:IntKind.i64.wrap ((b:Int)-m)=(Y.length:Int):=by rw[wrap_i64 (by omega) (by omega)];omega
 have p:IntKind.i64.wrap ((m:Int)-e.length)=(c.length:Int):=by rw[wrap_i64 (by omega) (by omega)];omega
 generalize kc (A++X++Y++Z)=c1 at*
 generalize kc (c++e++h++g)=c2 at*
 generalize kc (c++h++e++g)=c3 at*
 simp[uM,n,l];rw[o];simp[HM,p,i,hs]
theorem lJ(l:List T)(i:Nat)(hi:i<l.length):((kc l).drop (i*3)).take 3=e3 (ae l i):=by
 unfold kc;rw[sX (Ae l) i (by simpa using hi)];simp[bc hi]
theorem V3(l:List T)(a:Nat)(j:Nat)(hn:l.length<=1099511627776)(i:j+1<l.length)(ha:a<j+1)(hb:∀t,t∈l->t.inner<=1099511627776)(o k:AV):
 aH XV [46,50] (.region true 0 [0,1,2,3,8,9,34] ta) ⟨[(0,.tsl true 0 3 l.length),(1,aa a),(2,o),(3,.fn 6 []),(8,k),(9,aa ((j+1:Nat):Int))],[some (kc l)]⟩=some (.normal,⟨[(0,.tsl true 0 3 l.length),(1,aa a),(2,o),(3,.fn 6 []),(8,k),(9,aa ((j+1:Nat):Int)),(34,ar (decide (T.cmp (ae l (j+1)) (ae l j)<0)))],[some (kc l)]⟩):=by
 have hw:IntKind.i64.wrap (((j+1:Nat):Int)-1)=(j:Int):=by rw[show((j+1:Nat):Int)-1=(j:Int)by omega];exact wrap_i64 (by omega) (by omega)
 have hc:=yC (some (kc l)) (ae l (j+1)) (ae l j) (hb _ (bS i)) (hb _ (bS (by omega)));have f1:=lJ l j (by omega);have f2:=lJ l (j+1) i;have m:=ka l;generalize T.cmp (ae l (j+1)) (ae l j)=r at hc⊢
 generalize kc l=c0 at f1 f2 m hc⊢
 generalize p:l.length=n at*
 have d:(0:Int)<=((j+1:Nat):Int)/\((j+1:Nat):Int)<n:=⟨by omega,by omega⟩;have c:((j+1:Nat):Int).toNat=j+1:=rfl;have h:(j:Int)<n:=by omega
 have e:j*3+3<=n*3:=by omega
 have g:(j+1)*3+3<=n*3:=by omega
 have b:((a:Int)<((j+1:Nat):Int)):=by omega
 generalize ((j+1:Nat):Int)=J at hw d c b⊢
 obtain⟨s,q,w⟩:=ae l (j+1);obtain⟨u,vb,x⟩:=ae l j;simp only[kX,aj]at f1 f2;simp[Hh,hw,d,c,h,b,m,f1,f2,e,g,hc]
theorem tz(A Z:List T)(x:T)(i:Nat)(h:i=A.length):ae (A++x::Z) i=x:=by subst h;exact AW A Z x
theorem Ns(N a:Nat)(hn:N<=1099511627776)(m j:Int)(x:T):∀(k:Nat) (A S d:List T),S.length=k->A.length=a->(A++S++x::d).length=N->(∀t,t∈A++S++x::d->t.inner<=1099511627776)->
 ∃o l:List T,S=o++l/\(∀s,s∈l->T.cmp x s<0)/\(∀s,o.getLast?=some s->¬T.cmp x s<0)/\
  ∀(s0:XS),s0.r=[(0,.tsl true 0 3 N),(1,aa a),(2,aa m),(3,.fn 6 []),(8,aa j),(9,aa (a+S.length:Nat))]->s0.B=[some (kc (A++S++x::d))]->
  ∃w,bV XV [46,50] 1 [0,1,2,3,8,9] qo s0=some (.exit 2,⟨[(0,.tsl true 0 3 N),(1,aa a),(2,aa m),(3,.fn 6 []),(8,aa j),(9,aa (a+o.length:Nat)),(34,w)],[some (kc (A++o++x::(l++d)))]⟩):=by
 have head:∀(y:Int) (c:List AV) (s0:XS),s0.r=[(0,.tsl true 0 3 N),(1,aa a),(2,aa m),(3,.fn 6 []),(8,aa j),(9,aa y)]->s0.B=[some c]->aE 1 [0,1,2,3,8,9] s0=some ⟨[(0,.tsl true 0 3 N),(1,aa a),(2,aa m),(3,.fn 6 []),(8,aa j),(9,aa y)],[some c]⟩:=fun y c s0 h1 i=>by
  obtain⟨r,B⟩:=s0;simp only at h1 i;subst h1;subst i
  simp[aE,aD,eq,fY,fJ]
 intro k
 induction k with
 |zero=>
  intro A S d C D g hb;have:S=[]:=kp.1 C;subst this;refine⟨[],[],rfl,by simp,by simp,fun s0 h1 i=>⟨ar false,?_⟩⟩;refine d7 (head _ _ s0 h1 i) ?_ (by simp);simp[qo,Hh,yV]
 |succ k P=>
  intro A S d C D g hb;have u:S≠[]:=by intro h;simp[h]at C
  obtain⟨b,s,rfl⟩:∃b s,S=b++[s]:=⟨S.dropLast,S.getLast u,(qP u).symm⟩;have K:b.length=k:=by simpa using C
  have q:A++(b++[s])++x::d=(A++b)++s::([]++x::d):=by simp
  have F:A++b++x::(s::d)=(A++b)++x::([]++s::d):=by simp
  have R:A.length+b.length+d.length+2=N:=by rw[<-g];simp;omega
  have p:a+(b++[s]).length=(a+b.length)+1:=by simp;omega
  have t0:ae (A++(b++[s])++x::d) (a+b.length)=s:=by rw[q];exact tz _ _ _ _ (by simp[D])
  have V:ae (A++(b++[s])++x::d) (a+b.length+1)=x:=tz _ _ _ _ (by simp;omega);have hc:=V3 (A++(b++[s])++x::d) a (a+b.length) (by rw[g];exact hn) (by rw[g];omega) (by omega) hb (aa m) (aa j);rw[t0,V,g]at hc
  by_cases z:T.cmp x s<0
  ·have e:=MQ (A++(b++[s])++x::d) (a+b.length) (by rw[g];exact hn) (by rw[g];omega) (aa a) (aa m) (.fn 6 []) (aa j) (by simp) (by simp)
   have hsp:swp (A++(b++[s])++x::d) (a+b.length) (a+b.length+1)=A++b++x::(s::d):=by
    rw[q,F,show a+b.length=(A++b).length by simp[D]];exact yd _ [] _ _ _ _ (by simp)
   rw[hsp,g]at e;obtain⟨o,l,W,Y,e3,Q⟩:=P A b (s::d) K D (by simp;omega) (fun t O=>hb t (by
    simp only[bl,br]at O;rcases O with(h|h)|h|h|h<;>simp[h]))
   refine⟨o,l++[s],by rw[W];simp,fun y hy=> ?_,e3,fun s0 h1 i=> ?_⟩
   ·rcases bl.1 hy with h|h
    ·exact Y y h
    ·simp at h;subst h;exact z
   ·rw[p]at h1
    have hw:=wrap_i64 (n:=((a+b.length:Nat):Int)) (by omega) (by omega);obtain⟨w,G⟩:=Q ⟨[(0,.tsl true 0 3 N),(1,aa a),(2,aa m),(3,.fn 6 []),(8,aa j),(9,aa (a+b.length:Nat))],[some (kc (A++b++x::(s::d)))]⟩ rfl rfl;refine⟨w,?_⟩;have M:l++[s]++d=l++(s::d):=by simp
    rw[M,<-G];refine eF (head _ _ s0 h1 i) ?_;have H:IntKind.i64.wrap (((a+b.length+1:Nat):Int)-1)=((a+b.length:Nat):Int):=by rw[show((a+b.length+1:Nat):Int)-1=((a+b.length:Nat):Int)by omega];exact hw
    simp only[z,decide_true]at hc;generalize kc (A++b++x::(s::d))=c2 at e⊢
    generalize kc (A++(b++[s])++x::d)=c1 at hc e⊢
    generalize ((a+b.length+1:Nat):Int)=J at*
    generalize ((a+b.length:Nat):Int)=I at*
    simp only[qo,mC,hc];simp;rw[e];simp[yV,H]
  ·refine⟨b++[s],[],by simp,by simp,fun y hy=> ?_,fun s0 h1 i=>⟨ar false,?_⟩⟩
   ·simp at hy;subst hy;exact z
   ·rw[p]at h1⊢
    refine d7 (head _ _ s0 h1 i) ?_ (by simp);simp only[z,decide_false]at hc;simp only[dj];generalize kc (A++(b++[s])++x::d)=c1 at hc⊢
    generalize ((a+b.length+1:Nat):Int)=J at*
    simp only[qo,mC,hc];simp
theorem QR{b d:List T}{x:T}(h:bW (b++d))(i:∀s,s∈d->T.cmp x s<0)(h1:∀s,b.getLast?=some s->¬T.cmp x s<0):bW (b++x::d):=by
 unfold bW at*
 rw[iE]at h⊢
 obtain⟨e,p2,p3⟩:=h;have hx:∀s,s∈b->c8 s x:=by
  intro s hs;have a:b≠[]:=fun he=>by rw[he]at hs;simp at hs
  have g:=oW (h1 (b.getLast a) (Gr a))
  by_cases he:s=b.getLast a
  ·rw[he];exact g
  ·have hd:s∈b.dropLast:=by
    have:=qP a;rw[<-this]at hs;rcases bl.1 hs with h|h
    ·exact h
    ·simp at h;exact absurd h he
   have j:(b.dropLast++[b.getLast a]).Pairwise c8:=by rw[qP];exact e
   exact pt ((iE.1 j).2.2 s hd _ (by simp)) g
 refine⟨e,gC.2 ⟨fun s hs=>nj (i s hs),p2⟩,fun s hs t c=> ?_⟩;rcases br.1 c with rfl|c
 ·exact hx s hs
 ·exact p3 s hs t c
theorem Re(N a b:Nat)(hn:N<=1099511627776)(A Z:List T)(Q:A.length=a):∀(R S:List T),0<S.length->b=a+S.length+R.length->(A++S++R++Z).length=N->(∀t,t∈A++S++R++Z->t.inner<=1099511627776)->bW S->
 ∃W:List T,W.Perm (S++R)/\bW W/\
  ∀(s0:XS),s0.r=[(0,.tsl true 0 3 N),(1,aa a),(2,aa b),(3,.fn 6 []),(8,aa (a+S.length:Nat))]->s0.B=[some (kc (A++S++R++Z))]->
  bV XV [46,50] 1 [0,1,2,3,8] kF s0=some (.exit 0,⟨[(0,.tsl true 0 3 N),(1,aa a),(2,aa b),(3,.fn 6 []),(8,aa b),(14,ar false)],[some (kc (A++W++Z))]⟩):=by
 have head:∀(y:Int) (c:List AV) (s0:XS),s0.r=[(0,.tsl true 0 3 N),(1,aa a),(2,aa b),(3,.fn 6 []),(8,aa y)]->s0.B=[some c]->aE 1 [0,1,2,3,8] s0=some ⟨[(0,.tsl true 0 3 N),(1,aa a),(2,aa b),(3,.fn 6 []),(8,aa y)],[some c]⟩:=fun y c s0 h1 g=>by
  obtain⟨r,B⟩:=s0;simp only at h1 g;subst h1;subst g
  simp[aE,aD,eq,fY,fJ]
 intro R
 induction R with
 |nil=>
  intro S M hb p i hs;refine⟨S,by simp,hs,fun s0 h1 g=> ?_⟩;have u:b=a+S.length:=by simpa using hb
  rw[<-u]at h1;rw[dq]at g;refine d7 (head _ _ s0 h1 g) ?_ (by simp);simp[kF]
 |cons x R F=>
  intro S M hb p i hs;obtain⟨e,d,o,V,e3,H⟩:=Ns N a hn b (a+S.length:Nat) x S.length A S (R++Z) rfl Q (by rw[<-p];simp) (fun t m=>i t (by
   simp only[bl,br]at m⊢
   rcases m with(h|h)|h|h|h<;>simp[h]))
  have D:bW (e++x::d):=QR (by rw[<-o];exact hs) V e3;have hlen:(e++x::d).length=S.length+1:=by rw[o];simp;omega
  have l:(e++x::d).Perm (S++[x]):=by
   rw[o];exact(mD).trans (by
    have:=kS (l₁:=[x]) (l₂:=e++d);simpa using this)
  have s:(A++(e++x::d)++R++Z).length=N:=by rw[<-p,o];simp;omega
  obtain⟨W,K,G,P⟩:=F (e++x::d) (by rw[hlen];omega) (by rw[hlen,hb];simp;omega) s (fun t m=>i t (by
   rw[o];simp only[bl,br]at m⊢
   rcases m with((h|h|h|h)|h)|h<;>simp[h])) D
  refine⟨W,K.trans ((l.append_right R).trans (by simp)),G,fun s0 h1 g=> ?_⟩;have O:A.length+S.length+(R.length+1)+Z.length=N:=by rw[<-p];simp;omega
  have C:((a+S.length:Nat):Int)<(b:Int):=by
   simp only[cB]at hb;omega
  obtain⟨w,k⟩:=H ⟨[(0,.tsl true 0 3 N),(1,aa a),(2,aa b),(3,.fn 6 []),(8,aa (a+S.length:Nat)),(9,aa (a+S.length:Nat))],[some (kc (A++S++x::(R++Z)))]⟩ rfl rfl;have z:A++S++x::R++Z=A++S++x::(R++Z):=by simp
  rw[z]at g;have hw:=bH (n:=a+S.length) (by omega);have j:=P ⟨[(0,.tsl true 0 3 N),(1,aa a),(2,aa b),(3,.fn 6 []),(8,aa (a+(e++x::d).length:Nat))],[some (kc (A++(e++x::d)++R++Z))]⟩ rfl rfl;rw[<-j];refine eF (head _ _ s0 h1 g) ?_;have q:A++(e++x::d)++R++Z=A++e++x::(d++(R++Z)):=by simp
  rw[q,hlen,show a+(S.length+1)=a+S.length+1 by omega];generalize kc (A++e++x::(d++(R++Z)))=c2 at k⊢
  generalize kc (A++S++x::(R++Z))=c1 at k⊢
  generalize ((a+S.length+1:Nat):Int)=J at*
  generalize ((a+S.length:Nat):Int)=I at*
  simp[kF,C];rw[k];simp[hw]
theorem LM(A X Z:List T)(a b N:Nat)(ha:a=A.length)(hb:b=A.length+X.length)(k:N=(A++X++Z).length)(hn:N<=1099511627776)(e:∀t,t∈A++X++Z->t.inner<=1099511627776):
 ∃W:List T,W.Perm X/\bW W/\al XV 172 [.tsl true 0 3 N,aa a,aa b,.fn 6 []] [some (kc (A++X++Z))]=some (.d (.tup []),[some (kc (A++W++Z))]):=by
 have o:A.length+X.length+Z.length=N:=by rw[k];simp;omega
 have hw:=bH (n:=a) (by omega);cases X with
 |nil=>
  refine⟨[],iU _,mr,?_⟩;rw[aJ 172 kM rfl];have g:b=a:=by simp at hb;omega
  subst g;have c:bV XV [46,50] 1 [0,1,2,3,8] kF ⟨[(0,.tsl true 0 3 N),(1,aa b),(2,aa b),(3,.fn 6 []),(8,aa (b+1:Nat))],[some (kc (A++[]++Z))]⟩=some (.exit 0,⟨[(0,.tsl true 0 3 N),(1,aa b),(2,aa b),(3,.fn 6 []),(8,aa (b+1:Nat)),(14,ar false)],[some (kc (A++[]++Z))]⟩):=by
   refine d7 (s0:=⟨[(0,.tsl true 0 3 N),(1,aa b),(2,aa b),(3,.fn 6 []),(8,aa (b+1:Nat))],[some (kc (A++[]++Z))]⟩) (by simp[aE,aD,eq,fY,fJ]) ?_ (by simp);have i:¬(((b+1:Nat):Int)<(b:Int)):=by omega
   generalize ((b+1:Nat):Int)=J at*
   simp[kF,i]
  generalize kc (A++[]++Z)=c1 at c⊢
  generalize ((b+1:Nat):Int)=J at*
  simp[kM,hw];rw[c];simp
 |cons x R=>
  obtain⟨W,m,l,p⟩:=Re N a b hn A Z ha.symm R [x] (by simp) (by rw[hb,ha];simp;omega) (by rw[k];simp) (fun t j=>e t (by
   simp only[bl,br,kU,lT]at j⊢
   rcases j with((h|h)|h)|h<;>simp[h])) (qc _ _)
  refine⟨W,by simpa using m,l,?_⟩;rw[aJ 172 kM rfl];have c:=p ⟨[(0,.tsl true 0 3 N),(1,aa a),(2,aa b),(3,.fn 6 []),(8,aa (a+1:Nat))],[some (kc (A++[x]++R++Z))]⟩ rfl rfl;have hc:A++x::R++Z=A++[x]++R++Z:=by simp
  rw[hc];generalize kc (A++[x]++R++Z)=c1 at c⊢
  generalize kc (A++W++Z)=c2 at c⊢
  generalize ((a+1:Nat):Int)=J at*
  simp[kM,hw];rw[c];simp
theorem TN(l:List T)(k:Nat)(hn:l.length<=1099511627776)(m:k+1<l.length)(b:Int):
 aH XV [70,74,122,126] (.region true 0 [0,10,13] vt) ⟨[(0,.tsl true 0 3 l.length),(10,aa b),(13,aa k),(58,ar true)],[some (kc l)]⟩=some (.normal,⟨[(0,.tsl true 0 3 l.length),(10,aa b),(13,aa k)],[some (kc (swp l (k+1) k))]⟩):=by
 have hw:=bH (n:=k) (by omega);obtain⟨c1,c2,c3,o,q,p,f1,f2,f3,f4,j,e⟩:=vU l (k+1) k m (by omega) (by omega);have i:=ka l;generalize kc (swp l (k+1) k)=c4 at e⊢
 generalize kc l=c0 at f1 f2 i⊢
 generalize r:l.length=n at*
 have c:(0:Int)<=((k+1:Nat):Int)/\((k+1:Nat):Int)<n:=⟨by omega,by omega⟩;have a:((k+1:Nat):Int).toNat=k+1:=rfl;have h:(k:Int)<n:=by omega
 have g:k*3+3<=n*3:=by omega
 have d:(k+1)*3+3<=n*3:=by omega
 generalize ((k+1:Nat):Int)=J at hw c a⊢
 simp only[kX,tJ,aj]at f1 f2 f3 f4 j e;simp[P2,hw,c,a,h,i,o,q,p,f1,f2,f3,f4,j,e,g,d,bm,aX,bg,a_]
theorem WI(l:List T)(k:Nat)(hn:l.length<=1099511627776)(m:k+1<l.length)(b:Int):
 aH XV [70,74,122,126] (.region true 0 [0,14,17] uV) ⟨[(0,.tsl true 0 3 l.length),(14,aa b),(17,aa ((k+1:Nat):Int)),(110,ar true)],[some (kc l)]⟩=some (.normal,⟨[(0,.tsl true 0 3 l.length),(14,aa b),(17,aa ((k+1:Nat):Int))],[some (kc (swp l k (k+1)))]⟩):=by
 have hw:IntKind.i64.wrap (((k+1:Nat):Int)-1)=(k:Int):=by rw[show((k+1:Nat):Int)-1=(k:Int)by omega];exact wrap_i64 (by omega) (by omega)
 obtain⟨c1,c2,c3,o,q,p,f1,f2,f3,f4,j,e⟩:=vU l k (k+1) (by omega) m (by omega);have i:=ka l;generalize kc (swp l k (k+1))=c4 at e⊢
 generalize kc l=c0 at f1 f2 i⊢
 generalize r:l.length=n at*
 have c:(0:Int)<=((k+1:Nat):Int)/\((k+1:Nat):Int)<n:=⟨by omega,by omega⟩;have a:((k+1:Nat):Int).toNat=k+1:=rfl;have h:(k:Int)<n:=by omega
 have g:k*3+3<=n*3:=by omega
 have d:(k+1)*3+3<=n*3:=by omega
 generalize ((k+1:Nat):Int)=J at hw c a⊢
 simp only[kX,tJ,aj]at f1 f2 f3 f4 j e;simp[TP,hw,c,a,h,i,o,q,p,f1,f2,f3,f4,j,e,g,d,bm,aX,bg,a_]
theorem MR(l:List T)(a h:Nat)(hn:l.length<=1099511627776)(ha:a<l.length)(hh:h<l.length)(hb:∀t,t∈l->t.inner<=1099511627776)(c b:Int):
 aH XV [70,74,122,126] (.region true 0 [0,1,4,10,11,12,50] tE) ⟨[(0,.tsl true 0 3 l.length),(1,aa a),(4,.fn 6 []),(10,aa c),(11,aa b),(12,aa h)],[some (kc l)]⟩=some (.normal,⟨[(0,.tsl true 0 3 l.length),(1,aa a),(4,.fn 6 []),(10,aa c),(11,aa b),(12,aa h),(50,ar (decide (T.cmp (ae l h) (ae l a)<0)))],[some (kc l)]⟩):=by
 have hc:=yC (some (kc l)) (ae l h) (ae l a) (hb _ (bS hh)) (hb _ (bS ha));have f1:=lJ l h hh;have f2:=lJ l a ha;have j:=ka l;generalize T.cmp (ae l h) (ae l a)=r at hc⊢
 generalize kc l=c0 at f1 f2 j hc⊢
 generalize k:l.length=n at*
 have g:(h:Int)<n:=by omega
 have i:(a:Int)<n:=by omega
 have d:h*3+3<=n*3:=by omega
 have e:a*3+3<=n*3:=by omega
 obtain⟨o,m,q⟩:=ae l h;obtain⟨p,vb,s⟩:=ae l a;simp only[kX,aj]at f1 f2;simp[TV,g,i,j,f1,f2,d,e,hc]
theorem Mn(l:List T)(m h:Nat)(hn:l.length<=1099511627776)(hm:m<l.length)(hh:h<l.length)(hb:∀t,t∈l->t.inner<=1099511627776)(b a:Int):
 aH XV [70,74,122,126] (.region true 0 [0,2,4,14,15,16,103] xR) ⟨[(0,.tsl true 0 3 l.length),(2,aa m),(4,.fn 6 []),(14,aa b),(15,aa a),(16,aa h)],[some (kc l)]⟩=some (.normal,⟨[(0,.tsl true 0 3 l.length),(2,aa m),(4,.fn 6 []),(14,aa b),(15,aa a),(16,aa h),(103,ar (!decide (T.cmp (ae l m) (ae l h)<0)))],[some (kc l)]⟩):=by
 have hc:=yC (some (kc l)) (ae l m) (ae l h) (hb _ (bS hm)) (hb _ (bS hh));have f1:=lJ l h hh;have f2:=lJ l m hm;have i:=ka l;generalize T.cmp (ae l m) (ae l h)=r at hc⊢
 generalize kc l=c0 at f1 f2 i hc⊢
 generalize k:l.length=n at*
 have e:(h:Int)<n:=by omega
 have g:(m:Int)<n:=by omega
 have c:h*3+3<=n*3:=by omega
 have d:m*3+3<=n*3:=by omega
 obtain⟨p,o,s⟩:=ae l h;obtain⟨q,vb,u⟩:=ae l m;simp only[kX,aj]at f1 f2
 by_cases j:r<0
 ·simp[Jm,e,g,i,f1,f2,c,d,hc,j]
 ·simp[Jm,e,g,i,f1,f2,c,d,hc,j]
theorem Vd(l:List T)(p c:Nat)(hn:l.length<=1099511627776)(x:c<=p)(m:p-c<l.length)(hh:c<l.length)(z:p<=4398046511104)(hb:∀t,t∈l->t.inner<=1099511627776)(s u w a g d b:Int):
 aH XV [70,74,122,126] (.region true 0 [0,1,2,3,4,18,19,20,21,22,23,171] yS) ⟨[(0,.tsl true 0 3 l.length),(1,aa s),(2,aa u),(3,aa w),(4,.fn 6 []),(18,aa a),(19,aa g),(20,aa d),(21,aa b),(22,aa p),(23,aa c)],[some (kc l)]⟩=some (.normal,⟨[(0,.tsl true 0 3 l.length),(1,aa s),(2,aa u),(3,aa w),(4,.fn 6 []),(18,aa a),(19,aa g),(20,aa d),(21,aa b),(22,aa p),(23,aa c),(171,ar (!decide (T.cmp (ae l (p-c)) (ae l c)<0)))],[some (kc l)]⟩):=by
 have hw:IntKind.i64.wrap ((p:Int)-c)=((p-c:Nat):Int):=by rw[wrap_i64 (by omega) (by omega)];omega
 have hc:=yC (some (kc l)) (ae l (p-c)) (ae l c) (hb _ (bS m)) (hb _ (bS hh));have f1:=lJ l c hh;have f2:=lJ l (p-c) m;have k:=ka l;generalize T.cmp (ae l (p-c)) (ae l c)=r at hc⊢
 generalize kc l=c0 at f1 f2 k hc⊢
 generalize y:l.length=n at*
 generalize D:p-c=q at*
 have i:(c:Int)<n:=by omega
 have j:(q:Int)<n:=by omega
 have h:c*3+3<=n*3:=by omega
 have e:q*3+3<=n*3:=by omega
 obtain⟨G,C,F⟩:=ae l c;obtain⟨H,vb,I⟩:=ae l q;simp only[kX,aj]at f1 f2
 by_cases o:r<0
 ·simp[Li,hw,i,j,k,f1,f2,h,e,hc,o]
 ·simp[Li,hw,i,j,k,f1,f2,h,e,hc,o]
def bs(P:Nat->Bool):Nat->Nat->Nat->Nat
 |0,i,_=>i
 |k+1,i,j=>if i<j then(if P ((i+j)/2)=true then bs P k ((i+j)/2+1) j else bs P k i ((i+j)/2))else i
theorem rU(P:Nat->Bool):∀(k i j:Nat),i<=j->j-i<=k->i<=bs P k i j/\bs P k i j<=j/\(bs P k i j=i\/P (bs P k i j-1)=true)/\(bs P k i j=j\/P (bs P k i j)=false)
 |0,i,j,h,l=>by
  have e:bs P 0 i j=i:=rfl;rw[e];exact⟨aU _,h,.inl rfl,.inl (by omega)⟩
 |k+1,i,j,h,l=>by
  simp only[bs]
  by_cases c:i<j
  ·rw[ap c]
   by_cases d:P ((i+j)/2)=true
   ·rw[ap d]
    obtain⟨h1,g,b,a⟩:=rU P k ((i+j)/2+1) j (by omega) (by omega);refine⟨by omega,g,?_,a⟩;rcases b with b|b
    ·right;rw[b];simpa using d
    ·exact .inr b
   ·rw[ak d]
    obtain⟨h1,g,b,a⟩:=rU P k i ((i+j)/2) (by omega) (by omega);refine⟨h1,by omega,b,?_⟩;rcases a with a|a
    ·right;rw[a];simpa using d
    ·exact .inr a
  ·rw[ak c]
   exact⟨aU _,h,.inl rfl,.inl (by omega)⟩
theorem wrap_u64{n:Int}(a:0<=n)(h1:n<=18446744073709551615):IntKind.u64.wrap n=n:=by
 simp[IntKind.wrap,IntKind.bits,IntKind.signed];omega
theorem lg(x:Int):cR .shr .u64 x 1=some (.int .u64 (x.fdiv 2)):=rfl
theorem VE(n:Nat):(n:Int).fdiv 2=((n/2:Nat):Int):=by
 rw[FW _ (by omega)];omega
theorem tC(i j:Nat)(h:i+j<=4398046511104):IntKind.i64.wrap ((i:Int)+j)=((i+j:Nat):Int)/\IntKind.u64.wrap ((i+j:Nat):Int)=((i+j:Nat):Int)/\((i+j:Nat):Int).fdiv 2=(((i+j)/2:Nat):Int)/\IntKind.i64.wrap (((i+j)/2:Nat):Int)=(((i+j)/2:Nat):Int):=
 ⟨by rw[wrap_i64 (by omega) (by omega)];omega,wrap_u64 (by omega) (by omega),VE _,wrap_i64 (by omega) (by omega)⟩
theorem PL(l:List T)(a:Nat)(hn:l.length<=1099511627776)(ha:a<l.length)(hb:∀t,t∈l->t.inner<=1099511627776):∀(k i j:Nat),i<=j->j-i<=k->j<=l.length->
 bV XV [70,74,122,126] 1 [0,1,4,10,11] nT ⟨[(0,.tsl true 0 3 l.length),(1,aa a),(4,.fn 6 []),(10,aa i),(11,aa j)],[some (kc l)]⟩=
  some (.exit 0,⟨[(0,.tsl true 0 3 l.length),(1,aa a),(4,.fn 6 []),(10,aa (bs (fun h=>decide (T.cmp (ae l h) (ae l a)<0)) k i j:Nat)),(11,aa (bs (fun h=>decide (T.cmp (ae l h) (ae l a)<0)) k i j:Nat)),(33,ar false)],[some (kc l)]⟩):=by
 have head:∀(i j:Nat),aE 1 [0,1,4,10,11] ⟨[(0,.tsl true 0 3 l.length),(1,aa a),(4,.fn 6 []),(10,aa i),(11,aa j)],[some (kc l)]⟩=some ⟨[(0,.tsl true 0 3 l.length),(1,aa a),(4,.fn 6 []),(10,aa i),(11,aa j)],[some (kc l)]⟩:=fun i j=>by
  simp[aE,aD,eq,fY,fJ]
 have stop:∀i:Nat,bV XV [70,74,122,126] 1 [0,1,4,10,11] nT ⟨[(0,.tsl true 0 3 l.length),(1,aa a),(4,.fn 6 []),(10,aa i),(11,aa i)],[some (kc l)]⟩=
  some (.exit 0,⟨[(0,.tsl true 0 3 l.length),(1,aa a),(4,.fn 6 []),(10,aa i),(11,aa i),(33,ar false)],[some (kc l)]⟩):=fun i=>by
  refine d7 (head _ _) ?_ (by simp);simp[nT]
 intro k
 induction k with
 |zero=>
  intro i j h q hj;have:i=j:=by omega
  subst this;exact stop i
 |succ k e=>
  intro i j h q hj;simp only[bs]
  by_cases c:i<j
  ·rw[ap c]
   obtain⟨m,g,p,o⟩:=tC i j (by omega);have hc:=MR l a ((i+j)/2) hn ha (by omega) hb i j;have hw:=bH (n:=(i+j)/2) (by omega);have b:(i:Int)<j:=by omega
   by_cases d:T.cmp (ae l ((i+j)/2)) (ae l a)<0
   ·rw[ap (by simpa using d)]
    rw[<-e ((i+j)/2+1) j (by omega) (by omega) hj];refine eF (head _ _) ?_;simp only[d,decide_true]at hc;generalize kc l=c0 at hc⊢
    generalize (((i+j)/2+1:Nat):Int)=gv1 at*
    generalize (((i+j)/2:Nat):Int)=gv2 at*
    generalize ((i+j:Nat):Int)=gv3 at*
    generalize (i:Int)=gv4 at*
    generalize (j:Int)=gv5 at*
    simp[nT,b,m,g,p,o,lg];rw[hc];simp[hw]
   ·rw[ak (by simpa using d)]
    rw[<-e i ((i+j)/2) (by omega) (by omega) (by omega)];refine eF (head _ _) ?_;simp only[d,decide_false]at hc;generalize kc l=c0 at hc⊢
    generalize (((i+j)/2+1:Nat):Int)=gv1 at*
    generalize (((i+j)/2:Nat):Int)=gv2 at*
    generalize ((i+j:Nat):Int)=gv3 at*
    generalize (i:Int)=gv4 at*
    generalize (j:Int)=gv5 at*
    simp[nT,b,m,g,p,o,lg];rw[hc];simp
  ·rw[ak c]
   have:i=j:=by omega
   subst this;exact stop i
theorem qIB(l:List T)(a:Nat)(hn:l.length<=1099511627776)(ha:a<l.length)(hb:∀t,t∈l->t.inner<=1099511627776):∀(k i j:Nat),i<=j->j-i<=k->j<=l.length->
 bV XV [70,74,122,126] 1 [0,2,4,14,15] nK ⟨[(0,.tsl true 0 3 l.length),(2,aa a),(4,.fn 6 []),(14,aa i),(15,aa j)],[some (kc l)]⟩=
  some (.exit 4,⟨[(0,.tsl true 0 3 l.length),(2,aa a),(4,.fn 6 []),(14,aa (bs (fun h=> !decide (T.cmp (ae l a) (ae l h)<0)) k i j:Nat)),(15,aa (bs (fun h=> !decide (T.cmp (ae l a) (ae l h)<0)) k i j:Nat)),(85,ar false)],[some (kc l)]⟩):=by
 have head:∀(i j:Nat),aE 1 [0,2,4,14,15] ⟨[(0,.tsl true 0 3 l.length),(2,aa a),(4,.fn 6 []),(14,aa i),(15,aa j)],[some (kc l)]⟩=some ⟨[(0,.tsl true 0 3 l.length),(2,aa a),(4,.fn 6 []),(14,aa i),(15,aa j)],[some (kc l)]⟩:=fun i j=>by
  simp[aE,aD,eq,fY,fJ]
 have stop:∀i:Nat,bV XV [70,74,122,126] 1 [0,2,4,14,15] nK ⟨[(0,.tsl true 0 3 l.length),(2,aa a),(4,.fn 6 []),(14,aa i),(15,aa i)],[some (kc l)]⟩=
  some (.exit 4,⟨[(0,.tsl true 0 3 l.length),(2,aa a),(4,.fn 6 []),(14,aa i),(15,aa i),(85,ar false)],[some (kc l)]⟩):=fun i=>by
  refine d7 (head _ _) ?_ (by simp);simp[nK]
 intro k
 induction k with
 |zero=>
  intro i j h q hj;have:i=j:=by omega
  subst this;exact stop i
 |succ k e=>
  intro i j h q hj;simp only[bs]
  by_cases c:i<j
  ·rw[ap c]
   obtain⟨m,g,p,o⟩:=tC i j (by omega);have hc:=Mn l a ((i+j)/2) hn ha (by omega) hb i j;have hw:=bH (n:=(i+j)/2) (by omega);have b:(i:Int)<j:=by omega
   by_cases d:¬T.cmp (ae l a) (ae l ((i+j)/2))<0
   ·rw[ap (by simpa using d)]
    rw[<-e ((i+j)/2+1) j (by omega) (by omega) hj];refine eF (head _ _) ?_;simp only[d,decide_false,nz]at hc;generalize kc l=c0 at hc⊢
    generalize (((i+j)/2+1:Nat):Int)=gv1 at*
    generalize (((i+j)/2:Nat):Int)=gv2 at*
    generalize ((i+j:Nat):Int)=gv3 at*
    generalize (i:Int)=gv4 at*
    generalize (j:Int)=gv5 at*
    simp[nK,b,m,g,p,o,lg];rw[hc];simp[hw]
   ·rw[ak (by simpa using d)]
    rw[<-e i ((i+j)/2) (by omega) (by omega) (by omega)];refine eF (head _ _) ?_;simp only[Classical.not_not.1 d,decide_true,mb]at hc;generalize kc l=c0 at hc⊢
    generalize (((i+j)/2+1:Nat):Int)=gv1 at*
    generalize (((i+j)/2:Nat):Int)=gv2 at*
    generalize ((i+j:Nat):Int)=gv3 at*
    generalize (i:Int)=gv4 at*
    generalize (j:Int)=gv5 at*
    simp[nK,b,m,g,p,o,lg];rw[hc];simp
  ·rw[ak c]
   have:i=j:=by omega
   subst this;exact stop i
theorem YY(l:List T)(p:Nat)(g m e b a:Int)(hn:l.length<=1099511627776)(s:p<=4398046511104)(hb:∀t,t∈l->t.inner<=1099511627776):∀(k i j:Nat),i<=j->j-i<=k->j<=l.length->(∀c,i<=c->c<j->c<=p/\p-c<l.length)->
 bV XV [70,74,122,126] 1 [0,1,2,3,4,18,19,20,21,22] j_ ⟨[(0,.tsl true 0 3 l.length),(1,aa g),(2,aa m),(3,aa e),(4,.fn 6 []),(18,aa b),(19,aa a),(20,aa i),(21,aa j),(22,aa p)],[some (kc l)]⟩=
  some (.exit 8,⟨[(0,.tsl true 0 3 l.length),(1,aa g),(2,aa m),(3,aa e),(4,.fn 6 []),(18,aa b),(19,aa a),(20,aa (bs (fun c=> !decide (T.cmp (ae l (p-c)) (ae l c)<0)) k i j:Nat)),(21,aa (bs (fun c=> !decide (T.cmp (ae l (p-c)) (ae l c)<0)) k i j:Nat)),(22,aa p),(151,ar false)],[some (kc l)]⟩):=by
 have head:∀(i j:Nat),aE 1 [0,1,2,3,4,18,19,20,21,22] ⟨[(0,.tsl true 0 3 l.length),(1,aa g),(2,aa m),(3,aa e),(4,.fn 6 []),(18,aa b),(19,aa a),(20,aa i),(21,aa j),(22,aa p)],[some (kc l)]⟩=some ⟨[(0,.tsl true 0 3 l.length),(1,aa g),(2,aa m),(3,aa e),(4,.fn 6 []),(18,aa b),(19,aa a),(20,aa i),(21,aa j),(22,aa p)],[some (kc l)]⟩:=fun i j=>by
  simp[aE,aD,eq,fY,fJ]
 have stop:∀i:Nat,bV XV [70,74,122,126] 1 [0,1,2,3,4,18,19,20,21,22] j_ ⟨[(0,.tsl true 0 3 l.length),(1,aa g),(2,aa m),(3,aa e),(4,.fn 6 []),(18,aa b),(19,aa a),(20,aa i),(21,aa i),(22,aa p)],[some (kc l)]⟩=
  some (.exit 8,⟨[(0,.tsl true 0 3 l.length),(1,aa g),(2,aa m),(3,aa e),(4,.fn 6 []),(18,aa b),(19,aa a),(20,aa i),(21,aa i),(22,aa p),(151,ar false)],[some (kc l)]⟩):=fun i=>by
  refine d7 (head _ _) ?_ (by simp);simp[j_]
 intro k
 induction k with
 |zero=>
  intro i j h D hj q;have:i=j:=by omega
  subst this;exact stop i
 |succ k u=>
  intro i j h D hj q;simp only[bs]
  by_cases o:i<j
  ·rw[ap o]
   obtain⟨y,w,C,z⟩:=tC i j (by omega);have hc:=Vd l p ((i+j)/2) hn (q _ (by omega) (by omega)).1 (q _ (by omega) (by omega)).2 (by omega) s hb g m e b a i j;have hw:=bH (n:=(i+j)/2) (by omega);have d:(i:Int)<j:=by omega
   by_cases r:¬T.cmp (ae l (p-(i+j)/2)) (ae l ((i+j)/2))<0
   ·rw[ap (by simpa using r)]
    rw[<-u ((i+j)/2+1) j (by omega) (by omega) hj (fun c h1 x=>q c (by omega) x)];refine eF (head _ _) ?_;simp only[r,decide_false,nz]at hc;generalize kc l=c0 at hc⊢
    generalize (((i+j)/2+1:Nat):Int)=gv1 at*
    generalize (((i+j)/2:Nat):Int)=gv2 at*
    generalize ((i+j:Nat):Int)=gv3 at*
    generalize (i:Int)=gv4 at*
    generalize (j:Int)=gv5 at*
    simp[j_,d,y,w,C,z,lg];rw[hc];simp[hw]
   ·rw[ak (by simpa using r)]
    rw[<-u i ((i+j)/2) (by omega) (by omega) (by omega) (fun c h1 x=>q c h1 (by omega))];refine eF (head _ _) ?_;simp only[Classical.not_not.1 r,decide_true,mb]at hc;generalize kc l=c0 at hc⊢
    generalize (((i+j)/2+1:Nat):Int)=gv1 at*
    generalize (((i+j)/2:Nat):Int)=gv2 at*
    generalize ((i+j:Nat):Int)=gv3 at*
    generalize (i:Int)=gv4 at*
    generalize (j:Int)=gv5 at*
    simp[j_,d,y,w,C,z,lg];rw[hc];simp
  ·rw[ak o]
   have:i=j:=by omega
   subst this;exact stop i
theorem right_step(A Y Z:List T)(x:T)(s:Nat)(hs:s<Y.length):swp (A++Y.take s++x::(Y.drop s++Z)) (A.length+s+1) (A.length+s)=A++Y.take (s+1)++x::(Y.drop (s+1)++Z):=by
 have a:(A++Y.take s).length=A.length+s:=by simp;omega
 rw[<-List.take_append_getElem hs,cW hs,HH _ _ _ (by omega),<-a];have:=yd (A++Y.take s) [] (Y.drop (s+1)++Z) x Y[s] ((A++Y.take s).length+1) rfl;simp only[dj]at this;rw[show Y[s]::Y.drop (s+1)++Z=Y[s]::(Y.drop (s+1)++Z)from rfl,this];simp only[b7,cP,dj]
theorem L8(A Y Z:List T)(x:T)(N a:Nat)(i:A.length=a)(j:(A++x::(Y++Z)).length=N)(hn:N<=1099511627776):
 bV XV [70,74,122,126] 1 [0,10,13] qA ⟨[(0,.tsl true 0 3 N),(10,aa (a+1+Y.length:Nat)),(13,aa a)],[some (kc (A++x::(Y++Z)))]⟩=
  some (.exit 2,⟨[(0,.tsl true 0 3 N),(10,aa (a+1+Y.length:Nat)),(13,aa (a+Y.length:Nat)),(58,ar false)],[some (kc (A++Y++x::Z))]⟩):=by
 have k:A.length+1+Y.length+Z.length=N:=by rw[<-j];simp;omega
 have hlen:∀s,(A++Y.take s++x::(Y.drop s++Z)).length=N:=fun s=>by simp;omega
 have d:IntKind.i64.wrap (((a+1+Y.length:Nat):Int)-1)=((a+Y.length:Nat):Int):=by rw[wrap_i64 (by omega) (by omega)];omega
 have h:=cg (X:=XV) (T:=[70,74,122,126]) (L:=1) (live:=[0,10,13]) (b:=qA) (n:=Y.length) (γ:=Unit) (st:=fun(_:Unit) s=>⟨[(0,.tsl true 0 3 N),(10,aa (a+1+Y.length:Nat)),(13,aa (a+s:Nat))],[some (kc (A++Y.take s++x::(Y.drop s++Z)))]⟩) (step:=fun _ _=> .inl ())
  (F:=fun _=>(.exit 2,⟨[(0,.tsl true 0 3 N),(10,aa (a+1+Y.length:Nat)),(13,aa (a+Y.length:Nat)),(58,ar false)],[some (kc (A++Y.take Y.length++x::(Y.drop Y.length++Z)))]⟩)) (R:=fun _=>(.ret,⟨[],[]⟩))
  (fun _=>⟨by simp,by
   generalize ((a+1+Y.length:Nat):Int)=gv1 at*
   generalize ((a+Y.length:Nat):Int)=gv2 at*
   simp[qA,d]⟩)
  (fun _ s hs=>by
   have c:=TN (A++Y.take s++x::(Y.drop s++Z)) (a+s) (by rw[hlen];exact hn) (by rw[hlen];omega) (a+1+Y.length:Nat);rw[<-i,right_step A Y Z x s hs,i,hlen]at c;have hw:=bH (n:=a+s) (by omega);have g:((a+s:Nat):Int)<((a+Y.length:Nat):Int):=by omega
   generalize e:kc (A++Y.take (s+1)++x::(Y.drop (s+1)++Z))=c2 at c;generalize kc (A++Y.take s++x::(Y.drop s++Z))=c1 at c⊢
   exact⟨⟨[(0,.tsl true 0 3 N),(10,aa (a+1+Y.length:Nat)),(13,aa (a+s+1:Nat))],[some c2]⟩,by
    generalize ((a+s+1:Nat):Int)=gv3 at*
    generalize ((a+s:Nat):Int)=gv4 at*
    generalize ((a+1+Y.length:Nat):Int)=gv1 at*
    generalize ((a+Y.length:Nat):Int)=gv2 at*
    simp[qA,d,g];rw[c];simp[hw],by rw[<-e];simp[aE,aD,eq];omega⟩)
  Y.length () 0 ⟨[(0,.tsl true 0 3 N),(10,aa (a+1+Y.length:Nat)),(13,aa a)],[some (kc (A++x::(Y++Z)))]⟩ (by omega) (by simp[aE,aD,eq])
 rw[oI,fR,C3,dj]at h;exact h
theorem left_step(A X Z:List T)(y:T)(n:Nat)(hn:n<X.length):swp (A++X.take (n+1)++y::(X.drop (n+1)++Z)) (A.length+n) (A.length+n+1)=A++X.take n++y::(X.drop n++Z):=by
 have a:(A++X.take n).length=A.length+n:=by simp;omega
 rw[<-List.take_append_getElem hn,cW hn,<-a];have:=yd (A++X.take n) [] (X.drop (n+1)++Z) X[n] y ((A++X.take n).length+1) rfl;simp only[dj]at this;rw[show A++(X.take n++[X[n]])++y::(X.drop (n+1)++Z)=A++X.take n++X[n]::y::(X.drop (n+1)++Z)by simp only[b7,cP,dj],this];simp only[b7,cP]
theorem Uy(A X Z:List T)(y:T)(N a:Nat)(j:A.length=a)(k:(A++X++y::Z).length=N)(hn:N<=1099511627776):
 bV XV [70,74,122,126] 1 [0,14,17] pH ⟨[(0,.tsl true 0 3 N),(14,aa a),(17,aa (a+X.length:Nat))],[some (kc (A++X++y::Z))]⟩=
  some (.exit 6,⟨[(0,.tsl true 0 3 N),(14,aa a),(17,aa a),(110,ar false)],[some (kc (A++y::(X++Z)))]⟩):=by
 have l:A.length+X.length+(Z.length+1)=N:=by rw[<-k];simp;omega
 have hlen:∀s,(A++X.take s++y::(X.drop s++Z)).length=N:=fun s=>by simp;omega
 have h:=cg (X:=XV) (T:=[70,74,122,126]) (L:=1) (live:=[0,14,17]) (b:=pH) (n:=X.length) (γ:=Unit) (st:=fun(_:Unit) s=>⟨[(0,.tsl true 0 3 N),(14,aa a),(17,aa (a+(X.length-s):Nat))],[some (kc (A++X.take (X.length-s)++y::(X.drop (X.length-s)++Z)))]⟩) (step:=fun _ _=> .inl ())
  (F:=fun _=>(.exit 6,⟨[(0,.tsl true 0 3 N),(14,aa a),(17,aa a),(110,ar false)],[some (kc (A++X.take 0++y::(X.drop 0++Z)))]⟩)) (R:=fun _=>(.ret,⟨[],[]⟩))
  (fun _=>⟨by simp,by
   rw[mq,oM];simp[pH]⟩)
  (fun _ s hs=>by
   obtain⟨n,d⟩:∃n,X.length-s=n+1:=⟨X.length-s-1,by omega⟩;have i:X.length-(s+1)=n:=by omega
   have c:=WI (A++X.take (n+1)++y::(X.drop (n+1)++Z)) (a+n) (by rw[hlen];exact hn) (by rw[hlen];omega) a;rw[<-j,left_step A X Z y n (by omega),j,hlen]at c;have hw:IntKind.i64.wrap (((a+n+1:Nat):Int)-1)=((a+n:Nat):Int):=by rw[wrap_i64 (by omega) (by omega)];omega
   have g:(a:Int)<((a+n+1:Nat):Int):=by omega
   rw[d,show a+(n+1)=a+n+1 by omega];generalize e:kc (A++X.take n++y::(X.drop n++Z))=c2 at c;generalize kc (A++X.take (n+1)++y::(X.drop (n+1)++Z))=c1 at c⊢
   exact⟨⟨[(0,.tsl true 0 3 N),(14,aa a),(17,aa (a+n:Nat))],[some c2]⟩,by
    generalize ((a+n+1:Nat):Int)=gv3 at*
    generalize ((a+n:Nat):Int)=gv4 at*
    simp[pH,g];rw[c];simp[hw],by rw[<-e];simp[aE,aD,eq,i]⟩)
  X.length () 0 ⟨[(0,.tsl true 0 3 N),(14,aa a),(17,aa (a+X.length:Nat))],[some (kc (A++X++y::Z))]⟩ (by omega) (by simp[aE,aD,eq])
 rw[oI]at h;simpa using h
theorem QK{S:List T}(h:bW S){p:T}(b:p∈S):∃s,S.getLast?=some s/\c8 p s:=by
 have a:S≠[]:=fun he=>by rw[he]at b;simp at b
 refine⟨S.getLast a,Gr a,?_⟩
 by_cases he:p=S.getLast a
 ·rw[he];exact GX _
 ·have hd:p∈S.dropLast:=by
   have:=qP a;rw[<-this]at b;rcases bl.1 b with h|h
   ·exact h
   ·simp at h;exact absurd h he
  have c:(S.dropLast++[S.getLast a]).Pairwise c8:=by rw[qP];exact h
  exact(iE.1 c).2.2 p hd _ (by simp)
theorem Mi{S:List T}(h:bW S){p:T}(a:p∈S):∃s,S.head?=some s/\c8 s p:=by
 cases S with
 |nil=>simp at a
 |cons x r=>
  refine⟨x,rfl,?_⟩;rcases br.1 a with rfl|a
  ·exact GX _
  ·exact(gC.1 h).1 p a
theorem tF{S R:List T}(i:bW S)(g:bW R)(h:∀s r,S.getLast?=some s->R.head?=some r->c8 s r):∀p,p∈S->∀q,q∈R->c8 p q:=by
 intro p d q c;obtain⟨s,h1,b⟩:=QK i d;obtain⟨r,e,a⟩:=Mi g c;exact pt (pt b (h s r h1 e)) a
theorem KL{b d:List T}{x:T}(h:bW (b++d))(h1:∀s,b.getLast?=some s->c8 s x)(i:∀s,d.head?=some s->c8 x s):bW (b++x::d):=by
 obtain⟨e,p2,p3⟩:=iE.1 h;have c1:=tF (S:=b) (R:=[x]) e (qc _ _) (fun s r hs c=>by simp at c;subst c;exact h1 s hs);have c2:=tF (S:=[x]) (R:=d) (qc _ _) p2 (fun s r hs c=>by simp at hs;subst hs;exact i r c);refine iE.2 ⟨e,gC.2 ⟨fun q a=>c2 x (by simp) q a,p2⟩,fun p g q a=> ?_⟩;rcases br.1 a with rfl|a
 ·exact c1 p g _ (by simp)
 ·exact p3 p g q a
theorem vJ(A X R:List T)(q:Nat)(a:q<X.length):ae (A++X++R) (A.length+q)=ae X q:=by
 unfold ae;rw[b7,cj (by omega),Nat.add_sub_cancel_left,bY a]
theorem um{X:List T}{t:Nat}{s:T}(b:t<=X.length)(h:(X.take t).getLast?=some s):0<t/\s=ae X (t-1):=by
 rw[List.getLast?_eq_getElem?,sk,tK b]at h;have a:=(aK.1 h).1;simp at a;rw[ew]at h;split at h
 ·exact⟨by omega,by simp[ae,h]⟩
 ·simp at h
theorem yq{X:List T}{t:Nat}{s:T}(h:(X.drop t).head?=some s):t<X.length/\s=ae X t:=by
 rw[List.head?_drop]at h;exact⟨(aK.1 h).1,by simp[ae,h]⟩
theorem X5(A Y Z:List T)(x:T)(a m b N:Nat)(ha:a=A.length)(hm:m=a+1)(hb:b=m+Y.length)(k:N=(A++x::(Y++Z)).length)(hn:N<=1099511627776)(o:∀t,t∈A++x::(Y++Z)->t.inner<=1099511627776)(z:bW Y):
 ∃W:List T,W.Perm (x::Y)/\bW W/\al XV 173 [.tsl true 0 3 N,aa a,aa m,aa b,.fn 6 []] [some (kc (A++x::(Y++Z)))]=some (.d (.tup []),[some (kc (A++W++Z))]):=by
 have F:A.length+1+Y.length+Z.length=N:=by rw[k];simp;omega
 have e:=PL (A++x::(Y++Z)) a (by rw[<-k];exact hn) (by rw[<-k];omega) o Y.length m b (by omega) (by omega) (by rw[<-k];omega);have w:ae (A++x::(Y++Z)) a=x:=tz _ _ _ _ ha;have n:∀q,q<Y.length->ae (A++x::(Y++Z)) (m+q)=ae Y q:=fun q C=>by
  have:=vJ (A++[x]) Y Z q C;simp only[dz,cB,h_,b7,cP,dj]at this;rw[hm,ha];exact this
 obtain⟨s1,s2,j,i⟩:=rU (fun h=>decide (T.cmp (ae (A++x::(Y++Z)) h) (ae (A++x::(Y++Z)) a)<0)) Y.length m b (by omega) (by omega);generalize bs (fun h=>decide (T.cmp (ae (A++x::(Y++Z)) h) (ae (A++x::(Y++Z)) a)<0)) Y.length m b=r at e s1 s2 j i;rw[w]at j i;obtain⟨t,rfl⟩:∃t,r=m+t:=⟨r-m,by omega⟩;have p:t<=Y.length:=by omega
 have c:Y.take t++Y.drop t=Y:=du _ _;have y:(Y.take t).length=t:=by simp;omega
 have g:=L8 A (Y.take t) (Y.drop t++Z) x N a ha.symm (by rw[k,<-b7 (Y.take t),c]) hn;rw[<-b7 (Y.take t),c,y,show a+1+t=m+t by omega]at g;refine⟨Y.take t++x::Y.drop t,?_,KL (by rw[c];exact z) (fun s hs=> ?_) (fun s hs=> ?_),?_⟩
 ·refine mD.trans ?_
  rw[c]
 ·obtain⟨h1,u⟩:=um p hs
  rcases j with j|j
  ·omega
  ·rw[show m+t-1=m+(t-1)by omega,n _ (by omega)]at j
   rw[u];exact nj (by simpa using j)
 ·obtain⟨h1,u⟩:=yq hs
  rcases i with i|i
  ·omega
  ·rw[n _ h1]at i
   rw[u];exact oW (by simpa using i)
 ·have l:A++(Y.take t++x::Y.drop t)++Z=A++Y.take t++x::(Y.drop t++Z):=by simp only[b7,cP]
  rw[l];rw[aJ 173 lh rfl];rw[<-k]at e;have D:IntKind.i64.wrap ((m:Int)-a)=1:=by rw[wrap_i64 (by omega) (by omega)];omega
  generalize kc (A++Y.take t++x::(Y.drop t++Z))=c2 at g⊢
  generalize kc (A++x::(Y++Z))=c1 at e g⊢
  generalize ((m+t:Nat):Int)=gv1 at*
  generalize ((a+t:Nat):Int)=gv2 at*
  simp[lh,rl,D];rw[e];simp[GN];rw[g];simp
end Go.Proofs.YtpcoohnjllclnaaGreat.VS
