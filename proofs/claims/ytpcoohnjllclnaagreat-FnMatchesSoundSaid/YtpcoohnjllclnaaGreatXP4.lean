/- Contracts of the program's functions on the evaluator without names, and plain lemmas: part 4. -/
import Derived.Test.YtpcoohnjllclnaaGreatXP3
set_option linter.unusedSimpArgs false
set_option linter.unusedVariables false
namespace Go.Proofs.YtpcoohnjllclnaaGreat.VS
def IsV(d:DV)(a:T):Prop:=∃(g:Tag) (X:al),d= .agg [.int .i64 a.f,.int .i64 a.v,.sl g X]/\X.map DV.clr=a.kids.map (T.enc .sub)
theorem AX(s:aF)(t:T):IsV (nM s t) (t.norm s):=⟨U,gI s t,by rw[jR,El,EZ],HZ s t⟩
theorem sK(g:Tag)(t:T):IsV (t.enc g) t:=⟨g,t.kids.map (T.enc g),by rw[T.qbD],kn g _⟩
theorem qGa(ks:ah)(q:bw ks<=1099511627776):ap XV 197 [.d (ai .sub ks)] []=some (.d (ai U ks),[]):=by
 have h:=ip ks;have hc:∀t,t∈ks->ap XV 146 [.d (t.enc .sub)] []=some (.d (t.enc U),[]):=fun t o=>uD t (by have:=fX o;omega)
 rw[aN 197 yW rfl];have a:=cd (X:=XV) (T:=XV.lin 197) (L:=0) (live:=[0,3,4]) (b:=w8) (n:=ks.length) (γ:=Unit) (st:=fun(_:Unit) i=>⟨[(0,.d (ai .sub ks)),(3,.d (.sl U ((ks.take i).map (T.enc U)))),(4,aa i)],[]⟩) (step:=fun _ _=> .inl ())
  (F:=fun _=>(.exit 0,⟨[(0,.d (ai .sub ks)),(3,.d (.sl U ((ks.take ks.length).map (T.enc U)))),(4,aa ks.length),(9,ax false)],[]⟩)) (R:=fun _=>(.ret,⟨[],[]⟩))
  (fun _=>⟨by simp,by simp[w8]⟩)
  (fun _ i hi=>by
   have m:=bE (n:=i) (by omega);have g:=hc _ (bV hi);have e:=E6 ks i hi (by omega);generalize c:(ks.take (i+1)).map (T.enc U)=l2 at e;generalize (ks.take i).map (T.enc U)=l1 at e⊢
   exact⟨⟨[(0,.d (ai .sub ks)),(3,.d (.sl U l2)),(4,aa (i+1:Nat))],[]⟩,by simp[w8,hi,m,cut,bg hi,g,e,aW,ba],by simp[aJ,aG,<-c]⟩)
  ks.length () 0 ⟨[(0,.d (ai .sub ks)),(3,.d (.sl U [])),(4,aa 0)],[]⟩ (by omega) (by simp[aJ,aG])
 rw[kD,fG]at a;simp only[Zo]at a;simp[yW];rw[a];simp[Mv]
theorem qQY(f:Int)(ks:ah):ap XV 164 [aa f,.d (ai .sub ks)] []=some (.d ((T.node f 0 ks).enc .sub),[]):=by rw[aN 164 qI rfl];simp[qI,splice,aW,ba,bh,bd,aP]
def cU(s:aF)(f:Int)(ks:ah):T:=
 if bI s f=true/\ks.length=0 then .node 0 0 []
 else if bI s f=true/\ks.length=1 then(aj ks 0).norm s
 else if dS s f=true then(T.node f 0 ks).norm s else .node f 0 ks
theorem Lq(s:aF)(f:Int)(ks:ah):(cU s f ks).inner<=bw ks:=by
 unfold cU;split
 ·simp[T.inner,T.inners]
 ·split
  ·rename_i h
   have b:=mA s (aj ks 0);have a:=fX (bV (l:=ks) (i:=0) (by omega));omega
  ·split
   ·have:=mA s (T.node f 0 ks);rw[T.qbN]at this;exact this
   ·rw[T.qbN];omega
theorem Kg(g:Tag):(T.node 0 0 []).enc g= .agg [.int .i64 0,.int .i64 0,.sl g []]:=by rw[T.qbD];rfl
theorem O1(s:aF)(r:s.length<=1099511627776)(f:Int)(ks:ah)(D:bw ks<=1099511627776):ap XV 192 [.d (sg s),aa f,.d (ai .sub ks)] []=some (.d ((cU s f ks).enc U),[]):=by
 have b:=FF s r f;have o:=YQ ks D;have C:=Bp s r (T.node f 0 ks) (by rw[T.qbN];exact D);rw[aN 192 l9 rfl];unfold cU
 by_cases c1:dS s f=true
 ·obtain⟨g1,g2⟩:=kO c1
  have c:=cB g2;have e:bI s f=(aZ s f.toNat).ac:=by unfold bI;rw[c1];rfl
  rw[e];cases c2:(aZ s f.toNat).ac with
  |false=>
   simp only[bL,As,if_false,c1,if_true];generalize (T.node f 0 ks).norm s=a at*
   simp[l9,b,c1,c2,g1,g2,c,cut,C,splice,aW,ba,bh,bd,aP]
  |true=>
   simp only[j6]
   by_cases F:ks.length=0
   ·rw[aw F]
    have y:(ks.length:Int)=0:=by omega
    generalize g:(ks.length:Int)=m at*
    rw[Kg];simp[l9,b,c1,c2,g1,g2,c,g,y,cut,splice,aW,ba,bh,bd,aP]
   ·rw[au F]
    by_cases z:ks.length=1
    ·rw[aw z]
     have w:0<ks.length:=by omega
     have q:=Bp s r (aj ks 0) (by have:=fX (bV w);omega);have G:ks[0]=aj ks 0:=bg w;have n:(ks.length:Int)=1:=by omega
     generalize (aj ks 0).norm s=a at*
     generalize g:(ks.length:Int)=m at*
     simp[l9,b,c1,c2,g1,g2,c,g,n,w,cut,q,G,splice,aW,ba,bh,bd,aP]
    ·rw[au z,aw c1]
     have e3:((ks.length:Int)==0)=false:=md (by omega);have H:((ks.length:Int)==1)=false:=md (by omega);generalize (T.node f 0 ks).norm s=a at*
     generalize g:(ks.length:Int)=m at*
     simp[l9,b,c1,c2,g1,g2,c,g,e3,H,cut,C,splice,aW,ba,bh,bd,aP]
 ·have e:bI s f=false:=by unfold bI;simp[c1]
  have h:dS s f=false:=by simpa using c1
  simp only[e,bL,As,if_false,h];simp only[ai]at*
  rw[T.qbD];simp[l9,b,h,o,splice,aW,ba,bh,bd,aP]
theorem IsV.clr{d:DV}{a:T}(h:IsV d a):d.clr=a.enc .sub:=by obtain⟨g,X,rfl,b⟩:=h;simp only[DV.clr,DV.clrs];rw[DV.qaw,b,T.qbD]
theorem U3(s:aF)(r:s.length<=1099511627776)(f:Int)(ks:ah)(C:bw ks<=1099511627776):∃d,ap XV 193 [.d (sg s),aa f,.d (ai .sub ks)] []=some (.d d,[])/\IsV d (cU s f ks):=by
 have c:=uO s r f;have a:=nS f 0 (s.length-1);have q:=qGa ks C;have n:=qQY f ks;have g:=pG s r (T.node f 0 ks) (by rw[T.qbN];exact C);have h:IntKind.i64.wrap ((s.length:Int)-1)=s.length-1:=wrap_i64 (by omega) (by omega);rw[aN 193 mX rfl];unfold cU;cases c2:bI s f with
 |false=>
  simp only[bL,As,if_false];cases c1:dS s f with
  |true=>
   simp only[if_true];refine⟨_,?_,AX s _⟩;rw[jR]at g⊢
   generalize gI s (T.node f 0 ks)=X at*
   rw[show dA f 0 (s.length-1)=true from c1]at a;simp[mX,c,c2,h,a,n,g,splice,aW,ba,bh,bd,aP]
  |false=>simp only[bL,if_false];refine⟨_,?_,sK .sub _⟩;rw[show dA f 0 (s.length-1)=false from c1]at a;simp[mX,c,c2,h,a,n,q,splice,aW,ba,bh,bd,aP]
 |true=>
  have c1:dS s f=true:=by unfold bI at c2;simp only[aQ]at c2;exact c2.1
  simp only[j6]
  by_cases D:ks.length=0
  ·rw[aw D]
   have y:(ks.length:Int)=0:=by omega
   generalize e:(ks.length:Int)=m at*
   refine⟨_,?_,sK U _⟩;rw[Kg];simp[mX,c,c2,e,y,splice,aW,ba,bh,bd,aP]
  ·rw[au D]
   by_cases z:ks.length=1
   ·rw[aw z]
    have w:0<ks.length:=by omega
    have b:=pG s r (aj ks 0) (by have:=fX (bV w);omega);have F:ks[0]=aj ks 0:=bg w;have o:(ks.length:Int)=1:=by omega
    refine⟨_,?_,AX s _⟩;rw[jR]at b⊢
    generalize gI s (aj ks 0)=X at*
    generalize e:(ks.length:Int)=m at*
    simp[mX,c,c2,e,o,w,cut,b,F,splice,aW,ba,bh,bd,aP]
   ·rw[au z,aw c1]
    have e3:((ks.length:Int)==0)=false:=md (by omega);have G:((ks.length:Int)==1)=false:=md (by omega);refine⟨_,?_,AX s _⟩;rw[jR]at g⊢
    generalize gI s (T.node f 0 ks)=X at*
    rw[show dA f 0 (s.length-1)=true from c1]at a;generalize e:(ks.length:Int)=m at*
    simp[mX,c,c2,h,a,n,g,e,e3,G,splice,aW,ba,bh,bd,aP]
mutual
def cS(u:aB):T->T
 | .node f v ks=>if f= -1/\ks.length=0 then fB u v else .node f v (dj u ks)
def dj(u:aB):ah->ah
 | []=>[]
 |t::r=>cS u t::dj u r
end
theorem lA(u:aB):∀l:ah,dj u l=l.map (cS u)
 | []=>by simp[dj]
 |t::r=>by simp[dj,lA u r]
theorem qFU(u:aB)(n:Int)(M:Nat)(a:∀i,i<u.length->(aH u i).t.inner<=M):(fB u n).inner<=M:=by
 unfold fB;split
 ·rename_i i h
  unfold cW at h;exact a i (by have:=(eQ _ _ _ _ h).2.1;omega)
 ·simp[T.inner,T.inners]
mutual
theorem EB(u:aB)(M:Nat)(a:∀i,i<u.length->(aH u i).t.inner<=M):∀t:T,(cS u t).inner+1<=(t.inner+1)*(M+1)
 | .node f v ks=>by
  have h:=MB u M a ks;simp only[cS];split
  ·have:=qFU u v M a
   have b:(M+1)<=((T.node f v ks).inner+1)*(M+1):=Nat.le_mul_of_pos_left _ (by omega);omega
  ·rw[T.qbN,T.qbN,dF]
   omega
theorem MB(u:aB)(M:Nat)(a:∀i,i<u.length->(aH u i).t.inner<=M):∀l:ah,bw (dj u l)<=bw l*(M+1)
 | []=>by simp[dj,bw,T.inners]
 |t::r=>by
  have c:=EB u M a t;have b:=MB u M a r;simp only[dj,dZ,dF]at*
  omega
end
theorem SD(u:aB)(H:u.length<=1099511627776)(D:∀i,i<u.length->(aH u i).t.inner<=1099511627776)(f v:Int)(ks:ah)(M:ks.length<=1099511627776)
 (hc:∀t,t∈ks->ap XV 168 [.d (binds .sub u),.d (t.enc .sub)] []=some (.d ((cS u t).enc U),[])):
 ap XV 168 [.d (binds .sub u),.d ((T.node f v ks).enc .sub)] []=some (.d ((cS u (.node f v ks)).enc U),[]):=by
 rw[aN 168 oF rfl];have h:=jl (T.node f v ks)
 by_cases g:f= -1/\ks.length=0
 ·obtain⟨rfl,K⟩:=g
  have q:ks=[]:=jX.1 K;subst q;have C:=quQ u v H D;simp only[cS,iL,re,if_true];generalize fB u v=a at*
  simp[oF,h,C,splice,aW,ba,bh,bd,aP]
 ·have y:((f== -1)&&((ks.length:Int)==0))=false:=by
   rw[NI]
   by_cases J:f= -1
   ·right;exact md (by omega)
   ·left;exact md J
  simp only[cS,au g];have o:∀i,i<ks.length->cK 3 40 (.sl U ((dj u (ks.take i)).map (T.enc U))) (.sl U [(cS u (aj ks i)).enc U])=some (.sl U ((dj u (ks.take (i+1))).map (T.enc U))):=fun i hi=>by have:=pp (dj u (ks.take i)) [cS u (aj ks i)] U (by rw[lA];simp;omega);rw[qs ks i hi,lA u (_++_),c6,<-lA];exact this
  have c:=cd (X:=XV) (T:=XV.lin 168) (L:=2) (live:=[0,3,4,5,22,23,24]) (b:=yx) (n:=ks.length) (γ:=Unit) (st:=fun(_:Unit) i=>⟨[(0,.d (binds .sub u)),(3,.ptr 0 0),(4,.ptr 1 0),(5,.d (.sl U ((dj u (ks.take i)).map (T.enc U)))),(22,.d (ai .sub ks)),(23,aa ks.length),(24,aa i)],nB f v ks⟩) (step:=fun _ _=> .inl ())
   (F:=fun _=>(.exit 0,⟨[(0,.d (binds .sub u)),(3,.ptr 0 0),(4,.ptr 1 0),(5,.d (.sl U ((dj u (ks.take ks.length)).map (T.enc U)))),(22,.d (ai .sub ks)),(23,aa ks.length),(24,aa ks.length),(25,ax false)],nB f v ks⟩)) (R:=fun _=>(.ret,⟨[],[]⟩))
   (fun _=>⟨by simp,by simp[yx]⟩)
   (fun _ i hi=>by
    have G:=bE (n:=i) (by omega);have z:=hc _ (bV hi);have w:=o i hi;generalize r:(dj u (ks.take (i+1))).map (T.enc U)=l2 at w;generalize (dj u (ks.take i)).map (T.enc U)=l1 at w⊢
    generalize cS u (aj ks i)=a at*
    exact⟨⟨[(0,.d (binds .sub u)),(3,.ptr 0 0),(4,.ptr 1 0),(5,.d (.sl U l2)),(22,.d (ai .sub ks)),(23,aa ks.length),(24,aa (i+1:Nat))],nB f v ks++[some [aa (aj ks i).f,aa (aj ks i).v,.d (ai .sub (aj ks i).kids)]]⟩,by simp[yx,nB,hi,G,cut,bg hi,z,w,splice,aW,ba,bh,bd,aP],
     gi (e:=[some [aa (aj ks i).f,aa (aj ks i).v,.d (ai .sub (aj ks i).kids)]]) (by simp[<-r]) (by simp[aG]) (by simp[nB]) rfl⟩)
   ks.length () 0 ⟨[(0,.d (binds .sub u)),(3,.ptr 0 0),(4,.ptr 1 0),(5,.d (.sl U [])),(22,.d (ai .sub ks)),(23,aa ks.length),(24,aa 0)],nB f v ks⟩ (by omega) (gi (e:=[]) (by simp[dj]) (by simp[aG]) (by simp[nB]) (by simp))
  rw[kD,fG]at c;simp only[VA,nB]at c;have m:(T.node f v (dj u ks)).enc U= .agg [.int .i64 f,.int .i64 v,.sl U ((dj u ks).map (T.enc U))]:=by rw[T.qbD];rfl
  rw[m];generalize (dj u ks).map (T.enc U)=R at*
  simp only[T.qaO]at h;cases hf:(f== -1)with
  |false=>rw[hf]at h;simp[oF,h,aW,ba,bh,bd,aP];rw[c];simp[splice,aW,ba,bh,bd,aP]
  |true=>
   rw[hf]at h y;simp only[fh]at y;generalize I:(ks.length:Int)=n at*
   simp[oF,h,y,I,aW,ba,bh,bd,aP];rw[c];simp[splice,aW,ba,bh,bd,aP]
theorem Jg(u:aB)(c:u.length<=1099511627776)(b:∀i,i<u.length->(aH u i).t.inner<=1099511627776)(t:T)(a:t.inner<=1099511627776):ap XV 168 [.d (binds .sub u),.d (t.enc .sub)] []=some (.d ((cS u t).enc U),[]):=by
 match t,a with
 | .node f v ks,a=>rw[T.qbN]at a;exact SD u c b f v ks (by have:=ip ks;omega) fun x e=>Jg u c b x (by have:=fX e;omega)
termination_by t
decreasing_by
 simp_wf
 have:=gM e;omega
theorem Wb(u:aB)(G:u.length<=1099511627776)(C:∀i,i<u.length->(aH u i).t.inner<=1099511627776)(f v:Int)(ks:ah)(K:ks.length<=1099511627776)
 (hc:∀t,t∈ks->ap XV 152 [.d (binds .sub u),.d (t.enc .sub)] []=some (.d ((cS u t).enc U),[])):
 ap XV 152 [.d (binds .sub u),.d ((T.node f v ks).enc .sub)] []=some (.d ((cS u (.node f v ks)).enc U),[]):=by
 rw[aN 152 oJ rfl]
 by_cases g:f= -1/\ks.length=0
 ·obtain⟨rfl,J⟩:=g
  have o:ks=[]:=jX.1 J;subst o;have z:=vV u v G C;simp only[cS,iL,re,if_true];generalize fB u v=a at*
  simp[oJ,z,splice,aW,ba,bh,bd,aP]
 ·have w:((f== -1)&&((ks.length:Int)==0))=false:=by
   rw[NI]
   by_cases I:f= -1
   ·right;exact md (by omega)
   ·left;exact md I
  simp only[cS,au g];have m:∀i,i<ks.length->cK 3 40 (.sl U ((dj u (ks.take i)).map (T.enc U))) (.sl U [(cS u (aj ks i)).enc U])=some (.sl U ((dj u (ks.take (i+1))).map (T.enc U))):=fun i hi=>by have:=pp (dj u (ks.take i)) [cS u (aj ks i)] U (by rw[lA];simp;omega);rw[qs ks i hi,lA u (_++_),c6,<-lA];exact this
  have c:=cd (X:=XV) (T:=XV.lin 152) (L:=3) (live:=[0,3,4,5,6]) (b:=yN) (n:=ks.length) (γ:=Unit) (st:=fun(_:Unit) i=>⟨[(0,.d (binds .sub u)),(3,.ptr 0 0),(4,.ptr 1 0),(5,.ptr 2 0),(6,aa i)],dQ f v ks ((dj u (ks.take i)).map (T.enc U))⟩) (step:=fun _ _=> .inl ())
   (F:=fun _=>(.exit 0,⟨[(0,.d (binds .sub u)),(3,.ptr 0 0),(4,.ptr 1 0),(5,.ptr 2 0),(6,aa ks.length),(29,ax false)],dQ f v ks ((dj u (ks.take ks.length)).map (T.enc U))⟩)) (R:=fun _=>(.ret,⟨[],[]⟩))
   (fun _=>⟨by simp,by simp[yN,dQ,aP]⟩)
   (fun _ i hi=>by
    have D:=bE (n:=i) (by omega);have y:=hc _ (bV hi);have r:=m i hi;generalize q:(dj u (ks.take (i+1))).map (T.enc U)=l2 at r;generalize (dj u (ks.take i)).map (T.enc U)=l1 at r⊢
    generalize cS u (aj ks i)=a at*
    exact⟨⟨[(0,.d (binds .sub u)),(3,.ptr 0 0),(4,.ptr 1 0),(5,.ptr 2 0),(6,aa (i+1:Nat))],dQ f v ks l2⟩,by simp[yN,WN,dQ,hi,D,cut,bg hi,y,r,splice,AV.qaw,aW,ba,bh,bd,aP],
     gi (e:=[]) (by simp) (by simp[aG]) (by simp[dQ]) (by simp[<-q])⟩)
   ks.length () 0 ⟨[(0,.d (binds .sub u)),(3,.ptr 0 0),(4,.ptr 1 0),(5,.ptr 2 0),(6,aa 0)],dQ f v ks []⟩ (by omega) (gi (e:=[]) (by simp) (by simp[aG]) (by simp[dQ]) (by simp[dj]))
  rw[kD,fG]at c;simp only[Ta,dQ]at c;have h:(T.node f v (dj u ks)).enc U= .agg [.int .i64 f,.int .i64 v,.sl U ((dj u ks).map (T.enc U))]:=by rw[T.qbD];rfl
  rw[h];generalize (dj u ks).map (T.enc U)=R at*
  cases hf:(f== -1)with
  |false=>simp[oJ,hf,splice,aW,ba,bh,bd,aP];rw[c];simp[splice,aW,ba,bh,bd,aP,AV.qaw]
  |true=>
   rw[hf]at w;simp only[fh]at w;generalize H:(ks.length:Int)=n at*
   simp[oJ,hf,w,H,splice,aW,ba,bh,bd,aP];rw[c];simp[splice,aW,ba,bh,bd,aP,AV.qaw]
theorem I1(u:aB)(c:u.length<=1099511627776)(b:∀i,i<u.length->(aH u i).t.inner<=1099511627776)(t:T)(a:t.inner<=1099511627776):ap XV 152 [.d (binds .sub u),.d (t.enc .sub)] []=some (.d ((cS u t).enc U),[]):=by
 match t,a with
 | .node f v ks,a=>rw[T.qbN]at a;exact Wb u c b f v ks (by have:=ip ks;omega) fun x e=>I1 u c b x (by have:=fX e;omega)
termination_by t
decreasing_by
 simp_wf
 have:=gM e;omega
def m0(l:aF)(u:aB)(t:T):T:=(cS u t).norm l
theorem O8(l:aF)(u:aB)(t:T):(m0 l u t).inner<=(cS u t).inner:=mA l _
theorem SP(l:aF)(o:l.length<=1099511627776)(u:aB)(t:T)(g:u.length<=1099511627776)(b:∀i,i<u.length->(aH u i).t.inner<=1099511627776)(e:t.inner<=1099511627776)(n:(cS u t).inner<=1099511627776):
 ap XV 135 [.d (sg l),.d (binds .sub u),.d (t.enc .sub)] []=some (.d ((m0 l u t).enc U),[]):=by
 have m:=Jg u g b t e;have h:=Bp l o (cS u t) n;unfold m0;generalize cS u t=a at*
 generalize a.norm l=c at*
 rw[aN 135 AN rfl];simp[AN,m,h,splice,aW,ba,bh,bd,aP]
theorem qqC(l:aF)(n:l.length<=1099511627776)(u:aB)(t:T)(g:u.length<=1099511627776)(c:∀i,i<u.length->(aH u i).t.inner<=1099511627776)(e:t.inner<=1099511627776)(m:(cS u t).inner<=1099511627776):
 ∃d,ap XV 141 [.d (sg l),.d (binds .sub u),.d (t.enc .sub)] []=some (.d d,[])/\IsV d (m0 l u t):=by
 have h:=I1 u g c t e;have b:=pG l n (cS u t) m;refine⟨nM l (cS u t),?_,AX l _⟩;rw[jR]at b⊢
 generalize cS u t=a at*
 generalize gI l a=X at*
 rw[aN 141 Ba rfl];simp[Ba,h,b,splice,aW,ba,bh,bd,aP]
theorem C9(a:aB)(x:Bd)(h:(a.length+1)*48<=140737488355328):cK 4 48 (.sl U (a.map (Bd.enc U))) (.sl U [x.enc U])=some (.sl U ((a++[x]).map (Bd.enc U))):=by unfold cK;simp only;rw[aw (by simp[aW,ba])];simp only[gW,bL,if_false];rw[aw ⟨by simpa using h,trivial,by simp⟩];simp
theorem H_(a:aB)(v:Int)(t:T)(h:(a.length+1)*48<=140737488355328):cK 4 48 (.sl U (a.map (Bd.enc U))) (.sl U [.agg [.int .i64 v,.int .i64 t.f,.int .i64 t.v,ai U t.kids]])=some (.sl U ((a++[(⟨v,t⟩:Bd)]).map (Bd.enc U))):=C9 a ⟨v,t⟩ h
structure BdD(b:Bd):Prop where
 inner:b.t.inner<=14
 rng:b.t.rng
 v: -1<=b.v/\b.v<=100
theorem qrz(bs:aX)(R:bs.length<=1099511627776)(q L i:Nat)(hi:i<3)(u:aB)(hu:u.length<=3)(B:ar)(hL:B.length=L)(H:qcV bs q B):
 ∃(u':aB) (B':ar),u'.length<=u.length+1/\(∀b,b∈u'->b∈u\/BdD b)/\Turned bs q B B'/\B'.length=L/\
  ∃e,aO XV (XV.lin 158) oA ⟨[(0,.ptr q 0),(3,.d (.sl U (u.map (Bd.enc U)))),(4,aa i)],B⟩=some (.normal,⟨[(0,.ptr q 0),(3,.d (.sl U (u'.map (Bd.enc U)))),(4,aa ((i+1:Nat):Int))],B'++e⟩):=by
 have hq:=H.lt;have hw:=bE (n:=i) (by omega);have y:(i:Int)<3:=by omega
 obtain⟨b,B1,a,hc1⟩:=rX bs R B q H 3 (by omega) (by omega);have z:B1.length=L:=by rw[a.len,hL]
 have x2:=a.at hq;cases b with
 |true=>refine⟨u,B1,by omega,fun b K=> .inl K,a,z,[],?_⟩;simp[oA,y,hc1,hw]
 |false=>
  obtain⟨t,B2,P,_,x3,M⟩:=yZ bs R 0 (by omega) (B1++[none]) q (x2.app [none]);obtain⟨B3,w,hl3,rfl⟩:=kp (by omega) x3;obtain⟨f,v,ks⟩:=t;obtain⟨b,B4,a2,N⟩:=rX bs R (B3++[some [aa f,aa v,.d (ai U ks)]]) q ((w.at (by omega)).app _) 3 (by omega) (by omega);obtain⟨o,C,hl5,rfl⟩:=kp (by omega) a2;have e3:B3.length=L:=by omega
  have G:o.length=L:=by omega
  cases b with
  |false=>
   have g:=H_ u i (.node f v ks) (by omega);refine⟨u++[(⟨(i:Int),.node f v ks⟩:Bd)],o,by simp,fun b K=> ?_,a.trans (w.trans C),G,[some [aa f,aa v,.d (ai .sub ks)]],?_⟩
   ·rcases bC.1 K with h|h
    ·exact .inl h
    ·simp at h;subst h
     exact .inr ⟨by simp only;omega,P.2,by simp only;omega⟩
   ·simp only[T.qaO,T.qbT,T.qaD]at g
    generalize (u++[(⟨(i:Int),.node f v ks⟩:Bd)]).map (Bd.enc U)=lu at g⊢
    generalize u.map (Bd.enc U)=l0 at g⊢
    simp[oA,y,hc1,M,N,hw,z,e3,G,g,df,List.replicate,splice,aW,ba,bh,bd,aP]
  |true=>
   obtain⟨W,D,Y,X⟩:=C.at (by omega:q<B3.length);have h4:=jC X;have b1:¬L=q:=by omega
   have Z:¬L+1<=L:=by omega
   have O:q<o.length:=by omega
   have b2:∀x:Option aA,(o++[x])[q]?=some (some (ce bs W D)):=fun x=>by rw[cf O];exact h4
   have h1:∀(x c:Option aA),(o++[x]).set q c=o.set q c++[x]:=fun x c=>List.set_append_left _ _ O
   obtain⟨r,B6,hr,⟨p6,I,x1,rfl⟩,J⟩:=mV bs R [some (ce bs W D)] 0 ⟨W,D,Y,rfl⟩ 2 (by omega) (by omega);simp only[nE]at J;have V:IntKind.i64.wrap (5+r)=5+r:=wrap_i64 (by omega) (by omega);have hv:=D9 (5+r);have ho:ap XV 164 [aa 5,.d (.sl .sub [(T.node (-1) (5+r) []).enc .sub,(T.node f v ks).enc .sub])] []=some (.d (.agg [.int .i64 5,.int .i64 0,.sl .sub [(T.node (-1) (5+r) []).enc .sub,(T.node f v ks).enc .sub]]),[]):=by have:=EV 5 [T.node (-1) (5+r) [],T.node f v ks];rw[T.qbD]at this;exact this
   have F:=pG cD (by decide) (T.node 5 0 [T.node (-1) (5+r) [],T.node f v ks]) (by have:=P.1;simp[T.inner,T.inners]at this⊢;omega);have c2:=mA cD (T.node 5 0 [T.node (-1) (5+r) [],T.node f v ks]);have a1:((T.node 5 0 [T.node (-1) (5+r) [],T.node f v ks]).norm cD).rng:=Ed cD _ (by
    have h2:=P.2;have h3:(-9223372036854775808:Int)<=5+r/\5+r<=9223372036854775807:=by omega
    generalize 5+r=r5 at*
    generalize hT:T.node f v ks=T0 at*
    simp[T.rng,T.rngs,h2,h3])
   have hii:(T.node 5 0 [T.node (-1) (5+r) [],T.node f v ks]).inner<=14:=by have:=P.1;simp[T.inner,T.inners]at this⊢;omega
   rw[T.qbD]at F;unfold nM at F;simp only[ai,T.qaO,T.qbT,T.qaD,bA,cM]at F;generalize (T.node 5 0 [T.node (-1) (5+r) [],T.node f v ks]).norm cD=m at*
   obtain⟨S,mv,mk⟩:=m;have hs:=Bn;simp only[sg]at F;have g:=H_ u i (.node S mv mk) (by omega);refine⟨u++[(⟨(i:Int),.node S mv mk⟩:Bd)],o.set q (some (ce bs p6 I)),by simp,fun b K=> ?_,a.trans (w.trans (C.trans ⟨p6,I,x1,rfl⟩)),by simp[G],[some [aa S,aa mv,.d (ai .sub mk)]],?_⟩
   ·rcases bC.1 K with h|h
    ·exact .inl h
    ·simp at h;subst h
     exact .inr ⟨by simp only;omega,a1,by simp only;omega⟩
   ·simp only[T.qaO,T.qbT,T.qaD]at g
    generalize h5:cD.map SymL.enc=sq at hs F;have a3:sq.map DV.clr=sq:=by rw[<-h5];exact Gs _
    have eX:∀c:Option aA,(o.set q c).length=L:=fun c=>by simp[G]
    generalize (u++[(⟨(i:Int),.node S mv mk⟩:Bd)]).map (Bd.enc U)=lu at g⊢
    generalize u.map (Bd.enc U)=l0 at g⊢
    simp[oA,qXI,b1,Z,y,hc1,M,N,J,hw,V,z,e3,G,eX,b2,h1,hv,ho,F,hs,a3,vG,lc,g,df,List.replicate,splice,aW,ba,bh,bd,aP]
theorem QT(bs:aX)(D:bs.length<=1099511627776)(q L:Nat):∀(k i:Nat) (u:aB) (B:ar),i+k=3->u.length<=i->(∀b,b∈u->BdD b)->B.length=L->qcV bs q B->∀s0,aJ L [0,3,4] s0=some ⟨[(0,.ptr q 0),(3,.d (.sl U (u.map (Bd.enc U)))),(4,aa i)],B⟩->
 ∃(c:aB) (B':ar),c.length<=3/\(∀b,b∈c->BdD b)/\Turned bs q B B'/\cj XV (XV.lin 158) L [0,3,4] oA s0=some (.exit 0,⟨[(0,.ptr q 0),(3,.d (.sl U (c.map (Bd.enc U)))),(4,aa 3),(8,ax false)],B'⟩):=by
 intro k
 induction k with
 |zero=>
  intro i u B m r n z a s0 o;have hi:i=3:=by omega
  subst hi;obtain⟨pos,st,I,g⟩:=a;refine⟨u,B,r,n,⟨pos,st,I,?_⟩,eF o ?_ (by simp)⟩
  ·have:=jC g
   exact(jG fun j=>by
    rw[List.getElem?_set];split
    ·rename_i h;subst h;rw[this];simp[C3 g]
    ·rfl)
  ·simp[oA]
 |succ k H=>intro i u B m r n z a s0 o;obtain⟨c,B',g1,g2,w,y,e,G⟩:=qrz bs D q L i (by omega) u (by omega) B z a;rw[fA o G];obtain⟨C,F,f1,f2,f3,f4⟩:=H (i+1) c B' (by omega) (by omega) (fun b g=>(g2 b g).elim (n b) id) y (w.at a.lt) ⟨[(0,.ptr q 0),(3,.d (.sl U (c.map (Bd.enc U)))),(4,aa ((i+1:Nat):Int))],B'++e⟩ (gi (e:=e) (by simp) (by simp[aG];have:=a.lt;omega) y rfl);exact⟨C,F,f1,f2,w.trans f3,f4⟩
theorem Pu(bs:aX)(n:bs.length<=1099511627776)(B:ar)(q:Nat)(h:qcV bs q B):
 ∃(u:aB) (B':ar),u.length<=3/\(∀b,b∈u->BdD b)/\Turned bs q B B'/\ap XV 158 [.ptr q 0] B=some (.d (binds U u),B'):=by
 obtain⟨u,B',o,m,g,c⟩:=QT bs n q B.length 3 0 [] B rfl (by simp) (fun b r=>by simp at r) rfl h ⟨[(0,.ptr q 0),(3,.d (.sl U [])),(4,aa 0)],B⟩ (gi (e:=[]) (by simp) (by simp[aG];exact h.lt) rfl (by simp));refine⟨u,B',o,m,g,?_⟩;have a:List.take B.length B'=B':=dE (by rw[g.len];exact bf _);rw[aN 158 Bt rfl];simp only[QX]at c;show _=some (AV.d (DV.sl U (u.map (Bd.enc U))),B');generalize u.map (Bd.enc U)=lu at c⊢
 simp[Bt];rw[c];simp[a]
theorem qKq(bs:aX)(o:bs.length<=1099511627776)(st:Int):∃(p t:T) (d:DV) (pos' H:Int),p.inner<=6/\t.inner<=1000/\IsV d t/\(0<=pos'/\pos'<=bs.length)/\
 ap XV 381 [.ptr 4 0] [ff,ff,none,none,some (ce bs 0 st)]=some (.d (.tup [p.enc .sub,d]),[ff,ff,none,none,some (ce bs pos' H)]):=by
 obtain⟨p,B1,M,_,⟨N,s1,J,rfl⟩,hc1⟩:=yZ bs o 3 (by omega) [ff,ff,none,none,some (ce bs 0 st),ff,ff,none] 4 ⟨0,st,⟨Int.le_refl _,by omega⟩,rfl⟩;obtain⟨b,c,e⟩:=p;obtain⟨r,B2,hr,⟨y,s2,n,rfl⟩,m⟩:=mV bs o [ff,ff,none,none,some (ce bs N s1),ff,ff,some [aa b,aa c,.d (ai U e)]] 4 ⟨N,s1,J,rfl⟩ 5 (by omega) (by omega);simp[ff]at hc1 m
 by_cases S:r=0
 ·subst S
  obtain⟨t,Z,Y,_,⟨C,s3,h,rfl⟩,a⟩:=yZ bs o 0 (by omega) [some (ce bs y s2)] 0 ⟨y,s2,n,rfl⟩;obtain⟨z,D,q⟩:=t;simp at a;refine⟨.node b c e,.node z D q,(T.node z D q).enc .sub,C,s3,M.1,by omega,sK _ _,h,?_⟩;rw[aN 381 mL rfl];simp[mL,Qo,ff,hc1,m,a,vG,lc,splice,aW,ba,bh,bd,aP]
 ·by_cases R:r=1
  ·subst R
   obtain⟨t,g,C,s3,Y,h,a⟩:=N7 bs o y s2 n;obtain⟨z,D,q⟩:=t;refine⟨.node b c e,.node z D q,(T.node z D q).enc .sub,C,s3,M.1,by omega,sK _ _,h,?_⟩;rw[aN 381 mL rfl];simp[mL,ZJ,ff,hc1,m,a,vG,lc,splice,aW,ba,bh,bd,aP]
  ·obtain⟨u,Z,hu,G,⟨C,s3,h,rfl⟩,a⟩:=Pu bs o [some (ce bs y s2)] 0 ⟨y,s2,n,rfl⟩
   have e0:(r==0)=false:=by simpa using S
   have W:(r==1)=false:=by simpa using R
   have O:∀i,i<u.length->(aH u i).t.inner<=14:=fun i hi=>(G _ (uv hi)).inner
   have it:(cS u (.node b c e)).inner<=300:=by have:=EB u 14 O (.node b c e);have:((T.node b c e).inner+1)*(14+1)<=7*15:=Nat.mul_le_mul (by omega) (by omega);omega
   have ia:=O8 cD u (.node b c e);obtain⟨da,F,gd,X,rfl,P⟩:=qqC cD (by decide) u (.node b c e) (by omega) (fun i hi=>by have:=O i hi;omega) (by omega) (by omega);simp at a;have V:=Bn;unfold sg at F;refine⟨.node b c e,m0 cD u (.node b c e),(m0 cD u (.node b c e)).enc .sub,C,s3,M.1,by omega,sK _ _,h,?_⟩;generalize m0 cD u (.node b c e)=w at*
   obtain⟨wf,wv,wk⟩:=w;simp only[T.qaO,T.qbT,T.qaD]at P F;generalize K:cD.map SymL.enc=sq at V F⊢
   have I:sq.map DV.clr=sq:=by rw[<-K];exact Gs _
   rw[aN 381 mL rfl];simp[mL,SN,ff,hc1,m,a,V,F,P,I,e0,W,vG,lc,splice,aW,ba,bh,bd,aP]
theorem PX(bs:aX)(c:bs.length<=1099511627776):∃(p t:T),p.inner<=6/\t.inner<=1000/\
 ap XV 380 [.d (.sl .sub (bs.map (.int .u8)))] []=some (.d (.tup [.sl U (cD.map SymL.enc),p.enc .sub,t.enc .sub]),[]):=by
 obtain⟨st,e⟩:=qKt bs c [ff,ff,none,none];obtain⟨p,t,d,z,s1,q,n,⟨g,X,rfl,m⟩,o,hc1⟩:=qKq bs c st;have h:=Bn;generalize b:cD.map SymL.enc=sq at h⊢
 have a:sq.map DV.clr=sq:=by rw[<-b];exact Gs _
 refine⟨p,t,q,n,?_⟩;obtain⟨r,w,F⟩:=p;obtain⟨y,C,D⟩:=t;simp only[T.qaO,T.qbT,T.qaD]at m hc1;simp[ff]at e hc1;rw[aN 380 yO rfl];simp[yO,VB,e,hc1,h,m,a,splice,aW,ba,bh,bd,aP]
def fI(u w:aB)(i:Nat):Bool:= !((aH u i).v==(aH w i).v&&T.cmp (aH u i).t (aH w i).t==0)
def fQ(u w:aB):Bool:=decide (u.length=w.length)&&(a8 (fI u w) u.length 0).isNone
theorem Iw(u w:aB)(G:u.length<=1099511627776)(D:w.length<=1099511627776)(C:∀i,i<u.length->(aH u i).t.inner<=1099511627776)(y:∀i,i<w.length->(aH w i).t.inner<=1099511627776):
 ap XV 143 [.d (binds .sub u),.d (binds .sub w)] []=some (ax (fQ u w),[]):=by
 rw[aN 143 rM rfl];unfold fQ
 by_cases q:u.length=w.length
 ·have a:=cd (X:=XV) (T:=XV.lin 143) (L:=0) (live:=[0,1,5]) (b:=pS) (n:=u.length) (γ:=Nat) (st:=fun(_:Unit) i=>⟨[(0,.d (binds .sub u)),(1,.d (binds .sub w)),(5,aa i)],[]⟩) (step:=cu (fI u w))
   (F:=fun _=>(.exit 0,⟨[(0,.d (binds .sub u)),(1,.d (binds .sub w)),(5,aa u.length),(14,ax false)],[]⟩)) (R:=fun _=>(.ret,⟨[(4,ax false)],[]⟩))
   (fun _=>⟨by simp,by simp[pS]⟩)
   (fun _ i hi=>by
    have c:i<w.length:=by omega
    have h:=bE (n:=i) (by omega);have hc:=nI (aH u i).t (aH w i).t (C i hi) (y i c);unfold cu;cases hq:fI u w i with
    |true=>
     simp only[if_true];refine⟨by simp,?_⟩;unfold fI at hq
     by_cases e:(aH u i).v=(aH w i).v
     ·have o:(T.cmp (aH u i).t (aH w i).t==0)=false:=by
       have r:((aH u i).v==(aH w i).v)=true:=by simpa using e
       rw[r]at hq;simpa using hq
      rw[o]at hc;simp[pS,Ct,hi,c,cut,cY hi,cY c,e,hc]
     ·have r:((aH u i).v==(aH w i).v)=false:=by simpa using e
      have e3:((aH u i).v !=(aH w i).v)=true:=by simpa using e
      simp[pS,Ct,hi,c,cut,cY hi,cY c,e3]
    |false=>
     simp only[bL,if_false];unfold fI at hq;simp only[Bool.not_eq_false',aQ,fa]at hq;have o:(T.cmp (aH u i).t (aH w i).t==0)=true:=by simpa using hq.2
     rw[o]at hc;refine⟨_,by simp[pS,Ct,hi,c,h,cut,cY hi,cY c,hq.1,hc];rfl,by simp[aJ,aG]⟩)
   u.length () 0 ⟨[(0,.d (binds .sub u)),(1,.d (binds .sub w)),(5,aa 0)],[]⟩ (by omega) (by simp[aJ,aG])
  rw[eH]at a;have g:(u.length:Int)=w.length:=by omega
  have m:decide (u.length=w.length)=true:=by simpa using q
  rw[m];simp only[UW]at a;simp[rM,g];simp only[binds]at a;rw[a];cases a8 (fI u w) u.length 0 with
  |none=>simp[Gb]
  |some j=>simp
 ·have m:decide (u.length=w.length)=false:=by simpa using q
  have g:¬(u.length:Int)=w.length:=by omega
  have z:((u.length:Int) !=w.length)=true:=by simpa using g
  rw[m];simp[rM,Gb,z]
mutual
theorem T.qOE(g:Tag)(a:g≠.nil):∀t:T,(t.enc g).sh=t.enc .sub
 | .node f v ks=>by have:=T.qIb g a ks;simp only[T.enc,DV.sh,DV.shs,au a,this]
theorem T.qIb(g:Tag)(a:g≠.nil):∀ts:ah,DV.shs (T.encs g ts)=T.encs .sub ts
 | []=>by simp[T.encs,DV.shs]
 |t::ts=>by simp only[T.encs,DV.shs,T.qOE g a t,T.qIb g a ts]
end
theorem GB(g:Tag)(a:g≠.nil)(ts:ah):(ts.map (T.enc g)).map DV.sh=ts.map (T.enc .sub):=by rw[et];exact rk fun t _=>T.qOE g a t
theorem RA(g:Tag)(t:T):kJ (t.enc g)=true:=by cases t;rfl
theorem Ij(g:Tag)(c:g≠.nil)(ts:ah)(i:Nat)(B:ar)(hi:i<ts.length)(h:ts.length<=1099511627776):
 ap XV 284 [.d (ai g ts),aa i] B=some (.d (ai .sub (ts.take i++ts.drop (i+1))),B):=by
 rw[vJ XV 284 _ _ kh rfl];have b:(ts.map (T.enc g)).all kJ=true:=by
  rw[bB];intro x e
  obtain⟨t,_,rfl⟩:=cw.1 e;exact RA g t
 have a:(0:Int)<=i/\(i:Int)<(ts.map (T.enc g)).length/\(ts.map (T.enc g)).length*40<=140737488355328:=by rw[eo];omega
 simp only[aV,bH,a9,kh,ai];rw[aw ⟨b,a⟩];simp only[AO,<-List.map_take,<-List.map_drop,<-List.map_append,GB g c,bH]
def fD(u:aB)(v:Int):Nat:=u.findIdx fun b=>decide (b.v>v)
def cC(u:aB)(v:Int)(t:T):aB:=u.take (fD u v)++⟨v,t⟩::u.drop (fD u v)
theorem Nw(g:Tag):∀u:aB,iP (u.map (Bd.enc g))=some (u.map Bd.v)
 | []=>rfl
 |b::u=>by have h:nv (b.enc g)=some b.v:=rfl;simp only[bA,iP,h,Nw g u,bH,a9]
theorem GU(g:Tag)(a:g≠.nil)(b:Bd):(b.enc g).sh=b.enc .sub:=by simp only[Bd.enc,ai,DV.sh,DV.shs,au a,kV,GB g a]
theorem LI(g g':Tag)(e:g≠.nil)(a:g'≠.nil)(u:aB)(v:Int)(t:T)(B:ar)(r:u.length<=1099511627776):
 ap XV 323 [.d (binds g u),aa v,.d (t.enc g')] B=some (.d (binds .sub (cC u v t)),B):=by
 rw[vJ XV 323 _ _ km rfl];have h:t.enc g'= .agg [.int .i64 t.f,.int .i64 t.v,.sl g' (t.kids.map (T.enc g'))]:=T.qbD g' t;have q:(u.map (Bd.enc g)).length+1<=2932031007402:=by rw[eo];omega
 have c:((u.map (Bd.enc g)).length+1)*48<=140737488355328:=by omega
 have o:jh (u.map Bd.v) v=fD u v:=by unfold jh fD;rw[List.findIdx_map];rfl
 rw[h];simp only[aV,bH,a9,km,binds,Nw];rw[aw c,o];have m:DV.sh (.agg [.int .i64 v,.int .i64 t.f,.int .i64 t.v,.sl g' (t.kids.map (T.enc g'))])=Bd.enc .sub ⟨v,t⟩:=GU g' a ⟨v,t⟩;have n:∀l:aB,(l.map (Bd.enc g)).map DV.sh=l.map (Bd.enc .sub):=fun l=>by rw[et];exact rk fun b _=>GU g e b
 simp only[<-List.map_take,<-List.map_drop,c6,bA,n,m,cC];rfl
structure Gl where
 many:Bool
 f:Int
 ps:ah
 ts:ah
abbrev bR:=List Gl
def Gl.enc(g:Tag)(x:Gl):DV:= .agg [.bool x.many,.int .i64 x.f,ai g x.ps,ai g x.ts]
abbrev bD(g:Tag)(l:bR):DV:= .sl g (l.map (Gl.enc g))
theorem U0(g:Tag)(a:g≠.nil)(x:Gl):(x.enc g).sh=x.enc .sub:=by simp only[Gl.enc,ai,DV.sh,DV.shs,au a,kV,GB g a]
theorem YN(g g1 g2 e:Tag)(y:g1≠.nil)(q:g2≠.nil)(r:e≠.nil)(a b c:bR)(B:ar)(D:0<b.length)(C:a.length+b.length+c.length<=1099511627776):
 ap XV 328 [.d (.sl g [bD g1 a,bD g2 b,bD e c])] B=some (.d (bD .sub (a++(b++c))),B):=by
 rw[vJ XV 328 _ _ (j_ 4 64) rfl];have h:rowsOf [bD g1 a,bD g2 b,bD e c]=some [a.map (Gl.enc g1),b.map (Gl.enc g2),c.map (Gl.enc e)]:=rfl;have m:[a.map (Gl.enc g1),b.map (Gl.enc g2),c.map (Gl.enc e)].flatten=a.map (Gl.enc g1)++(b.map (Gl.enc g2)++c.map (Gl.enc e)):=by simp
 have n:∀(g:Tag) (l:bR),(l.map (Gl.enc g)).all (fun x=>decide (x.cells.length=4))=true:=fun g l=>by
  rw[bB];intro x w
  obtain⟨t,_,rfl⟩:=cw.1 w;rfl
 have o:∀(g:Tag),g≠.nil->∀l:bR,(l.map (Gl.enc g)).map DV.sh=l.map (Gl.enc .sub):=fun g z l=>by rw[et];exact rk fun b _=>U0 g z b
 simp only[aV,bH,a9,j_,h,m];rw[aw ⟨by rw[FJ,FJ,n,n,n];rfl,by simp;omega,by simp;omega⟩];simp only[c6,o g1 y,o g2 q,o e r,bH,bD]
def iw(sg ways:DV)(b steps a:Int)(over:Bool):aA:=[.d sg,.d ways,aa b,aa steps,aa a,ax over]
theorem mr(pre:ar)(x:Option aA)(r:ar):(pre++x::r).take (pre.length+(r.length+1))=pre++x::r:=dE (by simp)
theorem qRs(pre r:ar)(sg:DV)(g:Tag)(ws:al)(a steps b:Int)(over:Bool):
 ap XV 319 [.ptr pre.length 0] (pre++some (iw sg (.sl g ws) a steps b over)::r)=some (ax (over||decide ((ws.length:Int)>a)),pre++some (iw sg (.sl g ws) a steps b over)::r):=by
 rw[aN 319 rb rfl];have c:¬(pre.length+(r.length+1)<=pre.length):=by omega
 cases over
 ·simp[rb,Iq,iw,c,mr]
 ·simp[rb,Iq,iw,c,mr]
theorem Wd(l:ah)(c:Nat)(caps:aA)(B:ar)(P:T->Bool)(y:l.length<=1099511627776)(q:AV.safe.safes B.length caps=true)(e:caps.map AV.clr=caps)(o:¬0∈XV.lin c)
 (r:∀s,s∈l->ap XV c (.d (s.enc .sub)::caps) B=some (ax (P s),B)):
 ap XV 281 [.d (ai .sub l),.fn c caps] B=some (aa (dw (a8 (fun i=>P (aj l i)) l.length 0)),B):=by
 rw[aN 281 xd rfl];have h:=cd (X:=XV) (T:=XV.lin 281) (L:=B.length) (live:=[0,1,7,8]) (b:=rL) (n:=l.length) (st:=fun(_:Unit) i=>⟨[(0,.d (ai .sub l)),(1,.fn c caps),(7,aa l.length),(8,aa i)],B⟩) (step:=cu fun i=>P (aj l i))
  (F:=fun _=>(.exit 0,⟨[(0,.d (ai .sub l)),(1,.fn c caps),(7,aa l.length),(8,aa l.length),(9,ax false)],B⟩)) (R:=fun(j:Nat)=>(.ret,⟨[(4,aa j)],B⟩))
  (fun a=>⟨by simp,by simp[rL]⟩)
  (fun a i hi=>by
   have w:=bE (n:=i) (by omega);have hc:=r _ (bV hi);unfold cu
   by_cases g:P (aj l i)=true
   ·rw[aw g];rw[g]at hc
    exact⟨by simp,by simp[rL,hi,cut,bg hi,hc,e,o]⟩
   ·rw[au g]
    have m:P (aj l i)=false:=by simpa using g
    rw[m]at hc;exact⟨_,by simp[rL,hi,w,cut,bg hi,hc,e,o];rfl,by simp[aJ,aG,q]⟩)
  l.length () 0 ⟨[(0,.d (ai .sub l)),(1,.fn c caps),(7,aa l.length),(8,aa 0)],B⟩ (by omega) (by simp[aJ,aG,q])
 rw[eH]at h;simp only[Uk]at h;simp[xd];rw[h];cases g:a8 (fun i=>P (aj l i)) l.length 0<;>simp[dw]
theorem OF(x:T)(f v:Int)(ks:ah)(c:x.inner<=1099511627776)(b:(T.node f v ks).inner<=1099511627776):
 ap XV 283 [.d (x.enc .sub),.ptr 0 0] [some [aa f,aa v,.d (ai .sub ks)]]=some (ax (T.cmp x (.node f v ks)==0),[some [aa f,aa v,.d (ai .sub ks)]]):=by
 rw[aN 283 wO rfl];have h:=same_eq x (.node f v ks) c b;obtain⟨e,v',a⟩:=x;simp[wO,h]
def eS(l:ah)(t:T)(i:Nat):Bool:=T.cmp (aj l i) t==0
def cV(l:ah)(j:Nat):ah:=l.take j++l.drop (j+1)
def takeN:ah->ah->ah⊕T
 |l,[]=> .inl l
 |l,t::ts=>match a8 (eS l t) l.length 0 with
  |none=> .inr t
  |some j=>takeN (cV l j) ts
def Bm(ts:ah)(l:ah)(i:Nat):ah⊕T:=
 match a8 (eS l (aj ts i)) l.length 0 with
 |some j=> .inl (cV l j)
 |none=> .inr (aj ts i)
theorem Hs(ts:ah):∀(k i:Nat) (l:ah),i+k=ts.length->runN (Bm ts) k l i=takeN l (ts.drop i)
 |0,i,l,h=>by have b:ts.drop i=[]:=ki (by omega);simp[runN,b,takeN]
 |k+1,i,l,h=>by
  have a:i<ts.length:=by omega
  rw[dl a,bg a];simp only[runN,Bm,takeN];cases a8 (eS l (aj ts i)) l.length 0 with
  |none=>rfl
  |some j=>exact Hs ts k (i+1) _ (by omega)
variable{j:Nat}{l:ah}
theorem Hk{x:T}(h:x∈cV l j):x∈l:=by
 unfold cV at h;rcases bC.1 h with h|h
 ·exact sF h
 ·exact sV h
theorem Li:(cV l j).length<=l.length:=by unfold cV;simp;omega
theorem Yy(l ts:ah)(D:l.length<=1099511627776)(J:ts.length<=1099511627776)(C:∀x,x∈l->x.inner<=1099511627776)(bt:∀x,x∈ts->x.inner<=1099511627776):
 ap XV 282 [.d (ai .sub l),.d (ai .sub ts)] []=some (match takeN l ts with| .inl r=> .d (.tup [ai .sub r,.bool true])| .inr _=> .d (.tup [.sl U [],.bool false]),[]):=by
 rw[aN 282 AA rfl];have h:=sn (X:=XV) (T:=XV.lin 282) (L:=0) (live:=[0,9,10,11]) (b:=qQ) (n:=ts.length) (γ:=T) (st:=fun(r:ah) i=>⟨[(0,.d (ai .sub r)),(9,.d (ai .sub ts)),(10,aa ts.length),(11,aa i)],[]⟩) (step:=Bm ts)
  (F:=fun r=>(.exit 0,⟨[(0,.d (ai .sub r)),(9,.d (ai .sub ts)),(10,aa ts.length),(11,aa ts.length),(12,ax false)],[]⟩)) (R:=fun q=>(.ret,⟨[(4,.d (.sl U [])),(5,ax false)],[some [aa q.f,aa q.v,.d (ai .sub q.kids)]]⟩))
  (fun r _=>r.length<=1099511627776/\∀x,x∈r->x.inner<=1099511627776)
  (fun a _=>⟨by simp,by simp[qQ]⟩)
  (fun a i hi c=>by
   have H:=bE (n:=i) (by omega);obtain⟨e,z⟩:=c;have G:=bt _ (bV hi);generalize w:aj ts i=q at*
   obtain⟨f,v,ks⟩:=q;have hc:=Wd a 283 [.ptr 0 0] [some [aa f,aa v,.d (ai .sub ks)]] (fun x=>T.cmp x (.node f v ks)==0) e (by simp) (by simp) (by simp) (fun x m=>OF x f v ks (z x m) G);have y:(fun j=>T.cmp (aj a j) (.node f v ks)==0)=eS a (.node f v ks):=rfl;rw[y]at hc;unfold Bm;rw[w];cases hfa:a8 (eS a (.node f v ks)) a.length 0 with
   |none=>rw[hfa]at hc;exact⟨⟨by simp,by simp[qQ,hi,cut,bg hi,w,hc,dw,splice]⟩,fun a' h=>by simp at h⟩
   |some j=>
    rw[hfa]at hc;obtain⟨_,I,_⟩:=eQ _ _ _ _ hfa;have o:¬((j:Int)<0):=by omega
    have g:=Ij .sub (by simp) a j [] (by omega) e;refine⟨⟨_,by simp[qQ,hi,H,cut,bg hi,w,hc,dw,g,splice,o];rfl,by simp[aJ,aG,cV]⟩,fun a' h=> ?_⟩;simp only[qh]at h;subst h;exact⟨cT Li e,fun x m=>z x (Hk m)⟩)
  ts.length l 0 ⟨[(0,.d (ai .sub l)),(9,.d (ai .sub ts)),(10,aa ts.length),(11,aa 0)],[]⟩ (by omega) ⟨D,C⟩ (by simp[aJ,aG])
 rw[Hs ts _ _ _ (by omega)]at h;simp only[N_,gD]at h;simp[AA];rw[h];cases takeN l ts<;>simp
theorem Yr(l:ah)(t:T)(q:l.length<=1099511627776)(g:∀x,x∈l->x.inner<=1099511627776)(m:t.inner<=1099511627776):
 ap XV 259 [.d (ai .sub l),.d (t.enc .sub)] []=some (aa (dw (a8 (eS l t) l.length 0)),[]):=by
 rw[aN 259 x7 rfl];obtain⟨f,v,ks⟩:=t;have h:=cd (X:=XV) (T:=XV.lin 259) (L:=1) (live:=[0,3,5]) (b:=uH) (n:=l.length) (γ:=Nat) (st:=fun(_:Unit) i=>⟨[(0,.d (ai .sub l)),(3,.ptr 0 0),(5,aa i)],[some [aa f,aa v,.d (ai .sub ks)]]⟩) (step:=cu (eS l (.node f v ks)))
  (F:=fun _=>(.exit 0,⟨[(0,.d (ai .sub l)),(3,.ptr 0 0),(5,aa l.length),(9,ax false)],[some [aa f,aa v,.d (ai .sub ks)]]⟩)) (R:=fun j=>(.ret,⟨[(4,aa j)],[some [aa f,aa v,.d (ai .sub ks)]]⟩))
  (fun a=>⟨by simp,by simp[uH]⟩)
  (fun a i hi=>by
   have o:=bE (n:=i) (by omega);have hc:=nI (aj l i) (.node f v ks) (g _ (bV hi)) m;unfold cu
   by_cases c:eS l (.node f v ks) i=true
   ·rw[aw c]
    unfold eS at c;rw[c]at hc;exact⟨by simp,by simp[uH,Ho,hi,cut,bg hi,hc]⟩
   ·rw[au c]
    have e:eS l (.node f v ks) i=false:=by simpa using c
    unfold eS at e;rw[e]at hc;exact⟨_,by simp[uH,Ho,hi,o,cut,bg hi,hc];rfl,by simp[aJ,aG]⟩)
  l.length () 0 ⟨[(0,.d (ai .sub l)),(3,.ptr 0 0),(5,aa 0)],[some [aa f,aa v,.d (ai .sub ks)]]⟩ (by omega) (by simp[aJ,aG])
 rw[eH]at h;simp only[qQF]at h;simp[x7];rw[h];cases c:a8 (eS l (.node f v ks)) l.length 0<;>simp[dw]
theorem qB(a c:ah)(g:Tag)(h:(a.length+c.length)*40<=140737488355328):cK 3 40 (.sl U (a.map (T.enc .sub))) (.sl g (c.map (T.enc .sub)))=some (.sl U ((a++c).map (T.enc .sub))):=by
 have d:(c.map (T.enc .sub)).all (fun e=>decide (e.cells.length=3/\e.cells.all DV.isCell=true))=true:=by simp[aW,ba]
 have b:(a.map (T.enc .sub)).all (fun e=>decide (e.cells.length=3))=true:=by simp
 unfold cK;simp only;rw[aw d];cases c with
 |nil=>simp
 |cons x r=>simp only[bA,gW,bL,if_false];rw[aw ⟨by simpa using h,trivial,b⟩];simp
theorem H8(l:ah)(j:Nat)(q:j<l.length)(o:l.length<=1099511627776):
 ap XV 260 [.d (ai .sub l),aa j] []=some (.d (.sl U ((cV l j).map (T.enc .sub))),[]):=by
 rw[aN 260 yP rfl];have c:=bE (n:=j) (by omega);have g:j<=l.length:=by omega
 have e:j+1<=l.length:=by omega
 have b:=qB [] (l.take j) .sub (by simp;omega);have a:=qB (l.take j) (l.drop (j+1)) .sub (by simp;omega);simp only[cM,dG,B_,List.map_drop,c6]at b a;have m:(0:Int)<=(j:Int)+1:=by omega
 have h:List.take l.length (l.map (T.enc .sub))=l.map (T.enc .sub):=dE (by simp);simp[yP,c,g,e,m,h,b,a,cV]
theorem tU(l:aB)(n:Int)(m:l.length<=1099511627776):ap XV 312 [.d (binds .sub l),aa n] []=some (ax (cW l n).isSome,[]):=by
 rw[aN 312 uX rfl];have h:=cd (X:=XV) (T:=XV.lin 312) (L:=0) (live:=[0,1,5]) (b:=ra) (n:=l.length) (γ:=Nat) (st:=fun(_:Unit) i=>⟨[(0,.d (binds .sub l)),(1,aa n),(5,aa i)],[]⟩) (step:=cu fun i=>(aH l i).v==n)
  (F:=fun _=>(.exit 0,⟨[(0,.d (binds .sub l)),(1,aa n),(5,aa l.length),(9,ax false)],[]⟩)) (R:=fun _=>(.ret,⟨[(4,ax true)],[]⟩))
  (fun a=>⟨by simp,by simp[ra]⟩)
  (fun a i hi=>by
   have g:=bE (n:=i) (by omega);unfold cu
   by_cases c:((aH l i).v==n)=true
   ·rw[aw c]
    exact⟨by simp,by simp[ra,hi,cut,cY hi,c]⟩
   ·rw[au c]
    have e:((aH l i).v==n)=false:=by simpa using c
    exact⟨_,by simp[ra,hi,g,cut,cY hi,e];rfl,by simp[aJ,aG]⟩)
  l.length () 0 ⟨[(0,.d (binds .sub l)),(1,aa n),(5,aa 0)],[]⟩ (by omega) (by simp[aJ,aG])
 rw[eH]at h;simp only[Wj,binds]at h;unfold cW;simp[uX];rw[h];cases c:a8 (fun i=>(aH l i).v==n) l.length 0<;>simp
def lg:ah->ah->ah⊕ah
 |l,[]=> .inl l
 |l,t::ts=>match a8 (eS l t) l.length 0 with
  |none=> .inr l
  |some j=>lg (cV l j) ts
abbrev jf(q:Tag×ah):DV:= .sl q.1 (q.2.map (T.enc .sub))
def yd(ts:ah)(q:Tag×ah)(i:Nat):(Tag×ah)⊕(Tag×ah):=
 match a8 (eS q.2 (aj ts i)) q.2.length 0 with
 |some j=> .inl (U,cV q.2 j)
 |none=> .inr q
theorem Ko(ts:ah):∀(k i:Nat) (q:Tag×ah),(q.1= .sub\/q.1=U)->i+k=ts.length->∃g,(g= .sub\/g=U)/\runN (yd ts) k q i=match lg q.2 (ts.drop i)with| .inl r=> .inl (g,r)| .inr r=> .inr (g,r)
 |0,i,q,b,h=>by have c:ts.drop i=[]:=ki (by omega);exact⟨q.1,b,by simp[runN,c,lg]⟩
 |k+1,i,q,b,h=>by
  have a:i<ts.length:=by omega
  rw[dl a,bg a];simp only[runN,yd,lg];cases a8 (eS q.2 (aj ts i)) q.2.length 0 with
  |none=>exact⟨q.1,b,rfl⟩
  |some j=>exact Ko ts k (i+1) _ (.inr rfl) (by omega)
theorem L9:∀(l ts:ah),(match lg l ts with| .inl r=>some r| .inr _=>none)=(match takeN l ts with| .inl r=>some r| .inr _=>none)
 |l,[]=>rfl
 |l,t::ts=>by
  simp only[lg,takeN];cases a8 (eS l t) l.length 0 with
  |none=>rfl
  |some j=>exact L9 (cV l j) ts
theorem VQ(l ts:ah)(z:l.length<=1099511627776)(J:ts.length<=1099511627776)(y:∀x,x∈l->x.inner<=1099511627776)(bt:∀x,x∈ts->x.inner<=1099511627776):
 ∃g,(g= .sub\/g=U)/\ap XV 316 [.d (ai .sub l),.d (ai .sub ts)] []=some (match lg l ts with| .inl r=> .d (.tup [jf (g,r),.bool true])| .inr r=> .d (.tup [jf (g,r),.bool false]),[]):=by
 rw[aN 316 vK rfl];have h:=sn (X:=XV) (T:=XV.lin 316) (L:=0) (live:=[1,6,7]) (b:=tF) (n:=ts.length) (γ:=Tag×ah) (st:=fun(r:Tag×ah) i=>⟨[(1,.d (ai .sub ts)),(6,.d (jf r)),(7,aa i)],[]⟩) (step:=yd ts)
  (F:=fun r=>(.exit 0,⟨[(1,.d (ai .sub ts)),(6,.d (jf r)),(7,aa ts.length),(13,ax false)],[]⟩)) (R:=fun r=>(.ret,⟨[(4,.d (jf r)),(5,ax false)],[]⟩))
  (fun r _=>(r.1= .sub\/r.1=U)/\r.2.length<=1099511627776/\∀x,x∈r.2->x.inner<=1099511627776)
  (fun a H=>⟨by simp,by rcases H.1 with h|h<;>simp[tF,jf,h]⟩)
  (fun a i hi e=>by
   have G:=bE (n:=i) (by omega);obtain⟨g,a⟩:=a;obtain⟨c,m,o⟩:=e;simp only at c m o;have hc:=Yr a (aj ts i) m o (bt _ (bV hi));unfold yd;cases hfa:a8 (eS a (aj ts i)) a.length 0 with
   |none=>rw[hfa]at hc;exact⟨⟨by simp,by rcases c with rfl|rfl<;>simp[tF,hi,cut,bg hi,hc,dw]⟩,fun a' h=>by simp at h⟩
   |some j=>
    rw[hfa]at hc;obtain⟨_,I,_⟩:=eQ _ _ _ _ hfa;have w:¬((j:Int)<0):=by omega
    have q:=H8 a j (by omega) m;refine⟨by rcases c with rfl|rfl<;>exact⟨_,by simp[tF,hi,G,cut,bg hi,hc,dw,q,w];rfl,by simp[aJ,aG]⟩,fun a' h=> ?_⟩;simp only[qh]at h;subst h;exact⟨.inr rfl,cT Li m,fun x C=>o x (Hk C)⟩)
  ts.length (.sub,l) 0 ⟨[(1,.d (ai .sub ts)),(6,.d (ai .sub l)),(7,aa 0)],[]⟩ (by omega) ⟨.inl rfl,z,y⟩ (by simp[aJ,aG])
 obtain⟨g,c,D⟩:=Ko ts ts.length 0 (.sub,l) (.inl rfl) (by omega);rw[D]at h;simp only[qQs,gD]at h;refine⟨g,c,?_⟩;simp[vK];rw[h];cases lg l ts<;>rcases c with rfl|rfl<;>simp[jf]
variable{x:Bool}
theorem QQ(h:(!x)=true):x=false:=by cases x<;>simp_all
theorem QR(h:¬(!x)=true):x=true:=by cases x<;>simp_all
theorem US(b c:Bd)(B:ar)(g:b.t.inner<=1099511627776)(hc:c.t.inner<=1099511627776):
 ap XV 290 [.d (b.enc .sub),.d (c.enc .sub)] B=some (ax (b.v==c.v&&T.cmp b.t c.t==0),B):=by
 rw[aN 290 tj rfl];have h:=same_eq b.t c.t g hc
 by_cases e:b.v=c.v
 ·have a:(b.v==c.v)=true:=by simpa using e
  rw[a,fh];simp[tj,e,h]
 ·have a:(b.v==c.v)=false:=by simpa using e
  rw[a,Bool.false_and];simp[tj,a]
theorem SK(u w:aB)(G:u.length<=1099511627776)(D:w.length<=1099511627776)(C:∀i,i<u.length->(aH u i).t.inner<=1099511627776)(y:∀i,i<w.length->(aH w i).t.inner<=1099511627776):
 ap XV 289 [.d (binds .sub u),.d (binds .sub w),.fn 290 []] []=some (ax (fQ u w),[]):=by
 rw[aN 289 rA rfl];unfold fQ
 by_cases r:u.length=w.length
 ·have e:(u.length:Int)=w.length:=by omega
  have h:=cd (X:=XV) (T:=XV.lin 289) (L:=0) (live:=[1,2,15,16,17]) (b:=rm) (n:=u.length) (γ:=Nat) (st:=fun(_:Unit) i=>⟨[(1,.d (binds .sub w)),(2,.fn 290 []),(15,.d (binds .sub u)),(16,aa u.length),(17,aa i)],[]⟩) (step:=cu (fI u w))
   (F:=fun _=>(.exit 0,⟨[(1,.d (binds .sub w)),(2,.fn 290 []),(15,.d (binds .sub u)),(16,aa u.length),(17,aa u.length),(18,ax false)],[]⟩)) (R:=fun j=>(.ret,⟨[(6,ax false)],[some (aH u j|>.enc .sub|>.cells.map .d),some (aH w j|>.enc .sub|>.cells.map .d)]⟩))
   (fun a=>⟨by simp,by simp[rm]⟩)
   (fun a i hi=>by
    have c:i<w.length:=by omega
    have o:=bE (n:=i) (by omega);have hc:=US (aH u i) (aH w i) [some (aH u i|>.enc .sub|>.cells.map .d),some (aH w i|>.enc .sub|>.cells.map .d)] (C i hi) (y i c);unfold cu
    by_cases m:fI u w i=true
    ·rw[aw m]
     unfold fI at m;have g:((aH u i).v==(aH w i).v&&T.cmp (aH u i).t (aH w i).t==0)=false:=QQ m;rw[g]at hc;simp only[Bd.qgL,bA,cM]at hc;exact⟨by simp,by simp[rm,hi,c,cut,cY hi,cY c,hc,splice]⟩
    ·rw[au m]
     unfold fI at m;have g:((aH u i).v==(aH w i).v&&T.cmp (aH u i).t (aH w i).t==0)=true:=QR m;rw[g]at hc;simp only[Bd.qgL,bA,cM]at hc;exact⟨_,by simp[rm,hi,c,o,cut,cY hi,cY c,hc,splice];rfl,by simp[aJ,aG]⟩)
   u.length () 0 ⟨[(1,.d (binds .sub w)),(2,.fn 290 []),(15,.d (binds .sub u)),(16,aa u.length),(17,aa 0)],[]⟩ (by omega) (by simp[aJ,aG])
  rw[eH]at h;have q:decide (u.length=w.length)=true:=by simpa using r
  rw[q];simp only[Ws,binds]at h;simp[rA,e];simp only[e]at h;rw[h];cases m:a8 (fI u w) u.length 0<;>simp
 ·have q:decide (u.length=w.length)=false:=by simpa using r
  have e:¬(u.length:Int)=w.length:=by omega
  have z:((u.length:Int) !=w.length)=true:=by simpa using e
  rw[q];simp[rA,z]
theorem ZB(u w:aB)(c:u.length<=1099511627776)(a:w.length<=1099511627776)(b:∀i,i<u.length->(aH u i).t.inner<=1099511627776)(e:∀i,i<w.length->(aH w i).t.inner<=1099511627776):
 ap XV 288 [.d (binds .sub u),.d (binds .sub w)] []=some (ax (fQ u w),[]):=by
 rw[aN 288 xP rfl];have h:=SK u w c a b e;simp[xP,h]
def dq(ws:List aB)(i:Nat):aB:=(ws[i]?).getD []
variable{i:Nat}{ws:List aB}
theorem l7(h:i<ws.length):ws[i]=dq ws i:=by simp[dq,h]
theorem pc(h:i<ws.length):dq ws i∈ws:=by rw[<-l7 h];exact jt h
abbrev eR(g:Tag)(ws:List aB):DV:= .sl g (ws.map (binds .sub))
@[simp] theorem qIi:DV.clr∘binds .sub=binds .sub:=funext fun w=>by simp[binds]
def small(u:aB):Prop:=u.length<=1099511627776/\∀i,i<u.length->(aH u i).t.inner<=1099511627776
def hJ(ws:List aB)(u:aB):Bool:=(a8 (fun i=>fQ (dq ws i) u) ws.length 0).isSome
theorem qKP(w u:aB)(pre r:ar)(a:small w)(b:small u):
 ap XV 320 [.d (binds .sub w),.ptr pre.length 0] (pre++some [.d (binds .sub u)]::r)=some (ax (fQ w u),pre++some [.d (binds .sub u)]::r):=by
 rw[aN 320 xq rfl];have h:=ZB w u a.1 b.1 a.2 b.2;have c:¬(pre.length+(r.length+1)<=pre.length):=by omega
 simp[xq,h,c,mr]
theorem V0(l:List aB)(c:Nat)(caps:aA)(B:ar)(P:aB->Bool)(y:l.length<=1099511627776)(q:AV.safe.safes B.length caps=true)(e:caps.map AV.clr=caps)(o:¬0∈XV.lin c)
 (r:∀s,s∈l->ap XV c (.d (binds .sub s)::caps) B=some (ax (P s),B)):
 ap XV 269 [.d (eR .sub l),.fn c caps] B=some (aa (dw (a8 (fun i=>P (dq l i)) l.length 0)),B):=by
 rw[aN 269 yU rfl];have h:=cd (X:=XV) (T:=XV.lin 269) (L:=B.length) (live:=[0,1,7,8]) (b:=tK) (n:=l.length) (st:=fun(_:Unit) i=>⟨[(0,.d (eR .sub l)),(1,.fn c caps),(7,aa l.length),(8,aa i)],B⟩) (step:=cu fun i=>P (dq l i))
  (F:=fun _=>(.exit 0,⟨[(0,.d (eR .sub l)),(1,.fn c caps),(7,aa l.length),(8,aa l.length),(9,ax false)],B⟩)) (R:=fun(j:Nat)=>(.ret,⟨[(4,aa j)],B⟩))
  (fun a=>⟨by simp,by simp[tK]⟩)
  (fun a i hi=>by
   have w:=bE (n:=i) (by omega);have hc:=r _ (pc hi);unfold cu
   by_cases g:P (dq l i)=true
   ·rw[aw g];rw[g]at hc
    exact⟨by simp,by simp[tK,hi,cut,l7 hi,hc,e,o]⟩
   ·rw[au g]
    have m:P (dq l i)=false:=by simpa using g
    rw[m]at hc;exact⟨_,by simp[tK,hi,w,cut,l7 hi,hc,e,o];rfl,by simp[aJ,aG,q]⟩)
  l.length () 0 ⟨[(0,.d (eR .sub l)),(1,.fn c caps),(7,aa l.length),(8,aa 0)],B⟩ (by omega) (by simp[aJ,aG,q])
 rw[eH]at h;simp only[qQC]at h;simp[yU];rw[h];cases g:a8 (fun i=>P (dq l i)) l.length 0<;>simp[dw]
theorem VH(ws:List aB)(u:aB)(pre r:ar)(c:ws.length<=1099511627776)(a:∀w,w∈ws->small w)(b:small u):
 ap XV 265 [.d (eR .sub ws),.fn 320 [.ptr pre.length 0]] (pre++some [.d (binds .sub u)]::r)=some (ax (hJ ws u),pre++some [.d (binds .sub u)]::r):=by
 rw[aN 265 w_ rfl];have h:=V0 ws 320 [.ptr pre.length 0] (pre++some [.d (binds .sub u)]::r) (fun w=>fQ w u) c (by simp[AV.safe.safes,AV.safe]) (by simp) (by simp) (fun w e=>qKP w u pre r (a w e) b);simp[w_,h,mr,hJ];cases a8 (fun i=>fQ (dq ws i) u) ws.length 0<;>simp[dw]
theorem Zh(u w:aB)(z:small u)(y:small w):
 ap XV 261 [.d (binds .sub u),.d (binds .sub w)] []=some (ax (fQ u w),[]):=by
 rw[aN 261 qT rfl];obtain⟨z,G⟩:=z;obtain⟨y,C⟩:=y;unfold fQ
 by_cases q:u.length=w.length
 ·have a:=cd (X:=XV) (T:=XV.lin 261) (L:=0) (live:=[0,1,5]) (b:=oV) (n:=u.length) (γ:=Nat) (st:=fun(_:Unit) i=>⟨[(0,.d (binds .sub u)),(1,.d (binds .sub w)),(5,aa i)],[]⟩) (step:=cu (fI u w))
   (F:=fun _=>(.exit 0,⟨[(0,.d (binds .sub u)),(1,.d (binds .sub w)),(5,aa u.length),(14,ax false)],[]⟩)) (R:=fun _=>(.ret,⟨[(4,ax false)],[]⟩))
   (fun _=>⟨by simp,by simp[oV]⟩)
   (fun _ i hi=>by
    have c:i<w.length:=by omega
    have h:=bE (n:=i) (by omega);have hc:=nI (aH u i).t (aH w i).t (G i hi) (C i c);unfold cu;cases hq:fI u w i with
    |true=>
     simp only[if_true];refine⟨by simp,?_⟩;unfold fI at hq
     by_cases e:(aH u i).v=(aH w i).v
     ·have o:(T.cmp (aH u i).t (aH w i).t==0)=false:=by
       have r:((aH u i).v==(aH w i).v)=true:=by simpa using e
       rw[r]at hq;simpa using hq
      rw[o]at hc;simp[oV,Dr,hi,c,cut,cY hi,cY c,e,hc]
     ·have r:((aH u i).v==(aH w i).v)=false:=by simpa using e
      have e3:((aH u i).v !=(aH w i).v)=true:=by simpa using e
      simp[oV,Dr,hi,c,cut,cY hi,cY c,e3]
    |false=>
     simp only[bL,if_false];unfold fI at hq;simp only[Bool.not_eq_false',aQ,fa]at hq;have o:(T.cmp (aH u i).t (aH w i).t==0)=true:=by simpa using hq.2
     rw[o]at hc;refine⟨_,by simp[oV,Dr,hi,c,h,cut,cY hi,cY c,hq.1,hc];rfl,by simp[aJ,aG]⟩)
   u.length () 0 ⟨[(0,.d (binds .sub u)),(1,.d (binds .sub w)),(5,aa 0)],[]⟩ (by omega) (by simp[aJ,aG])
  rw[eH]at a;have g:(u.length:Int)=w.length:=by omega
  have m:decide (u.length=w.length)=true:=by simpa using q
  rw[m];simp only[Q6]at a;simp[qT,g];simp only[binds]at a;rw[a];cases a8 (fI u w) u.length 0 with
  |none=>simp
  |some j=>simp
 ·have m:decide (u.length=w.length)=false:=by simpa using q
  have g:¬(u.length:Int)=w.length:=by omega
  have D:((u.length:Int) !=w.length)=true:=by simpa using g
  rw[m];simp[qT,D]
theorem qKr(ws:List aB)(u:aB)(q:ws.length<=1099511627776)(m:∀w,w∈ws->small w)(o:small u):
 ap XV 249 [.d (eR .sub ws),.d (binds .sub u)] []=some (ax (hJ ws u),[]):=by
 rw[aN 249 A_ rfl];have h:=cd (X:=XV) (T:=XV.lin 249) (L:=0) (live:=[0,1,5]) (b:=tJ) (n:=ws.length) (γ:=Nat) (st:=fun(_:Unit) i=>⟨[(0,.d (eR .sub ws)),(1,.d (binds .sub u)),(5,aa i)],[]⟩) (step:=cu fun i=>fQ (dq ws i) u)
  (F:=fun _=>(.exit 0,⟨[(0,.d (eR .sub ws)),(1,.d (binds .sub u)),(5,aa ws.length),(9,ax false)],[]⟩)) (R:=fun _=>(.ret,⟨[(4,ax true)],[]⟩))
  (fun a=>⟨by simp,by simp[tJ]⟩)
  (fun a i hi=>by
   have e:=bE (n:=i) (by omega);have hc:=Zh (dq ws i) u (m _ (pc hi)) o;unfold cu
   by_cases c:fQ (dq ws i) u=true
   ·rw[aw c];rw[c]at hc
    exact⟨by simp,by simp[tJ,hi,cut,l7 hi,hc]⟩
   ·rw[au c]
    have g:fQ (dq ws i) u=false:=by simpa using c
    rw[g]at hc;exact⟨_,by simp[tJ,hi,e,cut,l7 hi,hc];rfl,by simp[aJ,aG]⟩)
  ws.length () 0 ⟨[(0,.d (eR .sub ws)),(1,.d (binds .sub u)),(5,aa 0)],[]⟩ (by omega) (by simp[aJ,aG])
 rw[eH]at h;simp only[Y0]at h;unfold hJ;simp[A_];rw[h];cases c:a8 (fun i=>fQ (dq ws i) u) ws.length 0<;>simp
theorem Cg(u:aB)(i:Nat)(h:i<u.length):u.take (i+1)=u.take i++[aH u i]:=by rw[NY,eJ h,cY h];rfl
def eC(_:Unit)(i:Nat):Unit⊕Nat:= .inl ()
theorem jQ:∀(k i:Nat),runN eC k () i= .inl ()
 |0,i=>rfl
 |k+1,i=>by simp only[runN,eC];exact jQ k (i+1)
theorem Zy(u:aB)(m:small u):ap XV 266 [.d (binds .sub u)] []=some (.d (binds U u),[]):=by
 rw[aN 266 vL rfl];obtain⟨m,q⟩:=m;have h:=cd (X:=XV) (T:=XV.lin 266) (L:=0) (live:=[3,7,8,9]) (b:=BJ) (n:=u.length) (γ:=Nat) (st:=fun(_:Unit) i=>⟨[(3,.d (.sl U ((u.take i).map (Bd.enc U)))),(7,.d (binds .sub u)),(8,aa u.length),(9,aa i)],[]⟩) (step:=eC)
  (F:=fun _=>(.exit 0,⟨[(3,.d (.sl U ((u.take u.length).map (Bd.enc U)))),(7,.d (binds .sub u)),(8,aa u.length),(9,aa u.length),(10,ax false)],[]⟩)) (R:=fun _=>(.ret,⟨[],[]⟩))
  (fun a=>⟨by simp,by simp[BJ]⟩)
  (fun a i hi=>by
   have o:=bE (n:=i) (by omega);have hc:=Bz (aH u i).t (q i hi);have r:=cY hi;have e:=C9 (u.take i) (aH u i) (by simp;omega);have c:=Cg u i hi;rw[<-c]at e;generalize g:(u.take (i+1)).map (Bd.enc U)=R2 at e;generalize (u.take i).map (Bd.enc U)=R1 at*
   generalize aH u i=b at*
   unfold eC;exact⟨_,by simp[BJ,qXB,hi,o,cut,r,hc,e,splice,aW,ba,bh,bd,aP];rfl,by simp[aJ,aG,<-g]⟩)
  u.length () 0 ⟨[(3,.d (.sl U ((u.take 0).map (Bd.enc U)))),(7,.d (binds .sub u)),(8,aa u.length),(9,aa 0)],[]⟩ (by omega) (by simp[aJ,aG])
 rw[jQ,fG,rS]at h;simp only[qQD,cM]at h;simp[vL];rw[h];simp
theorem qF8(u:aB)(m:small u):ap XV 250 [.d (binds .sub u)] []=some (.d (binds U u),[]):=by
 rw[aN 250 Ag rfl];obtain⟨m,q⟩:=m;have h:=cd (X:=XV) (T:=XV.lin 250) (L:=0) (live:=[0,3,4]) (b:=AG) (n:=u.length) (γ:=Nat) (st:=fun(_:Unit) i=>⟨[(0,.d (binds .sub u)),(3,.d (.sl U ((u.take i).map (Bd.enc U)))),(4,aa i)],[]⟩) (step:=eC)
  (F:=fun _=>(.exit 0,⟨[(0,.d (binds .sub u)),(3,.d (.sl U ((u.take u.length).map (Bd.enc U)))),(4,aa u.length),(9,ax false)],[]⟩)) (R:=fun _=>(.ret,⟨[],[]⟩))
  (fun a=>⟨by simp,by simp[AG]⟩)
  (fun a i hi=>by
   have o:=bE (n:=i) (by omega);have hc:=uD (aH u i).t (q i hi);have r:=cY hi;have e:=C9 (u.take i) (aH u i) (by simp;omega);have c:=Cg u i hi;rw[<-c]at e;generalize g:(u.take (i+1)).map (Bd.enc U)=R2 at e;generalize (u.take i).map (Bd.enc U)=R1 at*
   generalize aH u i=b at*
   unfold eC;exact⟨_,by simp[AG,qXC,hi,o,cut,r,hc,e,splice,aW,ba];rfl,by simp[aJ,aG,<-g]⟩)
  u.length () 0 ⟨[(0,.d (binds .sub u)),(3,.d (.sl U ((u.take 0).map (Bd.enc U)))),(4,aa 0)],[]⟩ (by omega) (by simp[aJ,aG])
 rw[jQ,fG,rS]at h;simp only[Uy,cM]at h;simp[Ag];rw[h];simp
theorem xG(xs:al)(x:DV)(g:Tag)(h:(xs.length+1)*48<=140737488355328)(a:∀y,y∈xs->y.cells.length=4)(c:x.cells.length=4)(hc:x.cells.all DV.isCell=true):cK 4 48 (.sl U xs) (.sl g [x])=some (.sl U (xs++[x])):=by
 have b:xs.all (fun e=>decide (e.cells.length=4))=true:=by rw[bB];intro y d;simpa using a y d
 unfold cK;simp only;rw[aw (by simp[c];simpa using hc)];simp only[gW,bL,if_false];rw[aw ⟨by simpa using h,trivial,b⟩]
def lh(u:aB)(b:Bd)(k i:Nat):al:=if i=k then [b.enc U]else []
def dR(u:aB)(b:Bd)(k:Nat):Nat->al
 |0=>[]
 |i+1=>(dR u b k i++lh u b k i)++[(aH u i).enc .sub]
theorem EF(u:aB)(b:Bd)(k:Nat):∀i,(dR u b k i).length<=2*i
 |0=>bf _
 |i+1=>by have:=EF u b k i;unfold dR lh;split<;>simp<;>omega
theorem FM(u:aB)(b:Bd)(k:Nat):∀i y,y∈dR u b k i->y.cells.length=4
 |0,y,h=>by simp[dR]at h
 |i+1,y,h=>by
  unfold dR lh at h;simp only[bC,bO]at h;rcases h with(h|h)|h
  ·exact FM u b k i y h
  ·split at h
   ·simp at h;subst h;rfl
   ·simp at h
  ·subst h;rfl
theorem LK(u:aB)(b:Bd)(k:Nat):∀i,i<=u.length->(dR u b k i).map DV.clr=(if k<i then u.take k++b::(u.take i).drop k else u.take i).map (Bd.enc .sub)
 |0,_=>by simp[dR]
 |i+1,hi=>by
  have d:=LK u b k i (by omega);have a:=Cg u i (by omega);unfold dR lh;rw[c6,c6,d]
  by_cases c1:i=k
  ·subst c1
   rw[au (Nat.lt_irrefl i),aw rfl,aw (j1 i),a];have:(List.take i u++[aH u i]).drop i=[aH u i]:=by rw[F7 (by simp;omega),oz (by simp;omega)];rfl
   rw[this];simp
  ·rw[au c1]
   by_cases c:k<i
   ·rw[aw c,aw (by omega),a,F7 (by simp;omega)]
    simp
   ·rw[au c,au (by omega),a]
    simp
theorem JJ(u:aB)(v:Int)(i:Nat)(hi:i<u.length)(h:i<fD u v):¬(aH u i).v>v:=by unfold fD at h;have:=NF h;rw[cY hi]at this;simpa using this
theorem Jk(u:aB)(v:Int)(h:fD u v<u.length):(aH u (fD u v)).v>v:=by
 unfold fD at h⊢
 have:=List.findIdx_getElem (w:=h);rw[cY h]at this;simpa using this
theorem He(u:aB)(v:Int)(t:T)(S:u.length<=549755813888)(O:t.inner<=1099511627776):
 ∃xs,xs.map DV.clr=(cC u v t).map (Bd.enc .sub)/\ap XV 313 [.d (binds .sub u),aa v,.d (t.enc .sub)] []=some (.d (.sl U xs),[]):=by
 have r:=uD t O;obtain⟨f,w,ks⟩:=t;obtain⟨k,z⟩:∃k,k=fD u v:=⟨_,rfl⟩;refine⟨dR u ⟨v,.node f w ks⟩ k u.length++lh u ⟨v,.node f w ks⟩ k u.length,?_,?_⟩
 ·have I:k<=u.length:=by rw[z];exact rP
  rw[c6,LK u _ k u.length (bf _)];unfold cC lh;rw[<-z,fG]
  by_cases c:k<u.length
  ·rw[aw c,au (by omega)];simp
  ·have:k=u.length:=by omega
   subst this;rw[au c,aw rfl];simp
 rw[aN 313 wq rfl];have h:=cd (X:=XV) (T:=XV.lin 313) (L:=1) (live:=[0,1,5,7,8,9]) (b:=qj) (n:=u.length) (γ:=Nat) (st:=fun(_:Unit) i=>⟨[(0,.d (binds .sub u)),(1,aa v),(5,.ptr 0 0),(7,.d (.sl U (dR u ⟨v,.node f w ks⟩ k i))),(8,ax (decide (k<i))),(9,aa i)],[some [aa f,aa w,.d (ai .sub ks)]]⟩) (step:=eC)
  (F:=fun _=>(.exit 0,⟨[(0,.d (binds .sub u)),(1,aa v),(5,.ptr 0 0),(7,.d (.sl U (dR u ⟨v,.node f w ks⟩ k u.length))),(8,ax (decide (k<u.length))),(9,aa u.length),(14,ax false)],[some [aa f,aa w,.d (ai .sub ks)]]⟩)) (R:=fun _=>(.ret,⟨[],[]⟩))
  (fun a=>⟨by simp,by simp[qj]⟩)
  (fun a i hi=>by
   have D:=bE (n:=i) (by omega);have J:=cY hi;have M:=EF u ⟨v,.node f w ks⟩ k i;have o:=FM u ⟨v,.node f w ks⟩ k i;have C:=xG (dR u ⟨v,.node f w ks⟩ k i) ((aH u i).enc .sub) U (by omega) o rfl (by simp[aW,ba]);have K:cK 4 48 (.sl U (dR u ⟨v,.node f w ks⟩ k i)) (.sl U [.agg [.int .i64 v,.int .i64 f,.int .i64 w,ai U ks]])=some (.sl U (dR u ⟨v,.node f w ks⟩ k i++[(⟨v,.node f w ks⟩:Bd).enc U])):=xG (dR u ⟨v,.node f w ks⟩ k i) ((⟨v,.node f w ks⟩:Bd).enc U) U (by omega) o rfl (by simp[aW,ba]);have N:=xG (dR u ⟨v,.node f w ks⟩ k i++[(⟨v,.node f w ks⟩:Bd).enc U]) ((aH u i).enc .sub) U (by simp;omega) (fun y P=>by
    rcases bC.1 P with h|h
    ·exact o y h
    ·simp at h;subst h;rfl) rfl (by simp[aW,ba])
   have e:dR u ⟨v,.node f w ks⟩ k (i+1)=(dR u ⟨v,.node f w ks⟩ k i++lh u ⟨v,.node f w ks⟩ k i)++[(aH u i).enc .sub]:=rfl;unfold lh at e;generalize m:dR u ⟨v,.node f w ks⟩ k (i+1)=X2 at*
   generalize dR u ⟨v,.node f w ks⟩ k i=X1 at*
   unfold eC
   by_cases c1:k<i
   ·have g:¬i=k:=by omega
    have q:k<i+1:=by omega
    rw[au g,dB]at e;rw[<-e]at C;exact⟨_,by simp[qj,hi,D,cut,J,c1,C];rfl,by simp[aJ,aG,m,q]⟩
   ·by_cases g:i=k
    ·have G:(aH u i).v>v:=by rw[g,z];exact Jk u v (by omega)
     rw[aw g]at e;rw[<-e]at N;have q:k<i+1:=by omega
     exact⟨_,by simp[qj,hi,D,cut,J,c1,G,r,K,N,splice];rfl,by simp[aJ,aG,m,q]⟩
    ·have H:=JJ u v i hi (by omega)
     rw[au g,dB]at e;rw[<-e]at C;have q:¬k<i+1:=by omega
     exact⟨_,by simp[qj,hi,D,cut,J,c1,H,C];rfl,by simp[aJ,aG,m,q]⟩)
  u.length () 0 ⟨[(0,.d (binds .sub u)),(1,aa v),(5,.ptr 0 0),(7,.d (.sl U [])),(8,ax false),(9,aa 0)],[some [aa f,aa w,.d (ai .sub ks)]]⟩ (by omega) (by simp[aJ,aG,dR])
 rw[jQ]at h;simp only[O5]at h;have M:=EF u ⟨v,.node f w ks⟩ k u.length;have K:cK 4 48 (.sl U (dR u ⟨v,.node f w ks⟩ k u.length)) (.sl U [.agg [.int .i64 v,.int .i64 f,.int .i64 w,ai U ks]])=some (.sl U (dR u ⟨v,.node f w ks⟩ k u.length++[(⟨v,.node f w ks⟩:Bd).enc U])):=xG (dR u ⟨v,.node f w ks⟩ k u.length) ((⟨v,.node f w ks⟩:Bd).enc U) U (by omega) (FM u ⟨v,.node f w ks⟩ k u.length) rfl (by simp[aW,ba]);have I:k<=u.length:=by rw[z];exact rP
 simp[wq];rw[h];unfold lh;generalize dR u ⟨v,.node f w ks⟩ k u.length=X1 at*
 by_cases c:k<u.length
 ·have g:¬u.length=k:=by omega
  simp[c,g]
 ·have g:u.length=k:=by omega
  simp[g,r,K,splice]
def pr(t:T)(b:Bool):Bool:=b||decide (12<t.kids.length)
mutual
def dX:T->Bool
 | .node f v ks=>decide (12<ks.length)||l5 ks
def l5:ah->Bool
 | []=>false
 |t::ts=>dX t||l5 ts
end
mutual
theorem HI:∀(t:T) (b:Bool),T.fold pr t b=(b||dX t)
 | .node f v ks,b=>by simp only[T.fold,dX,Kq ks,pr,T.kids];rw[Bool.or_assoc];rfl
theorem Kq:∀(ts:ah) (b:Bool),T.folds pr ts b=(b||l5 ts)
 | [],b=>by simp[T.folds,l5]
 |t::ts,b=>by simp only[T.folds,l5,HI t,Kq ts];rw[Bool.or_assoc]
end
theorem quN(t:T)(g:t.inner<=1099511627776):ap XV 317 [.d (t.enc .sub)] []=some (ax (dX t),[]):=by
 rw[aN 317 yp rfl];have key:∀(b:Bool),ap XV 25 [.d (t.enc .sub),.fn 330 [.ptr 1 0]] ([some [aa t.f,aa t.v,.d (ai .sub t.kids)],some [ax b]]++[])=some (.d (.tup []),[some [aa t.f,aa t.v,.d (ai .sub t.kids)],some [ax (T.fold pr t b)]]++[]):=fun b=>
  Ez (fun b:Bool=>[some [aa t.f,aa t.v,.d (ai .sub t.kids)],some [ax b]]) pr 330 [.ptr 1 0] 2 (fun _=>rfl) (fun n m=>by simp;omega) rfl (by simp) (fun x b r=>by
   rw[aN 330 pB rfl];obtain⟨q,o,c⟩:=x;unfold pr;cases b
   ·by_cases e:12<c.length
    ·have a:(12:Int)<c.length:=by omega
     simp[pB,e,a,splice]
    ·have a:¬(12:Int)<c.length:=by omega
     simp[pB,e,a,splice]
   ·simp[pB,splice]) t g b []
 have h:=key false;rw[HI,pi]at h;simp only[dB]at h;obtain⟨f,v,ks⟩:=t;simp only[T.qaO,T.qbT,T.qaD]at h;simp[yp,h,splice]
theorem GK:∀ks:ah,l5 ks=ks.any dX
 | []=>rfl
 |t::ts=>by simp only[l5,List.any_cons,GK ts]
theorem MZ(q:Nat->Bool)(k i:Nat):(a8 q k i).isSome=true↔∃j,i<=j/\j<i+k/\q j=true:=by
 constructor
 ·intro h
  obtain⟨j,e⟩:=oU.1 h;exact⟨j,eQ q k i j e⟩
 ·induction k generalizing i with
  |zero=>rintro⟨j,a,c,_⟩;omega
  |succ k g=>
   rintro⟨j,a,c,b⟩
   simp only[a8];split
   ·rfl
   ·rename_i d
    refine g (i+1) ⟨j,?_,by omega,b⟩;rcases Nat.eq_or_lt_of_le a with rfl|h
    ·exact absurd b d
    ·exact h
theorem qCB(ks:ah):(a8 (fun i=>dX (aj ks i)) ks.length 0).isSome=l5 ks:=by
 rw[GK,r_,MZ,vm];constructor
 ·rintro⟨j,_,d,c⟩
  exact⟨_,bV (by omega),c⟩
 ·rintro⟨x,a,h⟩
  obtain⟨j,b,rfl⟩:=lU a;exact⟨j,db _,by omega,by rw[<-bg b];exact h⟩
theorem Xw(f v:Int)(ks:ah)(w:ks.length<=1099511627776)(g:∀t,t∈ks->ap XV 309 [.d (t.enc .sub)] []=some (ax (dX t),[])):
 ap XV 309 [.d ((T.node f v ks).enc .sub)] []=some (ax (dX (.node f v ks)),[]):=by
 rw[aN 309 Af rfl];have h:=cd (X:=XV) (T:=XV.lin 309) (L:=1) (live:=[1,3]) (b:=uF) (n:=ks.length) (γ:=Nat) (st:=fun(_:Unit) i=>⟨[(1,.ptr 0 0),(3,aa i)],[some [aa f,aa v,.d (ai .sub ks)]]⟩) (step:=cu fun i=>dX (aj ks i))
  (F:=fun _=>(.exit 0,⟨[(1,.ptr 0 0),(3,aa ks.length),(8,ax false)],[some [aa f,aa v,.d (ai .sub ks)]]⟩)) (R:=fun _=>(.ret,⟨[(2,ax true)],[some [aa f,aa v,.d (ai .sub ks)]]⟩))
  (fun a=>⟨by simp,by simp[uF]⟩)
  (fun a i hi=>by
   have r:=bE (n:=i) (by omega);have hc:=g _ (bV hi);unfold cu
   by_cases e:dX (aj ks i)=true
   ·rw[aw e];rw[e]at hc
    exact⟨by simp,by simp[uF,hi,cut,bg hi,hc]⟩
   ·rw[au e]
    have o:dX (aj ks i)=false:=by simpa using e
    rw[o]at hc;exact⟨_,by simp[uF,hi,r,cut,bg hi,hc];rfl,by simp[aJ,aG]⟩)
  ks.length () 0 ⟨[(1,.ptr 0 0),(3,aa 0)],[some [aa f,aa v,.d (ai .sub ks)]]⟩ (by omega) (by simp[aJ,aG])
 rw[eH]at h;simp only[qQx]at h;have c:=qCB ks;simp[Af];rw[h];simp only[dX];cases e:a8 (fun i=>dX (aj ks i)) ks.length 0 with
 |some j=>rw[e]at c;rw[<-c];simp
 |none=>
  rw[e]at c;rw[<-c]
  by_cases q:12<ks.length
  ·have m:(12:Int)<ks.length:=by omega
   simp[q,m]
  ·have m:¬(12:Int)<ks.length:=by omega
   simp[q,m]
theorem KZ(t:T)(a:t.inner<=1099511627776):ap XV 309 [.d (t.enc .sub)] []=some (ax (dX t),[]):=by
 match t,a with
 | .node f v ks,a=>simp only[T.inner]at a;exact Xw f v ks (by omega) fun s b=>KZ s (by have:=T.qaF b;omega)
termination_by t
decreasing_by
 simp_wf
 have:=gM b;omega
theorem Hd(m i:Nat)(hi:i<64):dm .shr .i64 (m:Int) (i:Int)=some (.int .i64 ((m/2^i:Nat):Int)):=by
 unfold dm;have c:¬((i:Int)<0):=by omega
 have b:IntKind.i64.bits=64:=rfl;have a:min i 64=i:=by omega
 simp only[au c,AO,b,a,aL,DV.int.injEq,j6];rw[Mx _ (by exact Int.pow_nonneg (by omega)),Int.natCast_ediv,Int.natCast_pow];rfl
theorem and_one(a:Nat)(e:a<4611686018427387904):dm .and .i64 (a:Int) 1=some (.int .i64 ((a%2:Nat):Int)):=by
 unfold dm bits;have d:BitVec.ofInt IntKind.i64.bits (a:Int)=BitVec.ofNat 64 a:=BitVec.ofInt_natCast 64 a;have b:BitVec.ofInt IntKind.i64.bits 1=BitVec.ofNat 64 1:=BitVec.ofInt_natCast 64 1;have c:(BitVec.ofNat 64 a&&&BitVec.ofNat 64 1).toNat=a%2:=by rw[BitVec.toNat_and,BitVec.toNat_ofNat,BitVec.toNat_ofNat,Gi (by omega),Gi (by omega),Nat.and_one_is_mod]
 simp only[bH,aL,DV.int.injEq,j6];rw[d,b];show IntKind.i64.wrap (((BitVec.ofNat 64 a&&&BitVec.ofNat 64 1).toNat:Nat):Int)=_;rw[c,IntKind.wrap_i64];omega
theorem Hh(m i:Nat):((((m/2^i%2:Nat):Int)==1)=m.testBit i):=by rw[Nat.testBit_eq_decide_div_mod_eq,r_,fa,bu];generalize m/2^i%2=r;omega
def bJ(l:ah)(m:Nat):Nat->ah
 |0=>[]
 |i+1=>if m.testBit i then bJ l m i++[aj l i]else bJ l m i
def cp(l:ah)(m:Nat):Nat->ah
 |0=>[]
 |i+1=>if m.testBit i then cp l m i else cp l m i++[aj l i]
theorem Fw(l:ah)(m:Nat):∀i,(bJ l m i).length<=i
 |0=>bf _
 |i+1=>by have:=Fw l m i;unfold bJ;split<;>simp<;>omega
theorem Cw(l:ah)(m:Nat):∀i,(cp l m i).length<=i
 |0=>bf _
 |i+1=>by have:=Cw l m i;unfold cp;split<;>simp<;>omega
theorem Yk(l:ah)(m:Nat)(G:l.length<=30)(I:m<1099511627776):
 ap XV 315 [.d (ai .sub l),aa m] []=some (.d (.tup [.sl U ((bJ l m l.length).map (T.enc .sub)),.sl U ((cp l m l.length).map (T.enc .sub))]),[]):=by
 rw[aN 315 xc rfl];have h:=cd (X:=XV) (T:=XV.lin 315) (L:=0) (live:=[0,1,6,7,8]) (b:=qY) (n:=l.length) (γ:=Nat) (st:=fun(_:Unit) i=>⟨[(0,.d (ai .sub l)),(1,aa m),(6,.d (.sl U ((bJ l m i).map (T.enc .sub)))),(7,.d (.sl U ((cp l m i).map (T.enc .sub)))),(8,aa i)],[]⟩) (step:=eC)
  (F:=fun _=>(.exit 0,⟨[(0,.d (ai .sub l)),(1,aa m),(6,.d (.sl U ((bJ l m l.length).map (T.enc .sub)))),(7,.d (.sl U ((cp l m l.length).map (T.enc .sub)))),(8,aa l.length),(14,ax false)],[]⟩)) (R:=fun _=>(.ret,⟨[],[]⟩))
  (fun a=>⟨by simp,by simp[qY]⟩)
  (fun a i hi=>by
   have z:=bE (n:=i) (by omega);have H:=Fw l m i;have D:=Cw l m i;have C:=qB (bJ l m i) [aj l i] U (by simp;omega);have y:=qB (cp l m i) [aj l i] U (by simp;omega);simp only[bA,cM,c6]at C y;have g:=Hd m i (by omega);have w:m/2^i<4611686018427387904:=Nat.lt_of_le_of_lt (Nat.div_le_self _ _) (by omega);have e:=and_one (m/2^i) w;have c:=Hh m i;generalize m/2^i=q at g e c;generalize q%2=r at e c;unfold eC
   by_cases o:m.testBit i=true
   ·exact⟨_,by simp[qY,hi,z,cut,bg hi,C,g,e,c,o];rfl,by simp[aJ,aG,bJ,cp,o]⟩
   ·exact⟨_,by simp[qY,hi,z,cut,bg hi,y,g,e,c,o];rfl,by simp[aJ,aG,bJ,cp,o]⟩)
  l.length () 0 ⟨[(0,.d (ai .sub l)),(1,aa m),(6,.d (.sl U [])),(7,.d (.sl U [])),(8,aa 0)],[]⟩ (by omega) (by simp[aJ,aG,bJ,cp])
 rw[jQ]at h;simp only[XE]at h;simp[xc];rw[h];simp
def ci(p t:T):Gl:=⟨false,0,[p],[t]⟩
def bX(f:Int)(ps ts:ah):Gl:=⟨true,f,ps,ts⟩
def partsOf(f:Int)(t:T):ah:=if t.f=f then t.kids else [t]
def cP(s:aF):Nat->bR->aB->List (Option aB)
 |0,_,_=>[]
 |n+1,[],u=>[none,some u]
 |n+1,⟨true,f,ps,ts⟩::rest,u=>none::(match ps with
  | []=>if ts.length=0 then cP s n rest u else []
  |p::ps=>if p.f= -1 then(match cW u p.v with
   |some j=>(match takeN ts (partsOf f (aH u j).t)with
    | .inl r=>cP s n (bX f ps r::rest) u
    | .inr _=>[])
   |none=>(List.range (2^ts.length-1)).flatMap fun m=>cP s n (bX f ps (cp ts (m+1) ts.length)::rest) (cC u p.v (cU s f (bJ ts (m+1) ts.length))))
   else(List.range ts.length).flatMap fun i=>cP s n (ci p (aj ts i)::bX f ps (cV ts i)::rest) u)
 |n+1,⟨false,f,ps,ts⟩::rest,u=>none::(if(aj ps 0).f= -1 then(match cW u (aj ps 0).v with
  |none=>cP s n rest (cC u (aj ps 0).v (aj ts 0))
  |some j=>if T.cmp (aH u j).t (aj ts 0)==0 then cP s n rest u else [])
  else if(aj ps 0).f≠(aj ts 0).f then []
  else if bI s (aj ps 0).f=true then cP s n (bX (aj ps 0).f (aj ps 0).kids (aj ts 0).kids::rest) u
  else if(aj ps 0).kids.length≠(aj ts 0).kids.length then []
  else cP s n ((List.range (aj ps 0).kids.length).map (fun i=>ci (aj (aj ps 0).kids i) (aj (aj ts 0).kids i))++rest) u)
def ir(g:Gl):Nat:=if g.many then 1+3*bw g.ps else 3*(aj g.ps 0).inner+2
def fN(l:bR):Nat:=(l.map ir).sum
structure MS where
 ways:List aB
 steps:Nat
 over:Bool
def MS.done(S:MS):Bool:=S.over||decide (60<S.ways.length)
def MS.ev(S:MS)(e:Option aB):MS:=
 if S.done then S else match e with
 |none=>{S with steps:=S.steps+1,over:=decide (20000<S.steps+1)}
 |some u=>if hJ S.ways u then S else{S with ways:=S.ways++[u]}
def MS.run(S:MS)(a:List (Option aB)):MS:=a.foldl MS.ev S
theorem MS.qfT(S:MS)(h:S.done=true):∀a,S.run a=S
 | []=>rfl
 |e::a=>by
  have:S.ev e=S:=by unfold MS.ev;rw[aw h]
  show MS.run (S.ev e) a=S;rw[this];exact MS.qfT S h a
theorem MS.qg6(S:MS)(a b:List (Option aB)):S.run (a++b)=(S.run a).run b:=List.foldl_append
theorem MS.qeF(S:MS)(e:Option aB)(b:List (Option aB)):S.run (e::b)=(S.ev e).run b:=rfl
theorem MS.qOF(S:MS)(e:Option aB)(h:S.ways.length<=61):(S.ev e).ways.length<=61:=by
 unfold MS.ev;split
 ·exact h
 ·rename_i a
  cases e with
  |none=>exact h
  |some u=>
   simp only;split
   ·exact h
   ·unfold MS.done at a
    simp only[cI,bu,not_or]at a;simp;omega
theorem MS.qIc(S:MS):∀(a:List (Option aB)),S.ways.length<=61->(S.run a).ways.length<=61
 | [],h=>h
 |e::a,h=>MS.qIc (S.ev e) a (S.qOF e h)
abbrev dI(ws:List aB):DV:= .sl U (ws.map (binds U))
def mB(s:aF)(S:MS):aA:=iw (sg s) (dI S.ways) 60 S.steps 20000 S.over
theorem nK(s:aF)(S:MS)(pre r:ar):ap XV 319 [.ptr pre.length 0] (pre++some (mB s S)::r)=some (ax S.done,pre++some (mB s S)::r):=by
 have h:=qRs pre r (sg s) U (S.ways.map (binds U)) 60 S.steps 20000 S.over;have e:decide (((S.ways.map (binds U)).length:Int)>60)=decide (60<S.ways.length):=by rw[eo,r_,bu,bu];omega
 rw[e]at h;exact h
theorem oa(pre:ar)(x:Option aA)(r e:ar):(pre++x::(r++e)).take (pre.length+(r.length+1))=pre++x::r:=by rw[show pre++x::(r++e)=(pre++x::r)++e by simp,rh (by simp)]
theorem Pm(s:aF)(S:MS)(gl:bR)(u:aB)(pre r:ar)(a:S.done=true):
 ap XV 318 [.ptr pre.length 0,.d (bD .sub gl),.d (binds .sub u)] (pre++some (mB s S)::r)=some (.d (.tup []),pre++some (mB s S)::r):=by
 rw[aN 318 iD rfl];have h:=nK s S pre (r++[some [.d (binds .sub u)]]);rw[a]at h;simp[iD,h,oa]
def MS.step(S:MS):MS:={S with steps:=S.steps+1,over:=decide (20000<S.steps+1)}
theorem MS.qgK(S:MS)(h:S.done=false):S.ev none=S.step:=by unfold MS.ev;rw[h];rfl
theorem MS.qvq(S:MS)(h:S.done=false)(u:aB):S.ev (some u)=if hJ S.ways u then S else{S with ways:=S.ways++[u]}:=by unfold MS.ev;rw[h];rfl
theorem qGM(s:aF)(S:MS)(gl:bR)(u:aB)(pre r:ar)(o:S.done=false)(g:20000<S.steps+1)(q:S.steps<=20001):
 ap XV 318 [.ptr pre.length 0,.d (bD .sub gl),.d (binds .sub u)] (pre++some (mB s S)::r)=some (.d (.tup []),pre++some (mB s S.step)::r):=by
 rw[aN 318 iD rfl];have h:=nK s S pre (r++[some [.d (binds .sub u)]]);rw[o]at h;have a:¬(pre.length+(r.length+1+1)<=pre.length):=by omega
 have b:IntKind.i64.wrap ((S.steps:Int)+1)=((S.steps+1:Nat):Int):=by rw[IntKind.wrap_i64];omega
 have c:(20000:Int)<((S.steps+1:Nat):Int):=by omega
 have e:mB s S=[.d (sg s),.d (dI S.ways),aa 60,aa S.steps,aa 20000,ax S.over]:=rfl;have n:mB s S.step=[.d (sg s),.d (dI S.ways),aa 60,aa (S.steps+1:Nat),aa 20000,ax true]:=by unfold mB iw MS.step;simp[g]
 rw[e]at h;rw[e,n];generalize ((S.steps+1:Nat):Int)=m at*
 simp[iD,uA,h,oa,splice,b,c,a]
@[simp] theorem qHD:DV.clr∘binds U=binds .sub:=funext fun w=>by simp[binds]
theorem LE(L:List aB)(t:Tag)(u:aB)(a:(L.length+1)*24<=140737488355328):cK 1 24 (.sl U (L.map (binds U))) (.sl t [binds U u])=some (.sl U ((L++[u]).map (binds U))):=by
 have b:(L.map (binds U)).all (fun e=>decide (e.cells.length=1))=true:=by rw[bB];intro y c;obtain⟨z,_,rfl⟩:=cw.1 c;rfl
 unfold cK;simp only;rw[aw (by rfl)];simp only[gW,bL,if_false];rw[aw ⟨by simpa using a,trivial,b⟩];simp
theorem Pz(s:aF)(S:MS)(u:aB)(pre r:ar)(b:S.done=false)(J:S.steps+1<=20000)(I:∀w,w∈S.ways->small w)(D:small u):
 ap XV 318 [.ptr pre.length 0,.d (bD .sub []),.d (binds .sub u)] (pre++some (mB s S)::r)=some (.d (.tup []),pre++some (mB s (if hJ S.ways u then S.step else{S.step with ways:=S.ways++[u]}))::r):=by
 rw[aN 318 iD rfl];have h:=nK s S pre (r++[some [.d (binds .sub u)]]);rw[b]at h;have H:S.ways.length<=60:=by unfold MS.done at b;simp only[kC,jN]at b;omega
 have o:pre.length<pre.length+(r.length+1+1):=by omega
 have g:¬(pre.length+(r.length+1+1)<=pre.length):=by omega
 have y:¬(r.length+1<=r.length):=by omega
 have c:IntKind.i64.wrap ((S.steps:Int)+1)=((S.steps+1:Nat):Int):=by rw[IntKind.wrap_i64];omega
 have G:¬(20000:Int)<((S.steps+1:Nat):Int):=by omega
 have n:decide (20000<S.steps+1)=false:=by simp;omega
 have z:S.over=false:=by unfold MS.done at b;simp only[kC]at b;exact b.1
 have e:mB s S=[.d (sg s),.d (dI S.ways),aa 60,aa S.steps,aa 20000,ax false]:=by unfold mB iw;rw[z]
 have F:mB s S.step=[.d (sg s),.d (dI S.ways),aa 60,aa (S.steps+1:Nat),aa 20000,ax false]:=by unfold mB iw MS.step;rw[n]
 have e3:mB s {S.step with ways:=S.ways++[u]}=[.d (sg s),.d (dI (S.ways++[u])),aa 60,aa (S.steps+1:Nat),aa 20000,ax false]:=by unfold mB iw MS.step;rw[n]
 have a:=VH S.ways u (pre++some (mB s S.step)::r) [] (by omega) I D;have C:=Zy u D;have q:=LE S.ways U u (by omega);simp only[ek,de,cr,dk]at a;rw[F]at a;rw[e]at h;rw[e];cases hh:hJ S.ways u with
 |true=>
  rw[hh]at a;simp only[if_true];rw[F];generalize ((S.steps+1:Nat):Int)=m at*
  simp[iD,uA,h,o,oa,splice,c,G,g,a]
 |false=>
  rw[hh]at a;simp only[bL,if_false];rw[e3];generalize ((S.steps+1:Nat):Int)=m at*
  simp[iD,uA,qXy,h,o,oa,splice,c,G,g,y,a,C,q]
theorem Lt(b:Bool)(f:Int)(ps ts:ah):DV.agg [.bool b,.int .i64 f,ai .sub ps,ai .sub ts]=(Gl.mk b f ps ts).enc .sub:=rfl
@[simp] theorem Gl.qgL(g:Tag)(x:Gl):(x.enc g).cells=[.bool x.many,.int .i64 x.f,ai g x.ps,ai g x.ts]:=rfl
@[simp] theorem Gl.qjJ(g:Tag)(x:Gl):(AV.d (x.enc g)).cells=[ax x.many,aa x.f,.d (ai g x.ps),.d (ai g x.ts)]:=rfl
@[simp] theorem Gl.qjI(g:Tag)(x:Gl):(x.enc g).isCell=false:=rfl
@[simp] theorem Gl.qfU(x:Gl):(x.enc .sub).clr=x.enc .sub:=by simp[Gl.enc]
@[simp] theorem Vz:DV.clr∘Gl.enc .sub=Gl.enc .sub:=funext fun w=>by simp
theorem qGN(s:aF)(S n:MS)(f:Int)(ps ts:ah)(rest:bR)(u:aB)(pre r:ar)(b:S.done=false)(H:S.steps+1<=20000)
 (a:∀D,ap XV 321 [.ptr pre.length 0,.d ((Gl.mk true f ps ts).enc .sub),.d (bD .sub rest),.d (binds .sub u)] (pre++some (mB s S.step)::D)=some (.d (.tup []),pre++some (mB s n)::D)):
 ap XV 318 [.ptr pre.length 0,.d (bD .sub (⟨true,f,ps,ts⟩::rest)),.d (binds .sub u)] (pre++some (mB s S)::r)=some (.d (.tup []),pre++some (mB s n)::r):=by
 rw[aN 318 iD rfl];have h:=nK s S pre (r++[some [.d (binds .sub u)]]);rw[b]at h;have q:pre.length<pre.length+(r.length+1+1):=by omega
 have g:¬(pre.length+(r.length+1+1)<=pre.length):=by omega
 have c:IntKind.i64.wrap ((S.steps:Int)+1)=((S.steps+1:Nat):Int):=by rw[IntKind.wrap_i64];omega
 have F:¬(20000:Int)<((S.steps+1:Nat):Int):=by omega
 have o:decide (20000<S.steps+1)=false:=by simp;omega
 have w:S.over=false:=by unfold MS.done at b;simp only[kC]at b;exact b.1
 have e:mB s S=[.d (sg s),.d (dI S.ways),aa 60,aa S.steps,aa 20000,ax false]:=by unfold mB iw;rw[w]
 have G:mB s S.step=[.d (sg s),.d (dI S.ways),aa 60,aa (S.steps+1:Nat),aa 20000,ax false]:=by unfold mB iw MS.step;rw[o]
 have C:=a (r++[some [.d (binds .sub u)],some [ax true,aa f,.d (ai .sub ps),.d (ai .sub ts)]]);rw[G]at C;rw[e]at h;rw[e];have z:(((rest.length:Int)+1)==0)=false:=by simp;omega
 have y:List.take rest.length (rest.map (Gl.enc .sub))=rest.map (Gl.enc .sub):=dE (by simp);generalize ((S.steps+1:Nat):Int)=m at*
 generalize mB s n=X at*
 simp[iD,uA,GR,h,q,oa,splice,c,F,g,z,cut,y,Lt,C]
theorem Z_(s:aF)(S n:MS)(f:Int)(p t:T)(rest:bR)(u:aB)(pre r:ar)(b:S.done=false)(P:S.steps+1<=20000)
 (a:∀F,ap XV 322 [.ptr pre.length 0,.d (p.enc .sub),.d (t.enc .sub),.d (bD .sub rest),.d (binds .sub u)] (pre++some (mB s S.step)::F)=some (.d (.tup []),pre++some (mB s n)::F)):
 ap XV 318 [.ptr pre.length 0,.d (bD .sub (⟨false,f,[p],[t]⟩::rest)),.d (binds .sub u)] (pre++some (mB s S)::r)=some (.d (.tup []),pre++some (mB s n)::r):=by
 obtain⟨G,H,N⟩:=p;obtain⟨J,M,I⟩:=t;rw[aN 318 iD rfl];have h:=nK s S pre (r++[some [.d (binds .sub u)]]);rw[b]at h;have q:pre.length<pre.length+(r.length+1+1):=by omega
 have g:¬(pre.length+(r.length+1+1)<=pre.length):=by omega
 have y:¬(r.length+2<=r.length):=by omega
 have c:IntKind.i64.wrap ((S.steps:Int)+1)=((S.steps+1:Nat):Int):=by rw[IntKind.wrap_i64];omega
 have K:¬(20000:Int)<((S.steps+1:Nat):Int):=by omega
 have o:decide (20000<S.steps+1)=false:=by simp;omega
 have w:S.over=false:=by unfold MS.done at b;simp only[kC]at b;exact b.1
 have e:mB s S=[.d (sg s),.d (dI S.ways),aa 60,aa S.steps,aa 20000,ax false]:=by unfold mB iw;rw[w]
 have O:mB s S.step=[.d (sg s),.d (dI S.ways),aa 60,aa (S.steps+1:Nat),aa 20000,ax false]:=by unfold mB iw MS.step;rw[o]
 have D:=a (r++[some [.d (binds .sub u)],some [ax false,aa f,.d (.sl .sub [(T.node G H N).enc .sub]),.d (.sl .sub [(T.node J M I).enc .sub])]]);rw[O]at D;rw[e]at h;rw[e];have C:(((rest.length:Int)+1)==0)=false:=by simp;omega
 have z:List.take rest.length (rest.map (Gl.enc .sub))=rest.map (Gl.enc .sub):=dE (by simp);generalize ((S.steps+1:Nat):Int)=m at*
 generalize mB s n=X at*
 simp[iD,uA,GR,PP,h,q,oa,splice,c,K,g,y,C,cut,z,D]
section
variable (s:aF) (p t:T) (rest:bR) (u:aB) (k:Nat) (Q Q':ar)
theorem PS(G:s.length<=1099511627776)(o:p.f= -1)(r:cW u p.v=none)(n:u.length<=1099511627776)(F:k<Q.length)(C:Q'.length=Q.length)
 (a:∀e,ap XV 318 [.ptr k 0,.d (bD .sub rest),.d (binds .sub (cC u p.v t))] (Q++e)=some (.d (.tup []),Q'++e)):
 ap XV 322 [.ptr k 0,.d (p.enc .sub),.d (t.enc .sub),.d (bD .sub rest),.d (binds .sub u)] Q=some (.d (.tup []),Q'):=by
 obtain⟨D,b,w⟩:=p;obtain⟨g,h,m⟩:=t;simp only[T.qaO,T.qbT]at o r a;subst o;rw[aN 322 gN rfl];have q:=jl (.node (-1) b w);simp only[T.qaO,BEq.rfl]at q;have c:=ue u b n;rw[r]at c;simp only at c;have y:=LI .sub .sub (by simp) (by simp) u b (.node g h m) [] n;have z:=a [some [aa (-1),aa b,.d (ai .sub w)],some [aa g,aa h,.d (ai .sub m)],some [aa 0,aa 0,.d (ai .sub [])]];generalize cC u b (.node g h m)=u2 at*
 simp[gN,q,c,y,z,C,splice]
theorem SF(j:Nat)(r:p.f= -1)(n:cW u p.v=some j)(o:small u)(G:t.inner<=1099511627776)(M:k<Q.length)(I:Q'.length=Q.length)
 (a:(T.cmp (aH u j).t t==0)=true->∀e,ap XV 318 [.ptr k 0,.d (bD .sub rest),.d (binds .sub u)] (Q++e)=some (.d (.tup []),Q'++e)) (h:(T.cmp (aH u j).t t==0)=false->Q'=Q):
 ap XV 322 [.ptr k 0,.d (p.enc .sub),.d (t.enc .sub),.d (bD .sub rest),.d (binds .sub u)] Q=some (.d (.tup []),Q'):=by
 obtain⟨J,b,F⟩:=p;simp only[T.qaO,T.qbT]at r n a;subst r;have K:=(eQ _ _ _ _ (show a8 (fun i=>(aH u i).v==b) u.length 0=some j from n)).2.1;have g:=same_eq (aH u j).t t (o.2 j (by omega)) G;obtain⟨q,C,D⟩:=t;rw[aN 322 gN rfl];have m:=jl (.node (-1) b F);simp only[T.qaO,BEq.rfl]at m;have c:=ue u b o.1;rw[n]at c;simp only at c;generalize (aH u j).t=w at*
 obtain⟨wf,y,z⟩:=w;cases hc:(T.cmp (.node wf y z) (.node q C D)==0)with
 |true=>rw[hc]at g;have H:=a hc [some [aa (-1),aa b,.d (ai .sub F)],some [aa q,aa C,.d (ai .sub D)],some [aa wf,aa y,.d (ai .sub z)]];simp[gN,m,c,g,H,I,splice]
 |false=>rw[hc]at g;rw[h hc];simp[gN,m,c,g,splice]
end
end Go.Proofs.YtpcoohnjllclnaaGreat.VS
