/- Contracts of the program's functions on the evaluator without names, and plain lemmas: part 4. -/
import Derived.Test.YtpcoohnjllclnaaGreatXP3
set_option linter.unusedSimpArgs false
set_option linter.unusedVariables false
namespace Go.Proofs.YtpcoohnjllclnaaGreat.VS
theorem Qx(u:aF)(n:Int)(M:Nat)(a:∀i,i<u.length->(aQ u i).t.inner<=M):(cJ u n).inner<=M:=by
 unfold cJ;split
 ·rename_i i h
  unfold co at h;exact a i (by have:=(dA _ _ _ _ h).2.1;omega)
 ·simp[T.inner,T.inners]
mutual
theorem EO(u:aF)(M:Nat)(a:∀i,i<u.length->(aQ u i).t.inner<=M):∀t:T,(bM u t).inner+1<=(t.inner+1)*(M+1)
 | .node f v ks=>by
  have h:=OJ u M a ks;simp only[bM];split
  ·have:=Qx u v M a
   have b:(M+1)<=((T.node f v ks).inner+1)*(M+1):=Nat.le_mul_of_pos_left _ (by omega);omega
  ·rw[T.qa0,T.qa0,kr]
   omega
theorem OJ(u:aF)(M:Nat)(a:∀i,i<u.length->(aQ u i).t.inner<=M):∀l:ah,bK (b9 u l)<=bK l*(M+1)
 | []=>by simp[b9,bK,T.inners]
 |t::r=>by
  have b:=EO u M a t;have c:=OJ u M a r;simp only[b9,iX,kr]at*
  omega
end
theorem Yy(u:aF)(G:u.length<=1099511627776)(z:∀i,i<u.length->(aQ u i).t.inner<=1099511627776)(f v:Int)(ks:ah)(I:ks.length<=1099511627776)
 (hc:∀t,t∈ks->ak XV 168 [.d (binds .sub u),.d (t.enc .sub)] []=some (.d ((bM u t).enc U),[])):
 ak XV 168 [.d (binds .sub u),.d ((T.node f v ks).enc .sub)] []=some (.d ((bM u (.node f v ks)).enc U),[]):=by
 rw[aL 168 un rfl];have h:=iQ (T.node f v ks)
 by_cases g:f= -1/\ks.length=0
 ·obtain⟨rfl,D⟩:=g
  have r:ks=[]:=ib.1 D;subst r;have H:=Up u v G z;simp only[bM,kq,xu,if_true];generalize cJ u v=a at*
  simp[un,h,H,splice,aY,a6,bb,ba,aW]
 ·have q:((f== -1)&&((ks.length:Int)==0))=false:=by
   rw[MJ]
   by_cases x:f= -1
   ·right;exact dR (by omega)
   ·left;exact dR x
  simp only[bM,aD g];have l:∀i,i<ks.length->bU 3 40 (.sl U ((b9 u (ks.take i)).map (T.enc U))) (.sl U [(bM u (ai ks i)).enc U])=some (.sl U ((b9 u (ks.take (i+1))).map (T.enc U))):=fun i hi=>by have:=rF (b9 u (ks.take i)) [bM u (ai ks i)] U (by rw[i7];simp;omega);rw[tn ks i hi,i7 u (_++_),cM,<-i7];exact this
  have c:=bE (X:=XV) (T:=XV.lin 168) (L:=2) (live:=[0,3,4,5,22,23,24]) (b:=ym) (n:=ks.length) (γ:=Unit) (st:=fun(_:Unit) i=>⟨[(0,.d (binds .sub u)),(3,.ptr 0 0),(4,.ptr 1 0),(5,.d (.sl U ((b9 u (ks.take i)).map (T.enc U)))),(22,.d (ao .sub ks)),(23,aa ks.length),(24,aa i)],nB f v ks⟩) (step:=fun _ _=> .inl ())
   (F:=fun _=>(.exit 0,⟨[(0,.d (binds .sub u)),(3,.ptr 0 0),(4,.ptr 1 0),(5,.d (.sl U ((b9 u (ks.take ks.length)).map (T.enc U)))),(22,.d (ao .sub ks)),(23,aa ks.length),(24,aa ks.length),(25,au false)],nB f v ks⟩)) (R:=fun _=>(.ret,⟨[],[]⟩))
   (fun _=>⟨by simp,by simp[ym]⟩)
   (fun _ i hi=>by
    have C:=aV (n:=i) (by omega);have o:=hc _ (bL hi);have m:=l i hi;generalize w:(b9 u (ks.take (i+1))).map (T.enc U)=l2 at m;generalize (b9 u (ks.take i)).map (T.enc U)=l1 at m⊢
    generalize bM u (ai ks i)=a at*
    exact⟨⟨[(0,.d (binds .sub u)),(3,.ptr 0 0),(4,.ptr 1 0),(5,.d (.sl U l2)),(22,.d (ao .sub ks)),(23,aa ks.length),(24,aa (i+1:Nat))],nB f v ks++[some [aa (ai ks i).f,aa (ai ks i).v,.d (ao .sub (ai ks i).kids)]]⟩,by simp[ym,nB,hi,C,cut,a5 hi,o,m,splice,aY,a6,bb,ba,aW],
     iS (e:=[some [aa (ai ks i).f,aa (ai ks i).v,.d (ao .sub (ai ks i).kids)]]) (by simp[<-w]) (by simp[aB]) (by simp[nB]) rfl⟩)
   ks.length () 0 ⟨[(0,.d (binds .sub u)),(3,.ptr 0 0),(4,.ptr 1 0),(5,.d (.sl U [])),(22,.d (ao .sub ks)),(23,aa ks.length),(24,aa 0)],nB f v ks⟩ (by omega) (iS (e:=[]) (by simp[b9]) (by simp[aB]) (by simp[nB]) (by simp))
  rw[dv,lg]at c;simp only[Qy,nB]at c;have j:(T.node f v (b9 u ks)).enc U= .agg [.int .i64 f,.int .i64 v,.sl U ((b9 u ks).map (T.enc U))]:=by rw[T.qb5];rfl
  rw[j];generalize (b9 u ks).map (T.enc U)=R at*
  simp only[T.qaO]at h;cases hf:(f== -1)with
  |false=>rw[hf]at h;simp[un,h,aY,a6,bb,ba,aW];rw[c];simp[splice,aY,a6,bb,ba,aW]
  |true=>
   rw[hf]at h q;simp only[eF]at q;generalize y:(ks.length:Int)=n at*
   simp[un,h,q,y,aY,a6,bb,ba,aW];rw[c];simp[splice,aY,a6,bb,ba,aW]
theorem J2(u:aF)(b:u.length<=1099511627776)(c:∀i,i<u.length->(aQ u i).t.inner<=1099511627776)(t:T)(a:t.inner<=1099511627776):ak XV 168 [.d (binds .sub u),.d (t.enc .sub)] []=some (.d ((bM u t).enc U),[]):=by
 match t,a with
 | .node f v ks,a=>rw[T.qa0]at a;exact Yy u b c f v ks (by have:=gA ks;omega) fun x hx=>J2 u b c x (by have:=eH hx;omega)
termination_by t
decreasing_by
 simp_wf
 have:=d9 hx;omega
theorem Wz(u:aF)(D:u.length<=1099511627776)(y:∀i,i<u.length->(aQ u i).t.inner<=1099511627776)(f v:Int)(ks:ah)(H:ks.length<=1099511627776)
 (hc:∀t,t∈ks->ak XV 152 [.d (binds .sub u),.d (t.enc .sub)] []=some (.d ((bM u t).enc U),[])):
 ak XV 152 [.d (binds .sub u),.d ((T.node f v ks).enc .sub)] []=some (.d ((bM u (.node f v ks)).enc U),[]):=by
 rw[aL 152 uC rfl]
 by_cases g:f= -1/\ks.length=0
 ·obtain⟨rfl,C⟩:=g
  have q:ks=[]:=ib.1 C;subst q;have G:=qvL u v D y;simp only[bM,kq,xu,if_true];generalize cJ u v=a at*
  simp[uC,G,splice,aY,a6,bb,ba,aW]
 ·have o:((f== -1)&&((ks.length:Int)==0))=false:=by
   rw[MJ]
   by_cases w:f= -1
   ·right;exact dR (by omega)
   ·left;exact dR w
  simp only[bM,aD g];have j:∀i,i<ks.length->bU 3 40 (.sl U ((b9 u (ks.take i)).map (T.enc U))) (.sl U [(bM u (ai ks i)).enc U])=some (.sl U ((b9 u (ks.take (i+1))).map (T.enc U))):=fun i hi=>by have:=rF (b9 u (ks.take i)) [bM u (ai ks i)] U (by rw[i7];simp;omega);rw[tn ks i hi,i7 u (_++_),cM,<-i7];exact this
  have c:=bE (X:=XV) (T:=XV.lin 152) (L:=3) (live:=[0,3,4,5,6]) (b:=A2) (n:=ks.length) (γ:=Unit) (st:=fun(_:Unit) i=>⟨[(0,.d (binds .sub u)),(3,.ptr 0 0),(4,.ptr 1 0),(5,.ptr 2 0),(6,aa i)],di f v ks ((b9 u (ks.take i)).map (T.enc U))⟩) (step:=fun _ _=> .inl ())
   (F:=fun _=>(.exit 0,⟨[(0,.d (binds .sub u)),(3,.ptr 0 0),(4,.ptr 1 0),(5,.ptr 2 0),(6,aa ks.length),(29,au false)],di f v ks ((b9 u (ks.take ks.length)).map (T.enc U))⟩)) (R:=fun _=>(.ret,⟨[],[]⟩))
   (fun _=>⟨by simp,by simp[A2,di,aW]⟩)
   (fun _ i hi=>by
    have z:=aV (n:=i) (by omega);have m:=hc _ (bL hi);have l:=j i hi;generalize r:(b9 u (ks.take (i+1))).map (T.enc U)=l2 at l;generalize (b9 u (ks.take i)).map (T.enc U)=l1 at l⊢
    generalize bM u (ai ks i)=a at*
    exact⟨⟨[(0,.d (binds .sub u)),(3,.ptr 0 0),(4,.ptr 1 0),(5,.ptr 2 0),(6,aa (i+1:Nat))],di f v ks l2⟩,by simp[A2,Q1,di,hi,z,cut,a5 hi,m,l,splice,AV.qay,aY,a6,bb,ba,aW],
     iS (e:=[]) (by simp) (by simp[aB]) (by simp[di]) (by simp[<-r])⟩)
   ks.length () 0 ⟨[(0,.d (binds .sub u)),(3,.ptr 0 0),(4,.ptr 1 0),(5,.ptr 2 0),(6,aa 0)],di f v ks []⟩ (by omega) (iS (e:=[]) (by simp) (by simp[aB]) (by simp[di]) (by simp[b9]))
  rw[dv,lg]at c;simp only[qUL,di]at c;have h:(T.node f v (b9 u ks)).enc U= .agg [.int .i64 f,.int .i64 v,.sl U ((b9 u ks).map (T.enc U))]:=by rw[T.qb5];rfl
  rw[h];generalize (b9 u ks).map (T.enc U)=R at*
  cases hf:(f== -1)with
  |false=>simp[uC,hf,splice,aY,a6,bb,ba,aW];rw[c];simp[splice,aY,a6,bb,ba,aW,AV.qay]
  |true=>
   rw[hf]at o;simp only[eF]at o;generalize x:(ks.length:Int)=n at*
   simp[uC,hf,o,x,splice,aY,a6,bb,ba,aW];rw[c];simp[splice,aY,a6,bb,ba,aW,AV.qay]
theorem JR(u:aF)(b:u.length<=1099511627776)(c:∀i,i<u.length->(aQ u i).t.inner<=1099511627776)(t:T)(a:t.inner<=1099511627776):ak XV 152 [.d (binds .sub u),.d (t.enc .sub)] []=some (.d ((bM u t).enc U),[]):=by
 match t,a with
 | .node f v ks,a=>rw[T.qa0]at a;exact Wz u b c f v ks (by have:=gA ks;omega) fun x hx=>JR u b c x (by have:=eH hx;omega)
termination_by t
decreasing_by
 simp_wf
 have:=d9 hx;omega
def aT(l:aC)(u:aF)(t:T):T:=(bM u t).norm l
theorem Vs(l:aC)(u:aF)(t:T):(aT l u t).inner<=(bM u t).inner:=qc l _
theorem EM(l:aC)(g:l.length<=1099511627776)(u:aF)(t:T)(b:u.length<=1099511627776)(h:∀i,i<u.length->(aQ u i).t.inner<=1099511627776)(j:t.inner<=1099511627776)(m:(bM u t).inner<=1099511627776):
 ak XV 135 [.d (sg l),.d (binds .sub u),.d (t.enc .sub)] []=some (.d ((aT l u t).enc U),[]):=by
 have e:=J2 u b h t j;have n:=AX l g (bM u t) m;unfold aT;generalize bM u t=a at*
 generalize a.norm l=c at*
 rw[aL 135 BA rfl];simp[BA,e,n,splice,aY,a6,bb,ba,aW]
theorem E7(l:aC)(g:l.length<=1099511627776)(u:aF)(t:T)(c:u.length<=1099511627776)(h:∀i,i<u.length->(aQ u i).t.inner<=1099511627776)(j:t.inner<=1099511627776)(m:(bM u t).inner<=1099511627776):
 ∃d,ak XV 141 [.d (sg l),.d (binds .sub u),.d (t.enc .sub)] []=some (.d d,[])/\IsV d (aT l u t):=by
 have e:=JR u c h t j;have b:=DL l g (bM u t) m;refine⟨nM l (bM u t),?_,yY l _⟩;rw[nA]at b⊢
 generalize bM u t=a at*
 generalize jj l a=X at*
 rw[aL 141 CV rfl];simp[CV,e,b,splice,aY,a6,bb,ba,aW]
def dn(u:aF)(v:Int):bq:=aR (fun i=>decide (v<=(aQ u i).v)) u.length 0
def jy(u:aF)(v:Int)(i:Nat):Bool:=decide (dn u v=some i)
def gX(u:aF)(v:Int)(i:Nat):Bool:=match dn u v with
 |some j=>decide (j<i)
 |none=>false
theorem qO0(u:aF)(v:Int)(i:Nat)(hi:i<u.length):jy u v i=(!gX u v i&&decide (v<=(aQ u i).v)):=by
 have h:=yI (fun i=>decide (v<=(aQ u i).v)) u.length 0;unfold jy gX dn;cases hq:aR (fun i=>decide (v<=(aQ u i).v)) u.length 0 with
 |none=>have:=h.2 hq i (by omega) (by omega);simp[this]
 |some j=>
  have b:=(dA _ _ _ _ hq)
  by_cases e:j=i
  ·subst e
   have:=b.2.2;simp[this]
  ·rcases mh j i with a|a
   ·simp[e,a]
   ·have:=h.1 j hq i (by omega) (by omega)
    simp[e,this]
theorem qKD(u:aF)(v:Int):gX u v 0=false:=by unfold gX;split<;>simp
theorem Pn(u:aF)(v:Int)(i:Nat):gX u v (i+1)=(gX u v i||jy u v i):=by
 unfold gX jy;cases dn u v with
 |none=>simp
 |some j=>simp only[ca,Bool.or_eq_decide];rw[nZ];simp;omega
theorem qOQ(u:aF)(v:Int):gX u v u.length=(dn u v).isSome:=by
 unfold gX;cases hq:dn u v with
 |none=>rfl
 |some j=>have:=(dA _ _ _ _ hq).2.1;simp;omega
theorem qNU(u:aF)(v:Int)(i:Nat):((i:Int)==bC (dn u v))=jy u v i:=by
 unfold jy;cases dn u v with
 |none=>simp only[bC];rw[dR (by omega)];simp
 |some j=>
  simp only[bC]
  by_cases h:i=j
  ·subst h;simp
  ·rw[dR (by omega)]
   symm;simp;omega
theorem qIs(u:aF)(v:Int):decide (bC (dn u v)<0)= !(dn u v).isSome:=by
 cases dn u v with
 |none=>rfl
 |some j=>
  have:¬((j:Int)<0):=by omega
  simp[bC,this]
def kL(l:aC)(u:aF)(v:Int)(t:T)(i:Nat):aF:=(if jy u v i=true then [⟨v,t⟩]else [])++(if((aQ u i).v==v)=true then []else [⟨(aQ u i).v,aT l [⟨v,t⟩] (aQ u i).t⟩])
def cG(l:aC)(u:aF)(v:Int)(t:T):Nat->aF
 |0=>[]
 |i+1=>cG l u v t i++kL l u v t i
def bB(l:aC)(u:aF)(v:Int)(t:T):aF:=cG l u v t u.length++(if(dn u v).isSome=true then []else [⟨v,t⟩])
theorem qNT(l:aC)(u:aF)(v:Int)(t:T)(i:Nat):(kL l u v t i).length<=2:=by unfold kL;split<;>split<;>simp
theorem ss(l:aC)(u:aF)(v:Int)(t:T):∀i,(cG l u v t i).length<=2*i
 |0=>by simp[cG]
 |i+1=>by have a:=ss l u v t i;have b:=qNT l u v t i;simp only[cG,cD];omega
theorem Gx(a:aF)(x:Bd)(h:(a.length+1)*48<=140737488355328):bU 4 48 (.sl U (a.map (Bd.enc U))) (.sl U [x.enc U])=some (.sl U ((a++[x]).map (Bd.enc U))):=by unfold bU;simp only;rw[ay (by simp[aY,a6])];simp only[gN,bh,if_false];rw[ay ⟨by simpa using h,trivial,by simp⟩];simp
theorem Ck(a:aF)(v:Int)(t:T)(h:(a.length+1)*48<=140737488355328):bU 4 48 (.sl U (a.map (Bd.enc U))) (.sl U [.agg [.int .i64 v,.int .i64 t.f,.int .i64 t.v,ao U t.kids]])=some (.sl U ((a++[(⟨v,t⟩:Bd)]).map (Bd.enc U))):=Gx a ⟨v,t⟩ h
theorem Xj(b:Bd)(v:Int)(a:Option aH):ak XV 167 [.d (b.enc .sub),.ptr 0 0] [some [aa v],a]=some (au (decide (v<=b.v)),[some [aa v],a]):=by rw[aL 167 BN rfl];simp[BN,aY,a6,bb,ba,aW]
def vB(v:Int)(t:T):az:=[some [aa v],some [aa t.f,aa t.v,.d (ao .sub t.kids)]]
theorem qVJ(l:aC)(u:aF)(v k:Int)(t:T)(O:DV)(r:O.clr=O)(acc:aF)(w:acc.length+2<=2199023255560)(i:Nat)(hi:i<u.length)(z:u.length<=1099511627776)(g:((i:Int)==k)=jy u v i)
 (h:ak XV 150 [.d (t.enc .sub)] []=some (.d (t.enc U),[])) (j:ak XV 135 [.d (sg l),.d O,.d ((aQ u i).t.enc .sub)] []=some (.d ((aT l [⟨v,t⟩] (aQ u i).t).enc U),[])):
 ∃e:az,aS XV (XV.lin 137) n_ ⟨[(0,.d (sg l)),(6,.ptr 0 0),(7,.ptr 1 0),(9,.d O),(10,.d (.sl U (acc.map (Bd.enc U)))),(11,aa k),(22,.d (binds .sub u)),(23,aa u.length),(24,aa i)],vB v t⟩=
  some (.normal,⟨[(0,.d (sg l)),(6,.ptr 0 0),(7,.ptr 1 0),(9,.d O),(10,.d (.sl U ((acc++kL l u v t i).map (Bd.enc U)))),(11,aa k),(22,.d (binds .sub u)),(23,aa u.length),(24,aa (i+1:Nat))],vB v t++e⟩):=by
 have m:=aV (n:=i) (by omega);have o:=df hi;refine⟨[some (Ja (aQ u i))],?_⟩;unfold kL vB Ja;generalize aT l [⟨v,t⟩] (aQ u i).t=a at*
 generalize C:aQ u i=b at*
 have q:=Ck acc v t (by omega);have x:=Ck (acc++[⟨v,t⟩]) b.v a (by simp;omega);have y:=Ck acc b.v a (by omega);have D:∀a:aF,(a.map (Bd.enc U)).map DV.clr=a.map (Bd.enc .sub):=fun a=>by simp
 cases h1:jy u v i<;>cases h2:(b.v==v)
 ·have c:(b.v !=v)=true:=by simp[bne,h2]
  rw[h1]at g;simp only[bh,if_false,cp];generalize (acc++[(⟨b.v,a⟩:Bd)]).map (Bd.enc U)=R3 at*
  generalize acc.map (Bd.enc U)=R1 at*
  simp[n_,L6,hi,m,cut,o,g,c,j,r,y,splice,aY,a6,bb,ba,aW]
 ·have c:(b.v !=v)=false:=by simp[bne,h2]
  rw[h1]at g;simp only[bh,if_false,if_true,cR];generalize acc.map (Bd.enc U)=R1 at*
  simp[n_,hi,m,cut,o,g,c,splice,aY,a6,bb,ba,aW]
 ·have c:(b.v !=v)=true:=by simp[bne,h2]
  rw[h1]at g;simp only[bh,if_false,if_true,bW]at q x⊢
  generalize (acc++([(⟨v,t⟩:Bd)]++[(⟨b.v,a⟩:Bd)])).map (Bd.enc U)=R3 at*
  generalize (acc++[(⟨v,t⟩:Bd)]).map (Bd.enc U)=R2 at*
  generalize acc.map (Bd.enc U)=R1 at*
  simp[n_,O4,L6,hi,m,cut,o,g,c,j,h,r,q,x,splice,aY,a6,bb,ba,aW]
 ·have c:(b.v !=v)=false:=by simp[bne,h2]
  rw[h1]at g;simp only[if_true,cR];generalize (acc++[(⟨v,t⟩:Bd)]).map (Bd.enc U)=R2 at*
  generalize acc.map (Bd.enc U)=R1 at*
  simp[n_,O4,hi,m,cut,o,g,c,h,q,splice,aY,a6,bb,ba,aW]
theorem MG(l:aC)(H:l.length<=1099511627776)(u:aF)(v:Int)(t:T)(M:u.length<=1048577)(y:∀i,i<u.length->(aQ u i).t.inner<=1099511627776)(z:t.inner<=1099511627776)(K:∀i,i<u.length->(bM [⟨v,t⟩] (aQ u i).t).inner<=1099511627776):
 ak XV 137 [.d (sg l),.d (binds .sub u),aa v,.d (t.enc .sub)] []=some (.d (binds U (bB l u v t)),[]):=by
 have o:=wW t z;have c:=Jo u 167 [.ptr 0 0] (vB v t) (fun b=>decide (v<=b.v)) (by omega) (by simp[y8,eL,vB]) (by simp) (by simp) (fun b y=>Xj b v _);have m:∀i,i<u.length->ak XV 135 [.d (sg l),.d (binds .sub [(⟨v,t⟩:Bd)]),.d ((aQ u i).t.enc .sub)] []=some (.d ((aT l [⟨v,t⟩] (aQ u i).t).enc U),[]):=fun i hi=>EM l H [⟨v,t⟩] (aQ u i).t (by simp) (fun j C=>by simp at C;subst C;exact z) (y i hi) (K i hi)
 have I:(binds .sub [(⟨v,t⟩:Bd)]).clr=binds .sub [(⟨v,t⟩:Bd)]:=by simp
 have w:binds .sub [(⟨v,t⟩:Bd)]= .sl .sub [.agg [.int .i64 v,.int .i64 t.f,.int .i64 t.v,ao .sub t.kids]]:=rfl;have head:∀(x:Int) (R:DV) (O:DV) (e:az),aA 2 [0,6,7,9,10,11,22,23,24] ⟨[(0,.d (sg l)),(6,.ptr 0 0),(7,.ptr 1 0),(9,.d O),(10,.d R),(11,aa (bC (dn u v))),(22,.d (binds .sub u)),(23,aa u.length),(24,aa x)],vB v t++e⟩=some ⟨[(0,.d (sg l)),(6,.ptr 0 0),(7,.ptr 1 0),(9,.d O),(10,.d R),(11,aa (bC (dn u v))),(22,.d (binds .sub u)),(23,aa u.length),(24,aa x)],vB v t⟩:=fun x R O e=>iS (by simp) (by simp[aB]) (by simp[vB]) rfl
 have g:∀(k i:Nat),i+k=u.length->∀e:az,bo XV (XV.lin 137) 2 [0,6,7,9,10,11,22,23,24] n_ ⟨[(0,.d (sg l)),(6,.ptr 0 0),(7,.ptr 1 0),(9,.d (binds .sub [(⟨v,t⟩:Bd)])),(10,.d (.sl U ((cG l u v t i).map (Bd.enc U)))),(11,aa (bC (dn u v))),(22,.d (binds .sub u)),(23,aa u.length),(24,aa i)],vB v t++e⟩=
  some (.exit 0,⟨[(0,.d (sg l)),(6,.ptr 0 0),(7,.ptr 1 0),(9,.d (binds .sub [(⟨v,t⟩:Bd)])),(10,.d (.sl U ((cG l u v t u.length).map (Bd.enc U)))),(11,aa (bC (dn u v))),(22,.d (binds .sub u)),(23,aa u.length),(24,aa u.length),(25,au false)],vB v t⟩):=by
  intro k
  induction k with
  |zero=>
   intro i hi e;have:i=u.length:=by omega
   subst this;refine dN (head _ _ _ e) ?_ (by simp);generalize (cG l u v t u.length).map (Bd.enc U)=R;simp[n_,vB]
  |succ k G=>
   intro i hi e;have h:i<u.length:=by omega
   have r:=ss l u v t i;obtain⟨J,D⟩:=qVJ l u v (bC (dn u v)) t (binds .sub [(⟨v,t⟩:Bd)]) I (cG l u v t i) (by omega) i h (by omega) (qNU u v i) o (m i h);rw[<-G (i+1) (by omega) J];exact eb (head _ _ _ e) D
 have q:=g u.length 0 (by omega) [];have r:=ss l u v t u.length;have a:=qIs u v;have F:=Ck (cG l u v t u.length) v t (by omega);have n:bC (aR (fun i=>decide (v<=(aQ u i).v)) u.length 0)=bC (dn u v):=rfl;rw[aL 137 wK rfl];unfold bB;rw[n]at c;generalize bC (dn u v)=k at*
 simp only[cG,bS,cR,qUR,m8,vB]at q c;rw[w]at q;cases hsome:(dn u v).isSome with
 |true=>
  simp only[if_true,cR,binds];generalize (cG l u v t u.length).map (Bd.enc U)=R at*
  rw[hsome]at a;simp only[FH,lB]at a;simp[wK,c,splice,aY,a6,bb,ba,aW];rw[q];simp[a]
 |false=>
  simp only[bh,if_false,binds];generalize (cG l u v t u.length++[(⟨v,t⟩:Bd)]).map (Bd.enc U)=R2 at*
  generalize (cG l u v t u.length).map (Bd.enc U)=R at*
  rw[hsome]at a;simp only[cA,kF]at a;simp[wK,c,splice,aY,a6,bb,ba,aW];rw[q];simp[YW,a,o,F,splice,aY,a6,aW]
theorem QS{d:DV}{b:Bd}(h:d.clr=b.enc .sub):d.cells.length=4:=by
 cases d with
 |agg cs=>simp only[DV.clr,Bd.enc,DV.agg.injEq]at h;have:=yq List.length h;rw[DV.qay,cV]at this;simpa[DV.cells]using this
 |_=>unfold DV.clr Bd.enc at h;cases h
theorem BI(R:aw)(acc:aF)(i:R.map DV.clr=acc.map (Bd.enc .sub))(v f w:Int)(g:Tag)(X:aw)(h:(acc.length+1)*48<=140737488355328):
 bU 4 48 (.sl U R) (.sl U [.agg [.int .i64 v,.int .i64 f,.int .i64 w,.sl g X]])=some (.sl U (R++[DV.agg [.int .i64 v,.int .i64 f,.int .i64 w,.sl g X]])):=by
 have a:R.length=acc.length:=by have:=yq List.length i;simpa using this
 have c:R.all (fun e=>decide (e.cells.length=4))=true:=by
  rw[cm];intro d l;have:d.clr∈acc.map (Bd.enc .sub):=by rw[<-i];exact List.mem_map_of_mem l
  obtain⟨b,_,j⟩:=cE.1 this;simp[QS j.symm]
 unfold bU;simp only;rw[ay (by simp[DV.cells,aY,a6])];simp only[gN,bh,if_false];rw[ay ⟨by simp[a];omega,trivial,c⟩]
theorem qVI(l:aC)(u:aF)(v:Int)(t:T)(O:DV)(C:O.clr=O)(acc:aF)(R:aw)(h:R.map DV.clr=acc.map (Bd.enc .sub))(I:acc.length+2<=2199023255560)(i:Nat)(hi:i<u.length)(K:u.length<=1099511627776)
 (z:ak XV 146 [.d (t.enc .sub)] []=some (.d (t.enc U),[])) (d:DV) (m:ak XV 141 [.d (sg l),.d O,.d ((aQ u i).t.enc .sub)] []=some (.d d,[])) (J:IsV d (aT l [⟨v,t⟩] (aQ u i).t)):
 ∃F,aS XV (XV.lin 142) jt ⟨[(0,.d (sg l)),(1,.d (binds .sub u)),(2,aa v),(7,.ptr 0 0),(9,.d (.sl U R)),(10,.d O),(11,au (gX u v i)),(12,aa i)],[some [aa t.f,aa t.v,.d (ao .sub t.kids)]]⟩=
  some (.normal,⟨[(0,.d (sg l)),(1,.d (binds .sub u)),(2,aa v),(7,.ptr 0 0),(9,.d (.sl U F)),(10,.d O),(11,au (gX u v (i+1))),(12,aa (i+1:Nat))],[some [aa t.f,aa t.v,.d (ao .sub t.kids)]]⟩)/\F.map DV.clr=(acc++kL l u v t i).map (Bd.enc .sub):=by
 have o:=aV (n:=i) (by omega);have q:=df hi;have r:=qO0 u v i hi;rw[Pn];unfold kL;obtain⟨g,X,rfl,x⟩:=J;generalize aT l [⟨v,t⟩] (aQ u i).t=a at*
 generalize V:aQ u i=b at*
 have H:=BI R acc h v t.f t.v U (t.kids.map (T.enc U)) (by omega);have w:(R++[DV.agg [.int .i64 v,.int .i64 t.f,.int .i64 t.v,.sl U (t.kids.map (T.enc U))]]).map DV.clr=(acc++[(⟨v,t⟩:Bd)]).map (Bd.enc .sub):=by rw[cM,cM,h];simp only[bF,bS,DV.clr,DV.clrs,Bd.enc];rw[DV.qay,mg]
 have M:=BI _ _ w b.v a.f a.v g X (by simp;omega);have D:=BI R acc h b.v a.f a.v g X (by omega);have j:∀(Y:aw) (c:aF),Y.map DV.clr=c.map (Bd.enc .sub)->(Y++[DV.agg [.int .i64 b.v,.int .i64 a.f,.int .i64 a.v,.sl g X]]).map DV.clr=(c++[(⟨b.v,a⟩:Bd)]).map (Bd.enc .sub):=fun Y c P=>by rw[cM,cM,P];simp only[bF,bS,DV.clr,DV.clrs,Bd.enc];rw[DV.qay,x]
 generalize G:R++[DV.agg [.int .i64 v,.int .i64 t.f,.int .i64 t.v,.sl U (t.kids.map (T.enc U))]]=R1 at*
 cases h0:gX u v i<;>cases h1:decide (v<=b.v)<;>cases h2:(b.v==v)
 all_goals rw[h0,h1]at r
 all_goals simp only[kF,lB,t5,x_]at r
 all_goals rw[r]
 all_goals simp only[bh,if_false,if_true,cp,cR,Dy,mf]
 ·have e:(b.v !=v)=true:=by simp[bne,h2]
  refine⟨_,?_,j R acc h⟩;generalize R++[DV.agg [.int .i64 b.v,.int .i64 a.f,.int .i64 a.v,.sl g X]]=R3 at*
  simp[jt,CK,hi,o,cut,q,h1,e,m,C,x,D,splice,aY,a6]
 ·have e:(b.v !=v)=false:=by simp[bne,h2]
  refine⟨R,?_,h⟩;simp[jt,hi,o,cut,q,h1,e]
 ·have e:(b.v !=v)=true:=by simp[bne,h2]
  have y:=j R1 _ w;simp only[bW]at y;refine⟨_,?_,y⟩;generalize R1++[DV.agg [.int .i64 b.v,.int .i64 a.f,.int .i64 a.v,.sl g X]]=R3 at*
  simp[jt,CK,hi,o,cut,q,h1,e,m,z,C,x,H,M,splice,aY,a6,aW]
 ·have e:(b.v !=v)=false:=by simp[bne,h2]
  refine⟨R1,?_,w⟩;simp[jt,hi,o,cut,q,h1,e,z,H,splice,aY,a6,aW]
 ·have e:(b.v !=v)=true:=by simp[bne,h2]
  refine⟨_,?_,j R acc h⟩;generalize R++[DV.agg [.int .i64 b.v,.int .i64 a.f,.int .i64 a.v,.sl g X]]=R3 at*
  simp[jt,CK,hi,o,cut,q,e,m,C,x,D,splice,aY,a6]
 ·have e:(b.v !=v)=false:=by simp[bne,h2]
  refine⟨R,?_,h⟩;simp[jt,hi,o,cut,q,e]
 ·have e:(b.v !=v)=true:=by simp[bne,h2]
  refine⟨_,?_,j R acc h⟩;generalize R++[DV.agg [.int .i64 b.v,.int .i64 a.f,.int .i64 a.v,.sl g X]]=R3 at*
  simp[jt,CK,hi,o,cut,q,e,m,C,x,D,splice,aY,a6]
 ·have e:(b.v !=v)=false:=by simp[bne,h2]
  refine⟨R,?_,h⟩;simp[jt,hi,o,cut,q,e]
theorem qqM(l:aC)(M:l.length<=1099511627776)(u:aF)(v:Int)(t:T)(Y:u.length<=1048577)(J:∀i,i<u.length->(aQ u i).t.inner<=1099511627776)(C:t.inner<=1099511627776)(X:∀i,i<u.length->(bM [⟨v,t⟩] (aQ u i).t).inner<=1099511627776):
 ∃R,ak XV 142 [.d (sg l),.d (binds .sub u),aa v,.d (t.enc .sub)] []=some (.d (.sl U R),[])/\R.map DV.clr=(bB l u v t).map (Bd.enc .sub):=by
 have m:=wj t C;have h:∀i,i<u.length->∃d,ak XV 141 [.d (sg l),.d (binds .sub [(⟨v,t⟩:Bd)]),.d ((aQ u i).t.enc .sub)] []=some (.d d,[])/\IsV d (aT l [⟨v,t⟩] (aQ u i).t):=fun i hi=>E7 l M [⟨v,t⟩] (aQ u i).t (by simp) (fun j D=>by simp at D;subst D;exact C) (J i hi) (X i hi)
 have V:(binds .sub [(⟨v,t⟩:Bd)]).clr=binds .sub [(⟨v,t⟩:Bd)]:=by simp
 have w:binds .sub [(⟨v,t⟩:Bd)]= .sl .sub [.agg [.int .i64 v,.int .i64 t.f,.int .i64 t.v,ao .sub t.kids]]:=rfl;have head:∀(x:Int) (R O:DV) (p:Bool),aA 1 [0,1,2,7,9,10,11,12] ⟨[(0,.d (sg l)),(1,.d (binds .sub u)),(2,aa v),(7,.ptr 0 0),(9,.d R),(10,.d O),(11,au p),(12,aa x)],[some [aa t.f,aa t.v,.d (ao .sub t.kids)]]⟩=some ⟨[(0,.d (sg l)),(1,.d (binds .sub u)),(2,aa v),(7,.ptr 0 0),(9,.d R),(10,.d O),(11,au p),(12,aa x)],[some [aa t.f,aa t.v,.d (ao .sub t.kids)]]⟩:=fun x R O p=>by simp[aA,aB]
 have c:∀(k i:Nat),i+k=u.length->∀R,R.map DV.clr=(cG l u v t i).map (Bd.enc .sub)->∃e,bo XV (XV.lin 142) 1 [0,1,2,7,9,10,11,12] jt ⟨[(0,.d (sg l)),(1,.d (binds .sub u)),(2,aa v),(7,.ptr 0 0),(9,.d (.sl U R)),(10,.d (binds .sub [(⟨v,t⟩:Bd)])),(11,au (gX u v i)),(12,aa i)],[some [aa t.f,aa t.v,.d (ao .sub t.kids)]]⟩=
  some (.exit 0,⟨[(0,.d (sg l)),(1,.d (binds .sub u)),(2,aa v),(7,.ptr 0 0),(9,.d (.sl U e)),(10,.d (binds .sub [(⟨v,t⟩:Bd)])),(11,au (gX u v u.length)),(12,aa u.length),(21,au false)],[some [aa t.f,aa t.v,.d (ao .sub t.kids)]]⟩)/\e.map DV.clr=(cG l u v t u.length).map (Bd.enc .sub):=by
  intro k
  induction k with
  |zero=>
   intro i hi R b;have:i=u.length:=by omega
   subst this;refine⟨R,dN (head _ _ _ _) ?_ (by simp),b⟩;generalize gX u v u.length=p;simp[jt]
  |succ k I=>
   intro i hi R b;have g:i<u.length:=by omega
   have o:=ss l u v t i;obtain⟨d,q,r⟩:=h i g;obtain⟨e,P,K⟩:=qVI l u v t (binds .sub [(⟨v,t⟩:Bd)]) V (cG l u v t i) R b (by omega) i g (by omega) m d q r;obtain⟨H,e3,F⟩:=I (i+1) (by omega) e K;exact⟨H,by rw[<-e3];exact eb (head _ _ _ _) P,F⟩
 obtain⟨R,a,b⟩:=c u.length 0 (by omega) [] (by simp[cG]);have o:=ss l u v t u.length;have n:=qKD u v;have z:=qOQ u v;rw[n,z]at a;have G:=BI R _ b v t.f t.v U (t.kids.map (T.enc U)) (by omega);have y:(R++[DV.agg [.int .i64 v,.int .i64 t.f,.int .i64 t.v,.sl U (t.kids.map (T.enc U))]]).map DV.clr=(cG l u v t u.length++[(⟨v,t⟩:Bd)]).map (Bd.enc .sub):=by rw[cM,cM,b];simp only[bF,bS,DV.clr,DV.clrs,Bd.enc];rw[DV.qay,mg]
 rw[aL 142 vN rfl];unfold bB;simp only[Ua,m8]at a;rw[w]at a;cases hsome:(dn u v).isSome with
 |true=>rw[hsome]at a;simp only[if_true,cR];refine⟨R,?_,b⟩;simp[vN,splice,aY,a6,bb,ba,aW];rw[a];simp
 |false=>
  rw[hsome]at a;simp only[bh,if_false];refine⟨_,?_,y⟩;generalize R++[DV.agg [.int .i64 v,.int .i64 t.f,.int .i64 t.v,.sl U (t.kids.map (T.enc U))]]=e at*
  simp[vN,splice,aY,a6,bb,ba,aW];rw[a];simp[m,G,splice,aY,a6,aW]
theorem Jz(u:aF)(i:Nat)(h:i<u.length):u.take (i+1)=u.take i++[aQ u i]:=by rw[ov,ft h,df h];rfl
def ru(_:Unit)(i:Nat):Unit⊕Nat:= .inl ()
theorem ID:∀(k i:Nat),runN ru k () i= .inl ()
 |0,i=>rfl
 |k+1,i=>by simp only[runN,ru];exact ID k (i+1)
theorem Zf(u:aF)(j:small u):ak XV 266 [.d (binds .sub u)] []=some (.d (binds U u),[]):=by
 rw[aL 266 Cu rfl];obtain⟨j,o⟩:=j;have h:=bE (X:=XV) (T:=XV.lin 266) (L:=0) (live:=[3,7,8,9]) (b:=Ab) (n:=u.length) (γ:=Nat) (st:=fun(_:Unit) i=>⟨[(3,.d (.sl U ((u.take i).map (Bd.enc U)))),(7,.d (binds .sub u)),(8,aa u.length),(9,aa i)],[]⟩) (step:=ru)
  (F:=fun _=>(.exit 0,⟨[(3,.d (.sl U ((u.take u.length).map (Bd.enc U)))),(7,.d (binds .sub u)),(8,aa u.length),(9,aa u.length),(10,au false)],[]⟩)) (R:=fun _=>(.ret,⟨[],[]⟩))
  (fun a=>⟨by simp,by simp[Ab]⟩)
  (fun a i hi=>by
   have m:=aV (n:=i) (by omega);have hc:=wW (aQ u i).t (o i hi);have l:=df hi;have e:=Gx (u.take i) (aQ u i) (by simp;omega);have c:=Jz u i hi;rw[<-c]at e;generalize g:(u.take (i+1)).map (Bd.enc U)=R2 at e;generalize (u.take i).map (Bd.enc U)=R1 at*
   generalize aQ u i=b at*
   unfold ru;exact⟨_,by simp[Ab,q2B,hi,m,cut,l,hc,e,splice,aY,a6,bb,ba,aW];rfl,by simp[aA,aB,<-g]⟩)
  u.length () 0 ⟨[(3,.d (.sl U ((u.take 0).map (Bd.enc U)))),(7,.d (binds .sub u)),(8,aa u.length),(9,aa 0)],[]⟩ (by omega) (by simp[aA,aB])
 rw[ID,lg,AN]at h;simp only[W9,bS]at h;simp[Cu];rw[h];simp
theorem SJ(u:aF)(j:small u):ak XV 250 [.d (binds .sub u)] []=some (.d (binds U u),[]):=by
 rw[aL 250 Bh rfl];obtain⟨j,o⟩:=j;have h:=bE (X:=XV) (T:=XV.lin 250) (L:=0) (live:=[0,3,4]) (b:=yn) (n:=u.length) (γ:=Nat) (st:=fun(_:Unit) i=>⟨[(0,.d (binds .sub u)),(3,.d (.sl U ((u.take i).map (Bd.enc U)))),(4,aa i)],[]⟩) (step:=ru)
  (F:=fun _=>(.exit 0,⟨[(0,.d (binds .sub u)),(3,.d (.sl U ((u.take u.length).map (Bd.enc U)))),(4,aa u.length),(9,au false)],[]⟩)) (R:=fun _=>(.ret,⟨[],[]⟩))
  (fun a=>⟨by simp,by simp[yn]⟩)
  (fun a i hi=>by
   have m:=aV (n:=i) (by omega);have hc:=wj (aQ u i).t (o i hi);have l:=df hi;have e:=Gx (u.take i) (aQ u i) (by simp;omega);have c:=Jz u i hi;rw[<-c]at e;generalize g:(u.take (i+1)).map (Bd.enc U)=R2 at e;generalize (u.take i).map (Bd.enc U)=R1 at*
   generalize aQ u i=b at*
   unfold ru;exact⟨_,by simp[yn,Um,hi,m,cut,l,hc,e,splice,aY,a6];rfl,by simp[aA,aB,<-g]⟩)
  u.length () 0 ⟨[(0,.d (binds .sub u)),(3,.d (.sl U ((u.take 0).map (Bd.enc U)))),(4,aa 0)],[]⟩ (by omega) (by simp[aA,aB])
 rw[ID,lg,AN]at h;simp only[ZP,bS]at h;simp[Bh];rw[h];simp
mutual
def NT:T->Bool
 | .node f v ks=>decide (12<ks.length)||Ji ks
def Ji:ah->Bool
 | []=>false
 |t::ts=>NT t||Ji ts
end
theorem ZY(q:Nat->Bool)(k i:Nat):(aR q k i).isSome=true↔∃j,i<=j/\j<i+k/\q j=true:=by
 constructor
 ·intro h
  obtain⟨j,d⟩:=NU.1 h;exact⟨j,dA q k i j d⟩
 ·induction k generalizing i with
  |zero=>rintro⟨j,b,g,_⟩;omega
  |succ k c=>
   rintro⟨j,b,g,a⟩
   simp only[aR];split
   ·rfl
   ·rename_i e
    refine c (i+1) ⟨j,?_,by omega,a⟩;rcases Il b with rfl|h
    ·exact absurd a e
    ·exact h
theorem Nc(m i:Nat)(hi:i<64):d6 .shr .i64 (m:Int) (i:Int)=some (.int .i64 ((m/2^i:Nat):Int)):=by
 unfold d6;have b:¬((i:Int)<0):=by omega
 have a:IntKind.i64.bits=64:=rfl;have c:min i 64=i:=by omega
 simp only[aD b,te,a,c,ca,DV.int.injEq,qi];rw[J7 _ (by exact Int.pow_nonneg (by omega)),Int.natCast_ediv,Int.natCast_pow];rfl
theorem and_one(a:Nat)(e:a<4611686018427387904):d6 .and .i64 (a:Int) 1=some (.int .i64 ((a%2:Nat):Int)):=by
 unfold d6 bits;have c:BitVec.ofInt IntKind.i64.bits (a:Int)=BitVec.ofNat 64 a:=BitVec.ofInt_natCast 64 a;have d:BitVec.ofInt IntKind.i64.bits 1=BitVec.ofNat 64 1:=BitVec.ofInt_natCast 64 1;have b:(BitVec.ofNat 64 a&&&BitVec.ofNat 64 1).toNat=a%2:=by rw[BitVec.toNat_and,BitVec.toNat_ofNat,BitVec.toNat_ofNat,IY (by omega),IY (by omega),Nat.and_one_is_mod]
 simp only[b7,ca,DV.int.injEq,qi];rw[c,d];show IntKind.i64.wrap (((BitVec.ofNat 64 a&&&BitVec.ofNat 64 1).toNat:Nat):Int)=_;rw[b,IntKind.wrap_i64];omega
theorem MY(m i:Nat):((((m/2^i%2:Nat):Int)==1)=m.testBit i):=by rw[Nat.testBit_eq_decide_div_mod_eq,nZ,wX,cA];generalize m/2^i%2=r;omega
variable{β γ:Type}
theorem dS{X:XEnv}{T:ae}{L:Nat}{live:ae}{b:VCode}{n:Nat}{st:β->Nat->XS}{step:β->Nat->β⊕γ}{R:γ->Ex×XS}(id g:Nat)(Inv:β->Nat->Prop)(a:β)
 (d:∀a,Inv a n->aS X T b (st a n)=some (.exit id,⟨(st a n).r++[(g,au false)],(st a n).B⟩))
 (c:∀a i,i<n->Inv a i->yx L live st R i (aS X T b (st a i)) (step a i)/\∀a',step a i= .inl a'->Inv a' (i+1))
 (hi:Inv a 0) (h:aA L live (st a 0)=some (st a 0)):
 bo X T L live b (st a 0)=some (match runN step n a 0 with| .inl a'=>(.exit id,⟨(st a' n).r++[(g,au false)],(st a' n).B⟩)| .inr r=>R r):=
 eu Inv (F:=fun a=>(.exit id,⟨(st a n).r++[(g,au false)],(st a n).B⟩)) (fun a e=>⟨by simp,d a e⟩) c n a 0 _ (by omega) hi h
variable{α:Type}
theorem B_(l:List α)(z:α)(g:β->α->β):∀(k i:Nat) (a:β),i+k=l.length->runN (fun a i=>(.inl (g a ((l[i]?).getD z)):β⊕γ)) k a i= .inl ((l.drop i).foldl g a)
 |0,i,a,h=>by rw[pu (by omega)];rfl
 |k+1,i,a,h=>by
  have b:i<l.length:=by omega
  rw[dV b];simp only[runN,jI,ft b,t_];exact B_ l z g k (i+1) _ (by omega)
theorem vZ(l:ah)(g:β->T->β)(a:β):runN (fun a i=>(.inl (g a (ai l i)):β⊕γ)) l.length a 0= .inl (l.foldl g a):=B_ l (.node 0 0 []) g l.length 0 a (by omega)
def eB(a:ah×ah)(t:T):ah×ah:=
 match aR (dJ a.2 t) a.2.length 0 with
 |some j=>(a.1,kQ a.2 j)
 |none=>(a.1++[t],a.2)
def bV(x y:ah):ah×ah:=x.foldl eB ([],y)
theorem CW(a:ah)(t:T)(h:a.length<=1099511627776):bU 3 40 (.sl U (a.map (T.enc .sub))) (.sl U [t.enc .sub])=some (.sl U ((a++[t]).map (T.enc .sub))):=by have:=t9 a [t] U (by simp;omega);simpa using this
theorem WY(y:ah)(t:T)(hy:y.length<=1099511627776)(a:∀x,x∈y->x.inner<=1099511627776)(b:t.inner<=1099511627776):
 ak XV 282 [.d (ao .sub y),.d (.sl .sub [t.enc .sub])] []=some (match aR (dJ y t) y.length 0 with|some j=> .d (.tup [ao .sub (kQ y j),.bool true])|none=> .d (.tup [.sl U [],.bool false]),[]):=by
 have h:=qMp y [t] hy (by simp) a (by simpa using b)
 simp only[bF,bS,ao]at h;rw[h];simp only[takeN];cases aR (dJ y t) y.length 0<;>rfl
theorem WT(x y:ah)(hx:x.length<=1099511627776)(hy:y.length<=1099511627776)(bx:∀t,t∈x->t.inner<=1099511627776)(m:∀t,t∈y->t.inner<=1099511627776):
 ak XV 270 [.d (ao .sub x),.d (ao .sub y)] []=some (.d (.tup [.sl U ((bV x y).1.map (T.enc .sub)),ao .sub (bV x y).2]),[]):=by
 rw[aL 270 wH rfl];have h:=dS (X:=XV) (T:=XV.lin 270) (L:=0) (live:=[1,6,12,13,14]) (b:=uV) (n:=x.length) (γ:=Unit) (R:=fun _=>(.ret,⟨[],[]⟩)) (step:=fun a i=> .inl (eB a (ai x i)))
  (st:=fun a i=>⟨[(1,.d (ao .sub a.2)),(6,.d (.sl U (a.1.map (T.enc .sub)))),(12,.d (ao .sub x)),(13,aa x.length),(14,aa i)],[]⟩) 0 15
  (fun a i=>a.1.length<=i/\a.2.length<=1099511627776/\∀t,t∈a.2->t.inner<=1099511627776) ([],y)
  (fun a _=>by simp[uV,rJ,rL,tz,ug,tT,sc,uD,tN,sQ,uf,ub])
  (fun a i hi c=>by
   obtain⟨G,l,g⟩:=c;have o:=aV (n:=i) (by omega);have C:=bx _ (bL hi);have e:=a5 hi;have hc:=WY a.2 (ai x i) l g C;have r:=CW a.1 (ai x i) (by omega);generalize ai x i=t at*
   obtain⟨D,z,F⟩:=t;obtain⟨H,q⟩:=a;simp only[eB]at*
   cases hf:aR (dJ q (.node D z F)) q.length 0 with
   |some j=>rw[hf]at hc;refine⟨⟨_,by simp[uV,rJ,rL,tz,ug,tT,sc,uD,tN,sQ,uf,ub,hi,o,cut,e,hc,splice];rfl,by simp[aA,aB]⟩,fun a' h=> ?_⟩;simp only[ka]at h;subst h;exact⟨by simp only;omega,eo Dh l,fun t w=>g t (Cv w)⟩
   |none=>rw[hf]at hc;refine⟨⟨_,by simp[uV,rJ,rL,tz,ug,tT,sc,uD,tN,sQ,uf,ub,hi,o,cut,e,hc,r,splice];rfl,by simp[aA,aB]⟩,fun a' h=> ?_⟩;simp only[ka]at h;subst h;exact⟨by simp;omega,l,g⟩)
  ⟨by simp,hy,m⟩ (by simp[aA,aB])
 rw[vZ]at h;simp only[Wr,bS,dy]at h;simp[wH,rJ,rL,tz,ug,tT,sc,uD,tN,sQ,uf,ub];rw[h];simp[wH,rJ,rL,tz,ug,tT,sc,uD,tN,sQ,uf,ub,bV]
@[simp] theorem N6(g:Tag)(l:ax):ints g l= .sl g (l.map (.int .i64)):=rfl
abbrev aG(g:Tag)(ps:List ax):DV:= .sl g (ps.map (ints g))
def aP(l:List ax)(i:Nat):ax:=(l[i]?).getD []
theorem cP{l:List ax}{i:Nat}(h:i<l.length):l[i]=aP l i:=by simp[aP,h]
@[simp high] theorem q6n(g:Tag)(l:List ax):(l.map (ints g)).map DV.clr=l.map (ints .sub):=by simp[eI,lN]
theorem VN(g:Tag)(l:List ax):∀x:DV,x∈l.map (ints g)->xj false 1 x:=by intro x hx;simp only[cE]at hx;obtain⟨n,_,rfl⟩:=hx;exact⟨rfl,rfl,fun h=>by simp at h,by simp⟩
def dt:ax->ax->ax
 |c::cs,r::a=>IntKind.i64.wrap (c+r)::dt cs a
 |cs,_=>cs
theorem SL(c:ax):dt c []=c:=by cases c<;>rfl
theorem l_:∀(c r:ax),(dt c r).length=c.length
 | [],r=>by cases r<;>rfl
 |c::cs,[]=>rfl
 |c::cs,r::a=>by simp[dt,l_ cs a]
theorem qU:∀(c r:ax) (i:Nat),i<c.length->aE (dt c r) i=if i<r.length then IntKind.i64.wrap (aE c i+aE r i)else aE c i
 | [],r,i,h=>by simp at h
 |c::cs,[],i,h=>by simp[dt]
 |c::cs,r::a,0,h=>by simp[dt,aE]
 |c::cs,r::a,i+1,h=>by have:=qU cs a i (by simpa using h);simpa[dt,aE]using this
theorem LH(a b:ax)(d:a.length=b.length)(h:∀i,i<a.length->aE a i=aE b i):a=b:=by apply Jq d;intro i c e;rw[bP c,bP e];exact h i c
theorem Ta(l:ax)(i j:Nat)(x:Int)(hi:i<l.length):aE (l.set i x) j=if i=j then x else aE l j:=by
 unfold aE;rw[List.getElem?_set];split
 ·simp[*]
 ·rfl
theorem yW(l:ax)(k j:Nat)(h:j<k):aE (l.take k) j=aE l j:=by unfold aE;rw[qx];simp[h]
theorem ZZ(c r:ax)(i:Nat)(hi:i<c.length)(g:i<r.length):(dt c (r.take i)).set i (IntKind.i64.wrap (aE (dt c (r.take i)) i+aE r i))=dt c (r.take (i+1)):=by
 have e:aE (dt c (r.take i)) i=aE c i:=by rw[qU _ _ _ hi];simp;omega
 apply LH
 ·simp[l_]
 ·intro j d
  simp[l_]at d;rw[Ta _ _ _ _ (by rw[l_];exact hi),qU _ _ j d,e,qU _ _ j d];simp only[wm]
  by_cases a:i=j
  ·subst a;rw[ay rfl,ay (by omega),yW _ _ _ (by omega)]
  ·rw[aD a]
   by_cases b:j<i
   ·rw[ay (by omega),ay (by omega),yW _ _ _ b,yW _ _ _ (by omega)]
   ·rw[aD (by omega),aD (by omega)]
theorem Wx(c r:ax)(k:Nat)(b:k=min c.length r.length):dt c (r.take k)=dt c r:=by
 apply LH
 ·simp[l_]
 ·intro j a
  simp[l_]at a;rw[qU _ _ j a,qU _ _ j a];simp only[wm]
  by_cases h:j<r.length
  ·rw[ay (by omega),ay h,yW _ _ _ (by omega)]
  ·rw[aD (by omega),aD h]
def cr(m:Nat)(ps:List ax):Nat->ax
 |0=>List.replicate m 0
 |j+1=>dt (cr m ps j) (aP ps j)
theorem qI(m:Nat)(ps:List ax):∀j,(cr m ps j).length=m
 |0=>by simp[cr]
 |j+1=>by simp[cr,l_,qI m ps j]
def dL(ps:List ax)(n:Int):ax:=if 1<=n/\n<=1000 then cr n.toNat ps ps.length else []
theorem WK(l:ax)(i:Nat)(x:Int)(h:i<l.length):splice (cI l) i [aa x]=cI (l.set i x):=by unfold splice cI;rw[F7,ay h];simp
theorem q2Y(l:ax)(i:Nat)(h:i<l.length):(cI l)[i]?=some (aa (aE l i)):=by simp[cI,aE,h]
theorem SO(m:Nat):List.map AV.d (List.flatMap DV.cells (List.replicate m (.int .i64 0)))=cI (List.replicate m 0):=by
 induction m with
 |zero=>rfl
 |succ m a=>simp[me,cI,si]at a⊢;exact a
theorem Yr(l:ax):cI l=f7 (l.map (.int .i64)):=by
 unfold f7
 induction l with
 |nil=>rfl
 |cons x r a=>simp[cI,flat,si]at a⊢;exact a
theorem XZ(m:Nat)(G:m<=1000)(ps:List ax)(j:Nat)(row c:ax)(hc:c.length=m)(D:row.length<=4398046511104):
 bo XV [4,5,42] 1 [1,5,7,8,14,15,16] tU ⟨[(1,aa m),(5,.bsl [] false 0 1 m),(7,.d (is row)),(8,aa 0),(14,.d (aG .sub ps)),(15,aa ps.length),(16,aa j)],[some (cI c)]⟩
 =some (.exit 2,⟨[(1,aa m),(5,.bsl [] false 0 1 m),(7,.d (is row)),(8,aa (min m row.length:Nat)),(14,.d (aG .sub ps)),(15,aa ps.length),(16,aa j),(28,au false)],[some (cI (dt c row))]⟩):=by
 have h:=bE (X:=XV) (T:=[4,5,42]) (L:=1) (live:=[1,5,7,8,14,15,16]) (b:=tU) (n:=min m row.length) (γ:=Unit) (st:=fun(_:Unit) i=>⟨[(1,aa m),(5,.bsl [] false 0 1 m),(7,.d (is row)),(8,aa i),(14,.d (aG .sub ps)),(15,aa ps.length),(16,aa j)],[some (cI (dt c (row.take i)))]⟩) (step:=fun _ _=> .inl ())
  (F:=fun _=>(.exit 2,⟨[(1,aa m),(5,.bsl [] false 0 1 m),(7,.d (is row)),(8,aa (min m row.length:Nat)),(14,.d (aG .sub ps)),(15,aa ps.length),(16,aa j),(28,au false)],[some (cI (dt c (row.take (min m row.length))))]⟩)) (R:=fun _=>(.ret,⟨[],[]⟩))
  (fun _=>⟨by simp,by
   by_cases e:row.length<m
   ·have r:min m row.length=row.length:=by omega
    rw[r];simp[tU,e]
   ·have r:min m row.length=m:=by omega
    rw[r];simp[tU]⟩)
  (fun _ i hi=>by
   have z:=aV (n:=i) (by omega);have x:i<m:=by omega
   have q:i<row.length:=by omega
   have g:=WK (dt c (row.take i)) i (IntKind.i64.wrap (aE (dt c (row.take i)) i+aE row i)) (by rw[l_];omega);rw[ZZ c row i (by omega) q]at g;have a:(cI (dt c (row.take i))).length=m:=by rw[YH,l_,hc]
   have l:=q2Y (dt c (row.take i)) i (by rw[l_];omega);generalize C:dt c (row.take i)=c1 at g a l⊢
   have o:i+1<=m:=by omega
   generalize y:cI c1=cc at g a l⊢
   have e:i<cc.length:=by omega
   have w:cc[i]= aa (aE c1 i):=by rw[ft e]at l;simpa using l
   exact⟨⟨[(1,aa m),(5,.bsl [] false 0 1 m),(7,.d (is row)),(8,aa (i+1:Nat)),(14,.d (aG .sub ps)),(15,aa ps.length),(16,aa j)],[some (cI (dt c (row.take (i+1))))]⟩,by simp[tU,qVp,x,q,z,cut,bP q,a,w,g,o],by simp[aA,aB]⟩)
  (min m row.length) () 0 ⟨[(1,aa m),(5,.bsl [] false 0 1 m),(7,.d (is row)),(8,aa 0),(14,.d (aG .sub ps)),(15,aa ps.length),(16,aa j)],[some (cI c)]⟩ (by omega) (by simp[aA,aB,SL])
 rw[dv,Wx c row _ (by rw[hc])]at h;exact h
theorem qBR(ps:List ax)(n:Int)(K:ps.length<=1099511627776)(G:∀i,i<ps.length->(aP ps i).length<=1099511627776):ak XV 212 [.d (aG .sub ps),aa n] []=some (.d (ints U (dL ps n)),[]):=by
 rw[aL 212 wT rfl];have r:=oV n 1 1000
 by_cases z:1<=n/\n<=1000
 ·have e:b0 n 1 1000=true:=by simp[b0,z]
  rw[e]at r;have C:dL ps n=cr n.toNat ps ps.length:=by unfold dL;rw[ay z]
  rw[C];obtain⟨m,rfl⟩:∃m:Nat,n=m:=⟨n.toNat,by omega⟩;simp only[te];have I:m<=1000:=by omega
  have a:=bE (X:=XV) (T:=[4,5,42]) (L:=1) (live:=[1,5,14,15,16]) (b:=AM) (n:=ps.length) (γ:=Unit) (st:=fun(_:Unit) j=>⟨[(1,aa m),(5,.bsl [] false 0 1 m),(14,.d (aG .sub ps)),(15,aa ps.length),(16,aa j)],[some (cI (cr m ps j))]⟩) (step:=fun _ _=> .inl ())
   (F:=fun _=>(.exit 0,⟨[(1,aa m),(5,.bsl [] false 0 1 m),(14,.d (aG .sub ps)),(15,aa ps.length),(16,aa ps.length),(17,au false)],[some (cI (cr m ps ps.length))]⟩)) (R:=fun _=>(.ret,⟨[],[]⟩))
   (fun _=>⟨by simp,by simp[AM]⟩)
   (fun _ j D=>by
    have H:=aV (n:=j) (by omega);have h:=XZ m I ps j (aP ps j) (cr m ps j) (qI m ps j) (by have:=G j D;omega);rw[show dt (cr m ps j) (aP ps j)=cr m ps (j+1)from rfl]at h;exact⟨⟨[(1,aa m),(5,.bsl [] false 0 1 m),(14,.d (aG .sub ps)),(15,aa ps.length),(16,aa (j+1:Nat))],[some (cI (cr m ps (j+1)))]⟩,by
     simp[AM,D,cut,cP D];rw[h];simp[H],by simp[aA,aB]⟩)
   ps.length () 0 ⟨[(1,aa m),(5,.bsl [] false 0 1 m),(14,.d (aG .sub ps)),(15,aa ps.length),(16,aa 0)],[some (cI (cr m ps 0))]⟩ (by omega) (by simp[aA,aB])
  rw[dv]at a;have c:=qI m ps ps.length;generalize cr m ps ps.length=g at a c⊢
  have l:=xM (g.map (DV.int .i64)) (MZ g);have o:(flat (g.map (DV.int .i64))).length=g.length*1:=by rw[we fun x hx=>(MZ g x hx).1];simp
  rw[cV,c]at l;rw[c]at o;rw[Yr g]at a;have J:=SO m;simp only[cr]at a;rw[<-J]at a;have y:m*8<=140737488355328:=by omega
  have w:(m:Int)<9223372036854775808:=by omega
  have q:m<9223372036854775808:=by omega
  simp[wT,r,y,w]
  try simp at a
  rw[a];simp[l,o,q,Ds]
 ·have e:b0 n 1 1000=false:=by simp[b0];omega
  rw[e]at r;have C:dL ps n=[]:=by unfold dL;rw[aD z]
  rw[C];simp[wT,r]
structure Eqn where
 a:T
 b:T
abbrev bg:=List Eqn
def Eqn.enc(g g':Tag)(e:Eqn):DV:= .agg [.int .i64 e.a.f,.int .i64 e.a.v,ao g e.a.kids,.int .i64 e.b.f,.int .i64 e.b.v,ao g' e.b.kids]
abbrev be(l:bg):DV:= .sl .sub (l.map (Eqn.enc .sub .sub))
def lZ(l:bg)(i:Nat):Eqn:=(l[i]?).getD ⟨.node 0 0 [],.node 0 0 []⟩
@[simp] theorem Eqn.qfd(g g':Tag)(e:Eqn):(e.enc g g').cells=[.int .i64 e.a.f,.int .i64 e.a.v,ao g e.a.kids,.int .i64 e.b.f,.int .i64 e.b.v,ao g' e.b.kids]:=rfl
@[simp] theorem Eqn.qfc(g g':Tag)(e:Eqn):(e.enc g g').clr=e.enc .sub .sub:=by simp[Eqn.enc]
@[simp] theorem Eqn.qO9(g g':Tag):DV.clr∘Eqn.enc g g'=Eqn.enc .sub .sub:=funext fun w=>by simp
theorem Bb(a:bg)(g g':Tag)(e:Eqn)(h:a.length<=1099511627776):bU 6 80 (.sl U (a.map (Eqn.enc g g'))) (.sl U [e.enc g g'])=some (.sl U ((a++[e]).map (Eqn.enc g g'))):=by
 have b:(a.map (Eqn.enc g g')).all (fun e=>decide (e.cells.length=6))=true:=by
  rw[cm];intro y hy
  obtain⟨z,_,rfl⟩:=cE.1 hy;rfl
 unfold bU;simp only;rw[ay (by simp[Eqn.enc,DV.cells,DV.isCell])];simp only[gN,bh,if_false];rw[ay ⟨by simp;omega,trivial,b⟩];simp
theorem G5(a c:bg)(g g':Tag)(h:a.length+c.length<=1099511627776):bU 6 80 (.sl U (a.map (Eqn.enc g g'))) (be c)=some (.sl U (a.map (Eqn.enc g g')++c.map (Eqn.enc .sub .sub))):=by
 have d:(c.map (Eqn.enc .sub .sub)).all (fun e=>decide (e.cells.length=6/\e.cells.all DV.isCell=true))=true:=by
  rw[cm];intro y hy
  obtain⟨z,_,rfl⟩:=cE.1 hy;simp[aY,a6,DV.isCell]
 have b:(a.map (Eqn.enc g g')).all (fun e=>decide (e.cells.length=6))=true:=by
  rw[cm];intro y hy
  obtain⟨z,_,rfl⟩:=cE.1 hy;rfl
 unfold bU;simp only;rw[ay d];cases c with
 |nil=>simp
 |cons x r=>simp only[bF,gN,bh,if_false];rw[ay ⟨by simp at h⊢;omega,trivial,b⟩]
theorem VK(n:Int)(k:Int)(a:0<=k)(b:k<=1000):ak XV 275 [.d (.sl .sub [(T.node (-1) n []).enc .sub]),aa k] []=some (.d (ao .sub (List.replicate k.toNat (.node (-1) n []))),[]):=by rw[xq XV 275 _ _ lU rfl];simp only[bd,b7,bO,lU];rw[ay ⟨Mo _ _,a,by omega⟩,List.map_replicate,T.qK8 .sub (by simp)];simp only[b7,List.map_replicate,ao]
def mc(all:ah)(sum:ax)(i:Nat):Bool:=decide (aE sum i<1)||(decide (1<aE sum i)&& !((ai all i).f== -1))
def oX(all:ah)(sum:ax):Bool:=(aR (mc all sum) sum.length 0).isNone
theorem UO(all:ah)(sum:ax)(w:sum.length=all.length)(r:all.length<=1099511627776):ak XV 273 [.d (ao .sub all),.d (is sum)] []=some (au (oX all sum),[]):=by
 rw[aL 273 uT rfl];have h:=dS (X:=XV) (T:=XV.lin 273) (L:=0) (live:=[0,7,8,9]) (b:=p0) (n:=sum.length) (γ:=Nat) (R:=fun _=>(.ret,⟨[(4,au false)],[]⟩)) (step:=bG (mc all sum))
  (st:=fun(_:Unit) i=>⟨[(0,.d (ao .sub all)),(7,.d (is sum)),(8,aa sum.length),(9,aa i)],[]⟩) 0 10 (fun _ _=>True) ()
  (fun _ _=>by simp[p0,oD,ou,oh,po,oP,oz,pj,oG])
  (fun _ i hi _=>by
   have q:=aV (n:=i) (by omega);have c:i<all.length:=by omega
   have l:=iQ (ai all i);refine⟨?_,fun _ _=>trivial⟩;have j:=bP hi;have g:=a5 c;unfold bG;have o:mc all sum i=(decide (aE sum i<1)||(decide (1<aE sum i)&& !((ai all i).f== -1))):=rfl;generalize mc all sum i=m at o;generalize aE sum i=z at*
   generalize ai all i=t at*
   obtain⟨f,v,ks⟩:=t;simp only[T.qaO]at l o;subst o;generalize (f== -1)=b at l⊢
   by_cases a:z<1
   ·simp only[a,decide_true,HV,if_true]
    exact⟨by simp,by simp[p0,oD,ou,oh,po,oP,oz,pj,oG,hi,cut,j,a]⟩
   ·by_cases e:1<z
    ·cases b with
     |true=>simp only[a,e,decide_false,decide_true,lB,x_,mf,bh,if_false];exact⟨_,by simp[p0,oD,ou,oh,po,oP,oz,pj,oG,hi,c,q,cut,j,g,a,e,l];rfl,by simp[aA,aB]⟩
     |false=>simp only[a,e,decide_false,decide_true,kF,t5,Bool.false_or,if_true];exact⟨by simp,by simp[p0,oD,ou,oh,po,oP,oz,pj,oG,hi,c,cut,j,g,a,e,l]⟩
    ·simp only[a,e,decide_false,qh,mf,bh,if_false]
     exact⟨_,by simp[p0,oD,ou,oh,po,oP,oz,pj,oG,hi,q,cut,j,a,e];rfl,by simp[aA,aB]⟩)
  trivial (by simp[aA,aB])
 rw[cT]at h;simp only[PQ,dy]at h;unfold oX;simp[uT,oD,ou,oh,po,oP,oz,pj,oG];rw[h];cases aR (mc all sum) sum.length 0<;>simp[uT,oD,ou,oh,po,oP,oz,pj,oG]
def bX(ch:List ax)(next:Int)(p:Nat):Nat->ah
 |0=>[]
 |i+1=>bX ch next p i++List.replicate (aE (aP ch i) p).toNat (.node (-1) (next+i) [])
def qM(s:aC)(f:Int)(all:ah)(ch:List ax)(next:Int)(p:Nat):Eqn:=⟨ai all p,eg s f (bX ch next p ch.length)⟩
def db(s:aC)(f:Int)(all:ah)(ch:List ax)(next:Int):Nat->bg
 |0=>[]
 |p+1=>db s f all ch next p++[qM s f all ch next p]
theorem BU(s:aC)(f:Int)(all:ah)(ch:List ax)(next:Int):∀n,(db s f all ch next n).length=n
 |0=>rfl
 |n+1=>by simp[db,BU s f all ch next n]
structure WaysOk(ch:List ax)(m:Nat):Prop where
 len:ch.length<=8
 row:∀i,i<ch.length->(aP ch i).length=m
 num:∀i p,0<=aE (aP ch i) p/\aE (aP ch i) p<=1000
theorem NG(n:Nat)(v:Int):bK (List.replicate n (.node (-1) v []))=n:=by
 induction n with
 |zero=>rfl
 |succ n a=>rw[me,iX,a];simp[T.inner,T.inners];omega
theorem wu{ch:List ax}{m:Nat}(h:WaysOk ch m)(next:Int)(p:Nat):∀i,bK (bX ch next p i)<=1000*i
 |0=>bN _
 |i+1=>by have:=wu h next p i;have a:=h.num i p;simp only[bX,BM,NG];omega
def Sy(g:Gl):Nat:=if g.many then 1+3*bK g.ps else 3*(ai g.ps 0).inner+2
def Tv(l:List Gl):Nat:=(l.map Sy).sum
structure MS where
 ways:List aF
 steps:Nat
 over:Bool
def MS.done(S:MS):Bool:=S.over||decide (60<S.ways.length)
def MS.ev(S:MS)(e:Option aF):MS:=
 if S.done then S else match e with
 |none=>{S with steps:=S.steps+1,over:=decide (20000<S.steps+1)}
 |some u=>if jb S.ways u then S else{S with ways:=S.ways++[u]}
def MS.run(S:MS)(es:List (Option aF)):MS:=es.foldl MS.ev S
theorem MS.qqt(S:MS)(a b:List (Option aF)):S.run (a++b)=(S.run a).run b:=wG
theorem MS.qgI(S:MS)(e:Option aF)(b:List (Option aF)):S.run (e::b)=(S.ev e).run b:=rfl
theorem MS.q3c(S:MS)(e:Option aF)(h:S.ways.length<=61):(S.ev e).ways.length<=61:=by
 unfold MS.ev;split
 ·exact h
 ·rename_i a
  cases e with
  |none=>exact h
  |some u=>
   simp only;split
   ·exact h
   ·unfold MS.done at a
    simp only[iV,cA,not_or]at a;simp;omega
abbrev dI(a:List aF):DV:= .sl U (a.map (binds U))
def MS.step(S:MS):MS:={S with steps:=S.steps+1,over:=decide (20000<S.steps+1)}
@[simp] theorem qKq:DV.clr∘binds U=binds .sub:=funext fun w=>by simp[binds]
theorem KO(L:List aF)(t:Tag)(u:aF)(a:(L.length+1)*24<=140737488355328):bU 1 24 (.sl U (L.map (binds U))) (.sl t [binds U u])=some (.sl U ((L++[u]).map (binds U))):=by
 have b:(L.map (binds U)).all (fun e=>decide (e.cells.length=1))=true:=by rw[cm];intro y hy;obtain⟨z,_,rfl⟩:=cE.1 hy;rfl
 unfold bU;simp only;rw[ay (by rfl)];simp only[gN,bh,if_false];rw[ay ⟨by simpa using a,trivial,b⟩];simp
@[simp] theorem Gl.qfd(g:Tag)(x:Gl):(x.enc g).cells=[.bool x.many,.int .i64 x.f,ao g x.ps,ao g x.ts]:=rfl
@[simp] theorem Gl.qkJ(g:Tag)(x:Gl):(AV.d (x.enc g)).cells=[au x.many,aa x.f,.d (ao g x.ps),.d (ao g x.ts)]:=rfl
@[simp] theorem Gl.qkH(g:Tag)(x:Gl):(x.enc g).isCell=false:=rfl
@[simp] theorem Gl.qfc(x:Gl):(x.enc .sub).clr=x.enc .sub:=by simp[Gl.enc]
@[simp] theorem qVB:DV.clr∘Gl.enc .sub=Gl.enc .sub:=funext fun w=>by simp
section
variable (s:aC) (p t:T) (rest:List Gl) (u:aF) (k:Nat) (Q Q':az)
end
section
variable (s:aC) (p t:T) (rest:List Gl) (u:aF) (k:Nat) (Q Q':az)
end
section
variable (s:aC) (p t:T) (rest:List Gl) (u:aF) (k:Nat) (Q Q':az)
end
section
variable (s:aC) (f:Int) (ts:ah) (rest:List Gl) (u:aF) (k:Nat) (Q Q':az)
end
variable{N:Nat}
theorem Gy{B:List α}(h:B.length=N)(a:α)(r:List α):(B++a::r)[N]?=some a:=by subst h;simp
theorem Yv{B:List α}(h:B.length=N)(a b:α)(r:List α):(B++a::b::r)[N+1]?=some b:=by subst h;rw[dB (by omega),show B.length+1-B.length=1 by omega];rfl
theorem Qv{B:List α}(h:B.length=N)(a b c:α)(r:List α):(B++a::b::c::r)[N+2]?=some c:=by subst h;rw[dB (by omega),show B.length+2-B.length=2 by omega];rfl
section
variable (s:aC) (f next:Int) (all:ah) (ch:List ax) (others:bg) (u:aF) (k N:Nat)
def cO(A:DV)(p:Nat):aI:=[(0,.ptr k 0),(1,aa f),(3,.d (aG .sub ch)),(4,.d (be others)),(5,.d (binds .sub u)),(6,aa next),(14,.d A),(30,.d (ao .sub all)),(31,aa all.length),(32,aa p)]
def cK(A:DV)(p:Nat)(K:DV)(i:Nat):aI:=[(0,.ptr k 0),(1,aa f),(3,.d (aG .sub ch)),(4,.d (be others)),(5,.d (binds .sub u)),(6,aa next),(14,.d A),(15,aa p),(16,.ptr N 0),(17,.d K),(30,.d (ao .sub all)),(31,aa all.length),(32,aa p),(38,.d (aG .sub ch)),(39,aa ch.length),(40,aa i)]
theorem P7(A:DV)(p:Nat)(Bx:az)(m:Bx.length=N+1)(d:WaysOk ch all.length)(o:k<N)(J:p<all.length)(I:0<=next/\next<=1000):
 bo XV (XV.lin 274) (N+1) [0,1,3,4,5,6,14,15,16,17,30,31,32,38,39,40] u_ ⟨cK f next all ch others u k N A p (.sl U []) 0,Bx⟩=
  some (.exit 2,⟨cK f next all ch others u k N A p (.sl U ((bX ch next p ch.length).map (T.enc .sub))) ch.length++[(41,au false)],Bx⟩):=by
 have M:=d.len;have h:=dS (X:=XV) (T:=XV.lin 274) (L:=N+1) (live:=[0,1,3,4,5,6,14,15,16,17,30,31,32,38,39,40]) (b:=u_) (n:=ch.length) (γ:=Unit) (R:=fun _=>(.ret,⟨[],[]⟩)) (step:=fun _ _=> .inl ())
  (st:=fun(_:Unit) i=>⟨cK f next all ch others u k N A p (.sl U ((bX ch next p i).map (T.enc .sub))) i,Bx⟩) 2 41 (fun _ _=>True) ()
  (fun _ _=>by simp[u_,mR,ny,nq,mu,nz,mK,mT,mn,nw,mL,pp,nj,oK,mz,nU,cK])
  (fun _ i hi _=>by
   have j:=aV (n:=i) (by omega);have e:IntKind.i64.wrap (next+(i:Int))=next+i:=wrap_i64 (by omega) (by omega);have D:=cP hi;have l:=d.row i hi;obtain⟨w,C⟩:=d.num i p;have c:p<(aP ch i).length:=by omega
   have x:=bP c;have H:=LZ (next+i);have a:=VK (next+i) (aE (aP ch i) p) w C;have G:=wu d next p i;have r:=gA (bX ch next p i);have q:=t9 (bX ch next p i) (List.replicate (aE (aP ch i) p).toNat (.node (-1) (next+i) [])) .sub (by rw[Nw];omega);have g:bX ch next p (i+1)=bX ch next p i++List.replicate (aE (aP ch i) p).toNat (.node (-1) (next+i) []):=rfl;refine⟨⟨⟨cK f next all ch others u k N A p (.sl U ((bX ch next p (i+1)).map (T.enc .sub))) (i+1),Bx⟩,?_,?_⟩,fun _ _=>trivial⟩
   ·rw[g]
    generalize K:(bX ch next p i++List.replicate (aE (aP ch i) p).toNat (T.node (-1) (next+i) [])).map (T.enc .sub)=L2 at*
    generalize (List.replicate (aE (aP ch i) p).toNat (T.node (-1) (next+i) []))=rp at*
    generalize (bX ch next p i).map (T.enc .sub)=L1 at*
    generalize F:aE (aP ch i) p=z at*
    generalize y:aP ch i=row at*
    simp[u_,mR,ny,nq,mu,nz,mK,mT,mn,nw,mL,pp,nj,oK,mz,nU,cK,hi,j,e,cut,D,c,x,H,a,q,splice]
   ·have:Bx.take (N+1)=Bx:=dC (by omega)
    simp[cK,aA,aB,m,this,o];omega)
  trivial (by
   have:Bx.take (N+1)=Bx:=dC (by omega);simp[cK,aA,aB,m,this,o,bX];omega)
 rw[dv]at h;exact h
end
structure US where
 told:List aF
 work:Nat
 over:Bool
def uB(s:aC)(S:US):aH:=[.d (sg s),.d (dI S.told),aa S.work,au S.over]
variable{k:Nat}
theorem q_len{Q:List α}{x:α}(h:Q[k]?=some x):k<Q.length:=(cW.1 h).1
theorem dq{Q:List α}{x:α}(h:Q[k]?=some x):∀h',Q[k]'h'=x:=fun h'=>by rw[ft h']at h;simpa using h
theorem dr{Q:List α}{x:α}(h:Q[k]?=some x)(e:List α):(Q++e)[k]?=some x:=by rw[ed (q_len h)];exact h
theorem gV{Q:List α}{x:α}(h:Q[k]?=some x)(e:List α):∀h',(Q++e)[k]'h'=x:=dq (dr h e)
theorem gq{Q:List α}{x:α}(h:Q[k]?=some x)(e:List α)(v:α):(Q++e).set k v=Q.set k v++e:=List.set_append_left _ _ (q_len h)
theorem La{B:List α}(h:B.length=N)(a v:α)(r:List α):(B++a::r).set N v=B++v::r:=by subst h;simp
section
variable (s:aC) (f next:Int) (all:ah) (ch:List ax) (others:bg) (u:aF) (k N:Nat)
theorem XI(Q:az)(D:aH)(a:Q.length=N)(i:Q[k]?=some (some (.d (sg s)::D)))(H:s.length<=1099511627776)(q:WaysOk ch all.length)(C:0<=next/\next<=1000)(Y:all.length<=1000):
 bo XV (XV.lin 274) N [0,1,3,4,5,6,14,30,31,32] sU ⟨cO f next all ch others u k (.sl U []) 0,Q⟩=
  some (.exit 0,⟨cO f next all ch others u k (.sl U ((db s f all ch next all.length).map (Eqn.enc .sub U))) all.length++[(33,au false)],Q⟩):=by
 have g:k<N:=by rw[<-a];exact q_len i
 have K:∀e,(Q++e).take N=Q:=fun e=>by rw[<-a];simp
 have y:¬(N+1<=N):=by omega
 have F:¬(N+1<=k):=by omega
 have I:k<N+1:=by omega
 have l:Q.take N=Q:=by rw[<-a];simp
 have h:=dS (X:=XV) (T:=XV.lin 274) (L:=N) (live:=[0,1,3,4,5,6,14,30,31,32]) (b:=sU) (n:=all.length) (γ:=Unit) (R:=fun _=>(.ret,⟨[],[]⟩)) (step:=fun _ _=> .inl ())
  (st:=fun(_:Unit) p=>⟨cO f next all ch others u k (.sl U ((db s f all ch next p).map (Eqn.enc .sub U))) p,Q⟩) 0 33 (fun _ _=>True) ()
  (fun _ _=>by simp[sU,mR,ny,nq,mu,nz,mK,mT,mn,nw,mL,pp,nj,oK,mz,nU,cO])
  (fun _ p m _=>by
   have r:=aV (n:=p) (by omega);have w:=BU s f all ch next p;have M:=wu q next p ch.length;have x:=q.len;have G:=qxb s H f (bX ch next p ch.length) (by omega);have j:=Bb (db s f all ch next p) .sub U (qM s f all ch next p) (by omega);have J:db s f all ch next (p+1)=db s f all ch next p++[qM s f all ch next p]:=rfl;have o:=a5 m;have z:(qM s f all ch next p).enc .sub U= .agg [.int .i64 (ai all p).f,.int .i64 (ai all p).v,ao .sub (ai all p).kids,.int .i64 (eg s f (bX ch next p ch.length)).f,.int .i64 (eg s f (bX ch next p ch.length)).v,ao U (eg s f (bX ch next p ch.length)).kids]:=rfl;rw[z]at j;have c:=P7 f next all ch others u k N (.sl U ((db s f all ch next p).map (Eqn.enc .sub U))) p (Q++[some [aa (ai all p).f,aa (ai all p).v,.d (ao .sub (ai all p).kids)]]) (by simp[a]) q g m C;refine⟨⟨⟨cO f next all ch others u k (.sl U ((db s f all ch next (p+1)).map (Eqn.enc .sub U))) (p+1),Q++[some [aa (ai all p).f,aa (ai all p).v,.d (ao .sub (ai all p).kids)]]⟩,?_,?_⟩,fun _ _=>trivial⟩
   ·rw[J]
    generalize V:(db s f all ch next p++[qM s f all ch next p]).map (Eqn.enc .sub U)=L2 at*
    generalize (db s f all ch next p).map (Eqn.enc .sub U)=L1 at*
    generalize bX ch next p ch.length=kd at*
    generalize eg s f kd=mk at*
    generalize ai all p=t at*
    obtain⟨Z,P,tk⟩:=t;obtain⟨O,mv,mk⟩:=mk;simp only[KB,cK,T.qaO,T.qbx,T.qav,dy]at c j⊢
    simp[sU,mR,ny,nq,mu,nz,mK,mT,mn,nw,mL,pp,nj,oK,mz,nU,cO,m,a,o,cut,Gy a,La a,splice];rw[c];simp[sU,mR,ny,nq,mu,nz,mK,mT,mn,nw,mL,pp,nj,oK,mz,nU,a,G,j,r,y,F,I,dq i,dr i,gV i,Gy a,g,splice,cut]
   ·simp[cO,aA,aB,a,g,K])
  trivial (by simp[cO,aA,aB,db,a,g,l])
 rw[dv]at h;exact h
end
def US.bad(S:US):US:={S with over:=true}
@[simp] theorem qXR(Q:List α)(k:Nat)(v:α):(Q.set k v).take Q.length=Q.set k v:=dC (by simp)
@[simp] theorem qXS(Q r:List α):(Q++r).take Q.length=Q:=by simp
theorem C7(s:aC)(S:US):(uB s S).set 3 (au true)=uB s S.bad:=rfl
section
variable (s:aC) (f next:Int) (all:ah) (ch:List ax) (others:bg) (u:aF) (k:Nat) (S:US) (Q Q':az)
theorem qxy(a:Q[k]?=some (some (uB s S)))(l:ch.length<=1000)(j:0<=next/\next<=1000)(e:99<next+ch.length-1):
 ak XV 274 [.ptr k 0,aa f,.d (ao .sub all),.d (aG .sub ch),.d (be others),.d (binds .sub u),aa next] Q=some (.d (.tup []),Q.set k (some (uB s S.bad))):=by
 rw[aL 274 qu rfl];have i:=q_len a;have g:IntKind.i64.wrap (next+(ch.length:Int))=next+ch.length:=wrap_i64 (by omega) (by omega);have h:IntKind.i64.wrap (next+(ch.length:Int)-1)=next+ch.length-1:=wrap_i64 (by omega) (by omega);have c:=C7 s S;have b:uB s S=[.d (sg s),.d (dI S.told),aa S.work,au S.over]:=rfl;rw[<-c,b];rw[b]at a;simp[qu,mR,ny,nq,mu,nz,mK,mT,mn,nw,mL,pp,nj,oK,mz,nU,g,h,e,i,dq a,a,splice]
theorem ZX(j:Q[k]?=some (some (uB s S)))(r:s.length<=1099511627776)(e:WaysOk ch all.length)(o:0<=next/\next<=1000)(q:all.length<=1000)(z:next+ch.length-1<=99)(m:others.length<=1000000000)(w:Q'.length=Q.length)
 (a:ak XV 263 [.ptr k 0,.d (be (db s f all ch next all.length++others)),.d (binds .sub u),aa (next+ch.length)] Q=some (.d (.tup []),Q')):
 ak XV 274 [.ptr k 0,aa f,.d (ao .sub all),.d (aG .sub ch),.d (be others),.d (binds .sub u),aa next] Q=some (.d (.tup []),Q'):=by
 rw[aL 274 qu rfl];have l:=e.len;have i:=q_len j;have g:=BU s f all ch next all.length;have c:IntKind.i64.wrap (next+(ch.length:Int))=next+ch.length:=wrap_i64 (by omega) (by omega);have n:IntKind.i64.wrap (next+(ch.length:Int)-1)=next+ch.length-1:=wrap_i64 (by omega) (by omega);have x:¬(99:Int)<next+ch.length-1:=by omega
 have h:=XI s f next all ch others u k Q.length Q _ rfl j r e o q;have b:=G5 (db s f all ch next all.length) others .sub U (by omega);simp only[KB,cO,dy]at h;simp[qu,mR,ny,nq,mu,nz,mK,mT,mn,nw,mL,pp,nj,oK,mz,nU,c,n,x,i];rw[h];simp only[be,cM]at a b;have y:Q'.take Q.length=Q':=dC (by omega);simp[qu,mR,ny,nq,mu,nz,mK,mT,mn,nw,mL,pp,nj,oK,mz,nU,c,i,a,b,w,y]
end
def vI(s:aC)(u:aF)(i:Nat):Bool:= !cu s (aQ u i).t
def eA(s:aC)(u:aF):Bool:=(aR (vI s u) u.length 0).isNone
structure SgOk(s:aC):Prop where
 len:s.length<=1099511627776
 nam:∀i,i<s.length->(aX s i).name.size<=1099511627776
structure SubFit(s:aC)(u:aF)(v:Int)(t:T):Prop where
 len:u.length<=1048577
 b:∀i,i<u.length->(aQ u i).t.inner<=1099511627776
 ti:t.inner<=1099511627776
 f:∀i,i<u.length->(bM [⟨v,t⟩] (aQ u i).t).inner<=1099511627776
 o:∀b,b∈bB s u v t->b.t.inner<=1099511627776
theorem Hs(s:aC)(u:aF)(v:Int)(t:T):(bB s u v t).length<=2*u.length+1:=by have:=ss s u v t u.length;unfold bB;rw[cD];split<;>simp<;>omega
section
variable {s:aC} (v next:Int) (t:T) (others:bg) (u:aF) (k:Nat) (S:US) (Q Q':az)
theorem MW(g:SgOk s)(i:Nat)(b:Bd)(r:b.t.inner<=1099511627776)(hi:Q[i]?=some (some [.ptr k 0]))(a:Q[k]?=some (some (uB s S))):
 ak XV 287 [.d (b.enc .sub),.ptr i 0] Q=some (au (!cu s b.t),Q):=by
 rw[aL 287 Du rfl];have e:=E0 s g.len g.nam b.t r;have o:=q_len a;have c:=q_len hi;have w:uB s S=[.d (sg s),.d (dI S.told),aa S.work,au S.over]:=rfl;have j:¬(Q.length<=i):=by omega
 have x:¬(Q.length<=k):=by omega
 have m:i<Q.length+1:=by omega
 have h:k<Q.length+1:=by omega
 have n:¬(Q.length+1<=i):=by omega
 have l:¬(Q.length+1<=k):=by omega
 rw[w]at a;generalize cu s b.t=q at*
 obtain⟨bv,z,y,C⟩:=b;simp[Du,Pq,e,o,c,j,x,m,h,n,l,Xt,dr a,gV a,dr hi,gV hi,dq a,dq hi,splice,VW]
theorem M4(b:Bool)(h:eA s (bB s u v t)=b):(aR (fun i=> !cu s (aQ (bB s u v t) i).t) (bB s u v t).length 0).isSome= !b:=by
 rw[<-h];unfold eA
 show _= !(aR (fun i=> !cu s (aQ (bB s u v t) i).t) (bB s u v t).length 0).isNone;cases aR (fun i=> !cu s (aQ (bB s u v t) i).t) (bB s u v t).length 0<;>rfl
theorem qOO(l:k<Q.length)(h:t.inner<=1099511627776)(e:0<cnt t v):
 ak XV 267 [.ptr k 0,aa v,.d (t.enc .sub),.d (be others),.d (binds .sub u),aa next] Q=some (.d (.tup []),Q):=by
 rw[aL 267 oc rfl];have hc:=Im t h v;have a:0<IntKind.i64.wrap (T.sum (wC v) t):=e;generalize IntKind.i64.wrap (T.sum (wC v) t)=c at*
 obtain⟨n,m,o⟩:=t;have i:k<Q.length+1:=by omega
 have b:k<Q.length+2:=by omega
 have j:¬(Q.length+2<=Q.length):=by omega
 have g:¬(Q.length+2<=k):=by omega
 simp[oc,E3,hc,a,l,i,b,j,g,get_at,ji,splice]
theorem YP(l:SgOk s)(g:Q[k]?=some (some (uB s S)))(e:SubFit s u v t)(C:¬0<cnt t v)(h:eA s (bB s u v t)=false):
 ak XV 267 [.ptr k 0,aa v,.d (t.enc .sub),.d (be others),.d (binds .sub u),aa next] Q=some (.d (.tup []),Q.set k (some (uB s S.bad))):=by
 rw[aL 267 oc rfl];have y:=q_len g;have hc:=Im t e.ti v;have j:¬0<IntKind.i64.wrap (T.sum (wC v) t):=C;have i:=MG s l.len u v t e.len e.b e.ti e.f;have x:=Hs s u v t;have D:=e.len;have a:=Oa (bB s u v t) 287 [.ptr Q.length 0] (Q++[some [.ptr k 0],some [aa t.f,aa t.v,.d (ao .sub t.kids)]]) (fun b=> !cu s b.t) (by omega) (by simp[AV.safe.safes,AV.safe]) (by simp) (by simp)
  (fun b h=>MW k S _ l Q.length b (e.o b h) (by simp) (dr g _))
 rw[M4 v t u _ h]at a;generalize bB s u v t=u2 at*
 generalize IntKind.i64.wrap (T.sum (wC v) t)=c at*
 obtain⟨G,F,H⟩:=t;have r:k<Q.length+1:=by omega
 have n:k<Q.length+2:=by omega
 have w:¬(Q.length+2<=Q.length):=by omega
 have q:¬(Q.length+2<=k):=by omega
 have z:=C7 s S;have m:uB s S=[.d (sg s),.d (dI S.told),aa S.work,au S.over]:=rfl;rw[<-z,m];rw[m]at g;simp only[binds,T.qaO,T.qbx,T.qav]at a;simp[oc,E3,hc,j,y,r,n,w,q,get_at,ji,splice,i,a,dr g,gV g,gq g]
theorem TA(q:SgOk s)(i:Q[k]?=some (some (uB s S)))(g:SubFit s u v t)(G:¬0<cnt t v)(j:eA s (bB s u v t)=true)(r:Q'.length=Q.length)
 (h:∀e,ak XV 263 [.ptr k 0,.d (be others),.d (binds .sub (bB s u v t)),aa next] (Q++e)=some (.d (.tup []),Q'++e)):
 ak XV 267 [.ptr k 0,aa v,.d (t.enc .sub),.d (be others),.d (binds .sub u),aa next] Q=some (.d (.tup []),Q'):=by
 rw[aL 267 oc rfl];have F:=q_len i;have hc:=Im t g.ti v;have n:¬0<IntKind.i64.wrap (T.sum (wC v) t):=G;have l:=MG s q.len u v t g.len g.b g.ti g.f;have D:=Hs s u v t;have H:=g.len;have a:=Oa (bB s u v t) 287 [.ptr Q.length 0] (Q++[some [.ptr k 0],some [aa t.f,aa t.v,.d (ao .sub t.kids)]]) (fun b=> !cu s b.t) (by omega) (by simp[AV.safe.safes,AV.safe]) (by simp) (by simp)
  (fun b j=>MW k S _ q Q.length b (g.o b j) (by simp) (dr i _))
 rw[M4 v t u _ j]at a;have w:=h [some [.ptr k 0],some [aa t.f,aa t.v,.d (ao .sub t.kids)]];generalize bB s u v t=u2 at*
 generalize IntKind.i64.wrap (T.sum (wC v) t)=c at*
 obtain⟨M,J,O⟩:=t;have z:k<Q.length+1:=by omega
 have x:k<Q.length+2:=by omega
 have C:¬(Q.length+2<=Q.length):=by omega
 have y:¬(Q.length+2<=k):=by omega
 have I:uB s S=[.d (sg s),.d (dI S.told),aa S.work,au S.over]:=rfl;have K:Q'.take Q.length=Q':=dC (by omega);have m:∀e,(Q'++e).take Q.length=Q':=fun e=>by rw[<-r];simp
 rw[I]at i;simp only[binds,T.qaO,T.qbx,T.qav]at w a;simp[oc,E3,hc,n,F,z,x,C,y,get_at,ji,splice,l,a,w,dr i,gV i,r,m]
end
def cntF(a:ah×ax)(t:T):ah×ax:=
 match aR (dJ a.1 t) a.1.length 0 with
 |some j=>(a.1,a.2.set j (aE a.2 j+1))
 |none=>(a.1++[t],a.2++[1])
def bw(l:ah):ah×ax:=l.foldl cntF ([],[])
theorem Jg{a:aw}(b:a.all (da .i64)=true)(g:Tag)(l:ah)(h:DV.xrests a (l.map (T.enc g))=true):DV.xrest a (.sl g (l.map (T.enc g)))=true:=by
 cases l with
 |nil=>simp[DV.xrest,DV.xrests]
 |cons t l=>
  have c:(a.all fun r=> !(ao g t.kids).like r)=true:=by
   rw[cm]at b⊢
   intro r d;have:=b r d;cases r<;>first|rfl|(simp[da]at this;done)
  have e:((t::l).map (T.enc g)).flatMap DV.cells= .int .i64 t.f:: .int .i64 t.v::ao g t.kids::(l.map (T.enc g)).flatMap DV.cells:=by simp
  simp only[DV.xrest,h,t5];rw[e];simp only[List.any_cons,c,HV,Dy]
mutual
theorem Ps{b:aw}(a:b.all (da .i64)=true)(g:Tag):∀t:T,DV.xrest b (t.enc g)=true
 | .node f v ks=>by have:=Jg a g ks (uw a g ks);rw[T.qb5];simp only[T.qaO,T.qbx,T.qav,ao,DV.xrest,DV.xrests,t5,eF];simpa only[DV.xrest]using this
theorem uw{b:aw}(a:b.all (da .i64)=true)(g:Tag):∀l:ah,DV.xrests b (l.map (T.enc g))=true
 | []=>by simp[DV.xrests]
 |t::l=>by simp only[bF,DV.xrests,Ps a g t,uw a g l,eF]
end
theorem vz(l:ax):(l.map (DV.int .i64)).all (da .i64)=true:=by
 rw[cm];intro x hx
 obtain⟨n,_,rfl⟩:=cE.1 hx;simp[da]
@[simp] theorem qVV(c:ax)(g:Tag)(l:ah):DV.xrest (c.map (DV.int .i64)) (.sl g (l.map (T.enc g)))=true:=Jg (vz c) g l (uw (vz c) g l)
@[simp] theorem qVU(c:ax)(l:ah):DV.xrest (c.map (DV.int .i64)) (.sl U (l.map (T.enc .sub)))=true:=by have:=uw (vz c) .sub l;simp only[DV.xrest,this,t5,decide_true,Dy]
theorem qOv(l:ah)(a:ah×ax)(h:a.2.length=a.1.length):(l.foldl cntF a).2.length=(l.foldl cntF a).1.length:=by
 induction l generalizing a with
 |nil=>exact h
 |cons t l b=>refine b _ ?_;unfold cntF;split<;>simp[h]
theorem Mj(a:ax)(n:Int)(h:a.length<=1099511627776):bU 1 8 (.sl U (a.map (.int .i64))) (.sl U [.int .i64 n])=some (.sl U ((a++[n]).map (.int .i64))):=by
 have b:(a.map (DV.int .i64)).all (fun e=>decide (e.cells.length=1))=true:=by
  rw[cm];intro y hy
  obtain⟨z,_,rfl⟩:=cE.1 hy;rfl
 unfold bU;simp only;rw[ay (by simp[DV.cells,DV.isCell])];simp only[gN,bh,if_false];rw[ay ⟨by simp;omega,trivial,b⟩];simp
theorem qKe(x:T)(f v:Int)(ks:ah)(hx:x.inner<=1099511627776)(a:(T.node f v ks).inner<=1099511627776):
 ak XV 280 [.d (x.enc .sub),.ptr 0 0] [some [aa f,aa v,.d (ao .sub ks)]]=some (au (T.cmp x (.node f v ks)==0),[some [aa f,aa v,.d (ao .sub ks)]]):=by
 rw[aL 280 By rfl];have h:=same_eq x (.node f v ks) hx a;obtain⟨c,v',b⟩:=x;simp[By,h]
theorem IF(l:ax)(j m:Nat)(v:Int):aE (l.set j v) m=if j=m/\j<l.length then v else aE l m:=by
 unfold aE;rw[List.getElem?_set]
 by_cases h:j=m
 ·subst h
  by_cases a:j<l.length
  ·simp[a]
  ·simp[a,jf (show l.length<=j by omega)]
 ·simp[h]
theorem J0(l:ax)(m:Nat)(v:Int):aE (l++[v]) m=if m<l.length then aE l m else if m=l.length then v else 0:=by
 unfold aE
 by_cases h:m<l.length
 ·rw[ay h,ed h]
 ·rw[aD h,dB (by omega)]
  by_cases a:m=l.length
  ·simp[a]
  ·rw[aD a,jf (by simp;omega)];rfl
theorem On(x:ah)(hx:x.length<=1099511627776)(bx:∀t,t∈x->t.inner<=1099511627776):
 ak XV 271 [.d (ao .sub x)] []=some (.d (.tup [.sl U ((bw x).1.map (T.enc .sub)),ints U (bw x).2]),[]):=by
 rw[Lc XV _ _ _ tu rfl qDp rfl (m:=0) (by kernel_rfl) rfl];have h:=dS (X:=XV) (T:=XV.lin 271) (L:=0) (live:=[4,5,11,12,13]) (b:=xl) (n:=x.length) (γ:=Unit) (R:=fun _=>(.ret,⟨[],[]⟩)) (step:=fun a i=> .inl (cntF a (ai x i)))
  (st:=fun a i=>⟨[(4,.d (.sl U (a.1.map (T.enc .sub)))),(5,.d (.sl U (a.2.map (.int .i64)))),(11,.d (ao .sub x)),(12,aa x.length),(13,aa i)],[]⟩) 0 14
  (fun a i=>a.1.length<=i/\a.2.length=a.1.length/\(∀t,t∈a.1->t.inner<=1099511627776)/\∀j,0<=aE a.2 j/\aE a.2 j<=i) ([],[])
  (fun a _=>by simp[xl,uN,tZ,t6,tt,rC,tS,sB,rS,ut,uk,t8,tP])
  (fun a i hi r=>by
   obtain⟨i1,Y,K,F⟩:=r;have P:=aV (n:=i) (by omega);have O:=bx _ (bL hi);have o:=a5 hi;have M:=CW a.1 (ai x i) (by omega);have w:=Mj a.2 1 (by omega);obtain⟨e,C⟩:=a;simp only[cntF]at*
   generalize ai x i=t at*
   obtain⟨g,c,l⟩:=t;have hc:=OL e 280 [.ptr 0 0] [some [aa g,aa c,.d (ao .sub l)]] (fun x=>T.cmp x (.node g c l)==0) (by omega) (by simp) (by simp) (by simp) (fun x hx=>qKe x g c l (K x hx) O);have G:(fun j=>T.cmp (ai e j) (.node g c l)==0)=dJ e (.node g c l):=rfl;rw[G]at hc;cases hf:aR (dJ e (.node g c l)) e.length 0 with
   |some j=>
    rw[hf]at hc;obtain⟨_,hj,_⟩:=dA _ _ _ _ hf;have y:j<C.length:=by omega
    have D:¬((j:Int)<0):=by omega
    have J:=bP y;have Z:=F j;have H:IntKind.i64.wrap (aE C j+1)=aE C j+1:=wrap_i64 (by omega) (by omega);have V:=vz C;have I:=uw V .sub e;refine⟨⟨_,by simp[xl,uN,tZ,t6,tt,rC,tS,sB,rS,ut,uk,t8,tP,Om,p9,hi,P,cut,o,hc,bC,splice,D,y,J,H,V,I];rfl,by simp[aA,aB]⟩,fun a' h=> ?_⟩;simp only[ka]at h;subst h;refine⟨by simp only;omega,by simp only[rW];exact Y,K,fun m=> ?_⟩;have:=F m;simp only[IF];split<;>omega
   |none=>
    rw[hf]at hc;refine⟨⟨_,by simp[xl,uN,tZ,t6,tt,rC,tS,sB,rS,ut,uk,t8,tP,hi,P,cut,o,hc,bC,M,w,splice];rfl,by simp[aA,aB]⟩,fun a' h=> ?_⟩;simp only[ka]at h;subst h;refine⟨by simp;omega,by simp;exact Y,fun q z=> ?_,fun m=> ?_⟩
    ·rcases bu.1 z with z|z
     ·exact K q z
     ·rw[fF.1 z];exact O
    ·have:=F m
     simp only[J0];split<;>(try split)<;>omega)
  ⟨by simp,rfl,by simp,by simp[aE]⟩ (by simp[aA,aB])
 rw[vZ]at h;simp only[VY,bS,dy]at h;simp[tu,uN,tZ,t6,tt,rC,tS,sB,rS,ut,uk,t8,tP];rw[h];simp[tu,uN,tZ,t6,tt,rC,tS,sB,rS,ut,uk,t8,tP,bw]
abbrev W(x:Int):Int:=IntKind.i64.wrap x
theorem FW(x:Int):IntKind.i64.wrap x=if x%18446744073709551616>=9223372036854775808 then x%18446744073709551616-18446744073709551616 else x%18446744073709551616:=by simp[IntKind.wrap,IntKind.bits,IntKind.signed]
theorem Sb(x y:Int):W (W x+W y)=W (x+y):=by simp only[W,FW];split<;>split<;>split<;>split<;>omega
theorem Zy(x y:Int):W (W x-W y)=W (x-y):=by simp only[W,FW];split<;>split<;>split<;>split<;>omega
theorem Ph(x y:Int):(W x==W y)=(W (x-y)==0):=by
 have:(W x=W y)↔(W (x-y)=0):=by simp only[W,FW];split<;>split<;>split<;>omega
 rw[nZ];simpa using this
def bT(a x:ax)(o:Nat):Nat->Nat->Int
 |_,0=>0
 |i,k+1=>aE a i*aE x (o+i)+bT a x o (i+1) k
def Dg(a x:ax)(o:Nat)(t:Int)(i:Nat):Int⊕Unit:= .inl (W (t+W (aE a i*aE x (o+i))))
def Hw(a x:ax)(o:Nat)(t:Int)(i:Nat):Int⊕Unit:= .inl (W (t-W (aE a i*aE x (o+i))))
theorem GR(a x:ax)(o:Nat):∀(k i:Nat) (d:Int),runN (Dg a x o) k (W d) i= .inl (W (d+bT a x o i k))
 |0,i,d=>by simp[runN,bT]
 |k+1,i,d=>by
  simp only[runN,Dg,Sb,bT];rw[GR a x o k (i+1) _]
  congr 2;omega
theorem Kq(a x:ax)(o:Nat):∀(k i:Nat) (d:Int),runN (Hw a x o) k (W d) i= .inl (W (d-bT a x o i k))
 |0,i,d=>by simp[runN,bT]
 |k+1,i,d=>by
  simp only[runN,Hw,Zy,bT];rw[Kq a x o k (i+1) _]
  congr 2;omega
theorem Ku:W 0=0:=rfl
theorem Lu(a x:ax)(o:Nat)(r:a.length<=1099511627776)(hx:x.length<=2199023255552)(h:o+a.length<=x.length):ak XV 48 [.d (is a),.d (is x),aa o] []=some (aa (W (bT a x o 0 a.length)),[]):=by
 rw[aL 48 C3 rfl];have c:=bE (X:=XV) (T:=[]) (L:=0) (live:=[0,1,2,7,8]) (b:=DU) (n:=a.length) (γ:=Unit) (st:=fun(t:Int) i=>⟨[(0,.d (is a)),(1,.d (is x)),(2,aa o),(7,aa t),(8,aa i)],[]⟩) (step:=Dg a x o)
  (F:=fun t=>(.exit 0,⟨[(0,.d (is a)),(1,.d (is x)),(2,aa o),(7,aa t),(8,aa a.length),(12,au false)],[]⟩)) (R:=fun _=>(.ret,⟨[],[]⟩))
  (fun _=>⟨by simp,by simp[DU]⟩)
  (fun t i hi=>by
   have q:=aV (n:=i) (by omega);have g:IntKind.i64.wrap ((o:Int)+i)=(o:Int)+i:=wrap_i64 (by omega) (by omega);have m:(0:Int)<=(o:Int)+i:=by omega
   have l:((o:Int)+i).toNat=o+i:=by omega
   have e:o+i<x.length:=by omega
   exact⟨_,by simp[DU,RO,hi,q,g,m,l,e,cut,bP hi,bP e];rfl,by simp[aA,aB]⟩)
  a.length 0 0 ⟨[(0,.d (is a)),(1,.d (is x)),(2,aa o),(7,aa 0),(8,aa 0)],[]⟩ (by omega) (by simp[aA,aB])
 have j:=GR a x o a.length 0 0;rw[Ku,CH]at j;rw[j]at c;simp[C3];rw[c];simp
def li(x:ax)(i:Nat):Bool:=decide (aE x i<0)
def r9(a b x:ax):Bool:=decide (x.length=a.length+b.length)&&((aR (li x) x.length 0).isNone&&(W (bT a x 0 0 a.length)==W (bT b x a.length 0 b.length)))
theorem QG(n:Int):ak XV 46 [aa n] []=some (au (decide (n<0)),[]):=by rw[aL 46 v46 rfl];simp[v46]
theorem TG(l:ax)(e:l.length<=1099511627776):ak XV 47 [.d (is l),.fn 46 []] []=some (aa (bC (aR (li l) l.length 0)),[]):=by
 rw[aL 47 lE rfl];have h:=bE (X:=XV) (T:=XV.lin 47) (L:=0) (live:=[0,1,7,8]) (b:=ja) (n:=l.length) (γ:=Nat) (st:=fun(_:Unit) i=>⟨[(0,.d (is l)),(1,.fn 46 []),(7,aa l.length),(8,aa i)],[]⟩) (step:=bG (li l))
  (F:=fun _=>(.exit 0,⟨[(0,.d (is l)),(1,.fn 46 []),(7,aa l.length),(8,aa l.length),(9,au false)],[]⟩)) (R:=fun(j:Nat)=>(.ret,⟨[(4,aa j)],[]⟩))
  (fun _=>⟨by simp,by simp[ja]⟩)
  (fun _ i hi=>by
   have c:=aV (n:=i) (by omega);have hc:=QG (aE l i);unfold bG li
   by_cases a:aE l i<0
   ·simp only[a,decide_true,if_true]at hc⊢
    exact⟨by simp,by simp[ja,hi,cut,bP hi,hc]⟩
   ·simp only[a,decide_false]at hc⊢
    exact⟨_,by simp[ja,hi,c,cut,bP hi,hc];rfl,by simp[aA,aB]⟩)
  l.length () 0 ⟨[(0,.d (is l)),(1,.fn 46 []),(7,aa l.length),(8,aa 0)],[]⟩ (by omega) (by simp[aA,aB])
 rw[cT]at h;simp only[OV]at h;simp[lE];rw[h];cases hq:aR (li l) l.length 0<;>simp[bC]
theorem Yu(l:ax)(a:l.length<=1099511627776):ak XV 45 [.d (is l),.fn 46 []] []=some (au (!(aR (li l) l.length 0).isNone),[]):=by
 rw[aL 45 oR rfl];have h:=TG l a;cases hq:aR (li l) l.length 0 with
 |none=>rw[hq]at h;simp[oR,h,bC]
 |some j=>rw[hq]at h;simp[oR,h,bC]
theorem S1(a b x:ax)(y:a.length<=1099511627776)(z:b.length<=1099511627776)(hx:x.length<=1099511627776):ak XV 43 [.d (is a),.d (is b),.d (is x)] []=some (au (r9 a b x),[]):=by
 rw[aL 43 tY rfl];have g:IntKind.i64.wrap ((a.length:Int)+b.length)=(a.length:Int)+b.length:=wrap_i64 (by omega) (by omega);unfold r9
 by_cases c:x.length=a.length+b.length
 case neg=>
  have c':((x.length:Int) !=(a.length:Int)+b.length)=true:=by simp;omega
  simp[tY,B9,Cy,g,c,c']
 have c':((x.length:Int) !=(a.length:Int)+b.length)=false:=by simp;omega
 have h:=Yu x hx;cases hq:aR (li x) x.length 0 with
 |some j=>rw[hq]at h;simp[tY,B9,Cy,g,c,h]
 |none=>
  rw[hq]at h;have m:=bE (X:=XV) (T:=XV.lin 43) (L:=0) (live:=[0,1,2,7,24,25,26]) (b:=BO) (n:=a.length) (γ:=Unit) (st:=fun(t:Int) i=>⟨[(0,.d (is a)),(1,.d (is b)),(2,.d (is x)),(7,aa t),(24,.d (is a)),(25,aa a.length),(26,aa i)],[]⟩) (step:=Dg a x 0)
   (F:=fun t=>(.exit 0,⟨[(0,.d (is a)),(1,.d (is b)),(2,.d (is x)),(7,aa t),(24,.d (is a)),(25,aa a.length),(26,aa a.length),(27,au false)],[]⟩)) (R:=fun _=>(.ret,⟨[],[]⟩))
   (fun _=>⟨by simp,by simp[BO]⟩)
   (fun t i hi=>by
    have g:=aV (n:=i) (by omega);have e:i<x.length:=by omega
    exact⟨_,by simp[BO,hi,g,e,cut,bP hi,bP e];rfl,by simp[aA,aB]⟩)
   a.length 0 0 ⟨[(0,.d (is a)),(1,.d (is b)),(2,.d (is x)),(7,aa 0),(24,.d (is a)),(25,aa a.length),(26,aa 0)],[]⟩ (by omega) (by simp[aA,aB])
  have q:=GR a x 0 a.length 0 0;rw[Ku,CH]at q;rw[q]at m;have o:=bE (X:=XV) (T:=XV.lin 43) (L:=0) (live:=[0,2,7,40,41,42]) (b:=yQ) (n:=b.length) (γ:=Unit) (st:=fun(t:Int) i=>⟨[(0,.d (is a)),(2,.d (is x)),(7,aa t),(40,.d (is b)),(41,aa b.length),(42,aa i)],[]⟩) (step:=Hw b x a.length)
   (F:=fun t=>(.exit 2,⟨[(0,.d (is a)),(2,.d (is x)),(7,aa t),(40,.d (is b)),(41,aa b.length),(42,aa b.length),(43,au false)],[]⟩)) (R:=fun _=>(.ret,⟨[],[]⟩))
   (fun _=>⟨by simp,by simp[yQ]⟩)
   (fun t i hi=>by
    have g:=aV (n:=i) (by omega);have l:IntKind.i64.wrap ((a.length:Int)+i)=(a.length:Int)+i:=wrap_i64 (by omega) (by omega);have w:(0:Int)<=(a.length:Int)+i:=by omega
    have r:((a.length:Int)+i).toNat=a.length+i:=by omega
    have e:a.length+i<x.length:=by omega
    exact⟨_,by simp[yQ,hi,g,l,w,r,e,cut,bP hi,bP e];rfl,by simp[aA,aB]⟩)
   b.length (W (bT a x 0 0 a.length)) 0 ⟨[(0,.d (is a)),(2,.d (is x)),(7,aa (W (bT a x 0 0 a.length))),(40,.d (is b)),(41,aa b.length),(42,aa 0)],[]⟩ (by omega) (by simp[aA,aB])
  rw[Kq]at o;simp only[XM]at m o;rw[Ph];simp[tY,g,c',h];rw[m];simp[B9,Cy];rw[o];simp[c]
theorem Nn(m:Nat)(ps:List ax)(j i:Nat)(hi:i<m):aE (cr m ps (j+1)) i=if i<(aP ps j).length then IntKind.i64.wrap (aE (cr m ps j) i+aE (aP ps j) i)else aE (cr m ps j) i:=by rw[cr,qU _ _ _ (by rw[qI];exact hi)]
theorem XL(l:ax)(i:Nat)(h:i<l.length):l.take (i+1)=l.take i++[aE l i]:=by rw[ov,ft h,bP h];rfl
theorem Sc(m:Nat)(n:Int)(ps:List ax)(acc:DV)(i:Nat)(hi:i<m)(o:ps.length<=4398046511104):
 bo XV [4,5,9,41,43,44,45] 0 [0,1,5,6,7,8] t7 ⟨[(0,.d (aG .sub ps)),(1,aa n),(5,.d acc),(6,aa i),(7,aa 0),(8,aa 0)],[]⟩
 =some (.exit 2,⟨[(0,.d (aG .sub ps)),(1,aa n),(5,.d acc),(6,aa i),(7,aa (aE (cr m ps ps.length) i)),(8,aa ps.length),(22,au false)],[]⟩):=by
 have h:=bE (X:=XV) (T:=[4,5,9,41,43,44,45]) (L:=0) (live:=[0,1,5,6,7,8]) (b:=t7) (n:=ps.length) (γ:=Unit) (st:=fun(_:Unit) j=>⟨[(0,.d (aG .sub ps)),(1,aa n),(5,.d acc),(6,aa i),(7,aa (aE (cr m ps j) i)),(8,aa j)],[]⟩) (step:=fun _ _=> .inl ())
  (F:=fun _=>(.exit 2,⟨[(0,.d (aG .sub ps)),(1,aa n),(5,.d acc),(6,aa i),(7,aa (aE (cr m ps ps.length) i)),(8,aa ps.length),(22,au false)],[]⟩)) (R:=fun _=>(.ret,⟨[],[]⟩))
  (fun _=>⟨by simp,by simp[t7]⟩)
  (fun _ j e=>by
   have g:=aV (n:=j) (by omega);have a:=Nn m ps j i hi;generalize hx:aE (cr m ps j) i=x at a⊢
   by_cases c:i<(aP ps j).length
   ·rw[ay c]at a
    exact⟨_,by simp[t7,e,g,cut,cP e,c,bP c];rfl,by simp[aA,aB,a]⟩
   ·rw[aD c]at a
    exact⟨_,by simp[t7,e,g,cut,cP e,c];rfl,by simp[aA,aB,a]⟩)
  ps.length () 0 ⟨[(0,.d (aG .sub ps)),(1,aa n),(5,.d acc),(6,aa i),(7,aa (aE (cr m ps 0) i)),(8,aa 0)],[]⟩ (by omega) (by simp[aA,aB])
 rw[dv]at h;have l:aE (cr m ps 0) i=0:=by simp[cr,aE,hi]
 rw[l]at h;exact h
theorem TS(ps:List ax)(n:Int)(z:ps.length<=1099511627776):ak XV 213 [.d (aG .sub ps),aa n] []=some (.d (ints U (dL ps n)),[]):=by
 rw[aL 213 xG rfl]
 by_cases q:1<=n/\n<=1000
 ·have l:dL ps n=cr n.toNat ps ps.length:=by unfold dL;rw[ay q]
  rw[l];obtain⟨m,rfl⟩:∃m:Nat,n=m:=⟨n.toNat,by omega⟩;simp only[te];have j:(m:Int)<=1000:=by omega
  have h:=qI m ps ps.length;have a:=bE (X:=XV) (T:=[4,5,9,41,43,44,45]) (L:=0) (live:=[0,1,5,6]) (b:=qQ) (n:=m) (γ:=Unit) (st:=fun(_:Unit) i=>⟨[(0,.d (aG .sub ps)),(1,aa m),(5,.d (.sl U (((cr m ps ps.length).take i).map (.int .i64)))),(6,aa i)],[]⟩) (step:=fun _ _=> .inl ())
   (F:=fun _=>(.exit 0,⟨[(0,.d (aG .sub ps)),(1,aa m),(5,.d (.sl U (((cr m ps ps.length).take m).map (.int .i64)))),(6,aa m),(16,au false)],[]⟩)) (R:=fun _=>(.ret,⟨[],[]⟩))
   (fun _=>⟨by simp,by simp[qQ]⟩)
   (fun _ i hi=>by
    have y:=aV (n:=i) (by omega);have e:=Sc m m ps (.sl U (((cr m ps ps.length).take i).map (.int .i64))) i hi (by omega);have c:=pW ((cr m ps ps.length).take i) [aE (cr m ps ps.length) i] U (by simp;omega);rw[<-XL _ _ (by omega)]at c;generalize cr m ps ps.length=g at e c h⊢
    simp only[bF,bS]at c;generalize hx:aE g i=x at e c;generalize o:(g.take i).map (DV.int .i64)=l1 at e c⊢
    generalize w:(g.take (i+1)).map (DV.int .i64)=l2 at c;exact⟨⟨[(0,.d (aG .sub ps)),(1,aa m),(5,.d (.sl U l2)),(6,aa (i+1:Nat))],[]⟩,by
     simp[qQ,hi,j];rw[e];simp[c,y],by simp[aA,aB,w]⟩)
   m () 0 ⟨[(0,.d (aG .sub ps)),(1,aa m),(5,.d (.sl U [])),(6,aa 0)],[]⟩ (by omega) (by simp[aA,aB])
  rw[dv,dC (by omega)]at a;generalize cr m ps ps.length=g at a⊢
  simp[xG];rw[a];simp
 ·have l:dL ps n=[]:=by unfold dL;rw[aD q]
  rw[l];have a:=bE (X:=XV) (T:=[4,5,9,41,43,44,45]) (L:=0) (live:=[0,1,5,6]) (b:=qQ) (n:=0) (γ:=Unit) (st:=fun(_:Unit) i=>⟨[(0,.d (aG .sub ps)),(1,aa n),(5,.d (.sl U [])),(6,aa i)],[]⟩) (step:=fun _ _=> .inl ())
   (F:=fun _=>(.exit 0,⟨[(0,.d (aG .sub ps)),(1,aa n),(5,.d (.sl U [])),(6,aa 0),(16,au false)],[]⟩)) (R:=fun _=>(.ret,⟨[],[]⟩))
   (fun _=>⟨by simp,by
    by_cases r:(0:Int)<n
    ·have o:¬n<=1000:=by omega
     simp[qQ,r,o]
    ·simp[qQ,r]⟩)
   (fun _ i hi=>by omega)
   0 () 0 ⟨[(0,.d (aG .sub ps)),(1,aa n),(5,.d (.sl U [])),(6,aa 0)],[]⟩ (by omega) (by simp[aA,aB])
  rw[dv]at a;simp[xG];rw[a];simp
def BX(l:ax)(m:Int)(i:Nat):Int⊕Unit:= .inl (if aE l i>m then aE l i else m)
def iY(l:ax):Nat->Nat->Int->Int
 |_,0,m=>m
 |i,k+1,m=>iY l (i+1) k (if aE l i>m then aE l i else m)
theorem G6(l:ax):∀(k i:Nat) (m:Int),runN (BX l) k m i= .inl (iY l i k m)
 |0,i,m=>rfl
 |k+1,i,m=>by simp only[runN,BX,iY];exact G6 l k (i+1) _
def dh(l:ax):Int:=iY l 1 (l.length-1) (aE l 0)
def Ap(l:ax):Int:=iY l 0 l.length 0
theorem GH(l:ax)(g:l.length<=1099511627776)(a:0<l.length):ak XV 223 [.d (is l)] []=some (aa (dh l),[]):=by
 rw[aL 223 CE rfl];have h:=bE (X:=XV) (T:=XV.lin 223) (L:=0) (live:=[0,3,4]) (b:=B6) (n:=l.length) (γ:=Unit) (st:=fun(m:Int) i=>⟨[(0,.d (is l)),(3,aa m),(4,aa i)],[]⟩) (step:=BX l)
  (F:=fun m=>(.exit 0,⟨[(0,.d (is l)),(3,aa m),(4,aa l.length),(15,au false)],[]⟩)) (R:=fun _=>(.ret,⟨[],[]⟩))
  (fun _=>⟨by simp,by simp[B6]⟩)
  (fun m i hi=>by have e:=aV (n:=i) (by omega);exact⟨_,by simp[B6,hi,e,cut,bP hi];rfl,by simp[aA,aB]⟩)
  (l.length-1) (aE l 0) 1 ⟨[(0,.d (is l)),(3,aa (aE l 0)),(4,aa 1)],[]⟩ (by omega) (by simp[aA,aB])
 rw[G6]at h;simp only[qUE]at h;have c:¬((l.length:Int)<1):=by omega
 simp[CE,c,a,cut,bP a];rw[h];simp[dh]
theorem Mr(x y:Int):ak XV 221 [aa x,aa y] []=some (aa (if y>x then y else x),[]):=by
 rw[aL 221 vA rfl]
 by_cases h:x>y
 ·rw[aD (by omega)]
  have:y<x:=h;simp[vA,this]
 ·have h':¬y<x:=h
  simp[vA,h'];intro;omega
theorem MH(l:ax)(c:l.length<=1099511627776):ak XV 219 [.d (is l)] []=some (aa (Ap l),[]):=by
 rw[aL 219 DC rfl];have h:=bE (X:=XV) (T:=XV.lin 219) (L:=0) (live:=[0,3,4]) (b:=As) (n:=l.length) (γ:=Unit) (st:=fun(m:Int) i=>⟨[(0,.d (is l)),(3,aa m),(4,aa i)],[]⟩) (step:=BX l)
  (F:=fun m=>(.exit 0,⟨[(0,.d (is l)),(3,aa m),(4,aa l.length),(8,au false)],[]⟩)) (R:=fun _=>(.ret,⟨[],[]⟩))
  (fun _=>⟨by simp,by simp[As]⟩)
  (fun m i hi=>by have a:=aV (n:=i) (by omega);have hc:=Mr m (aE l i);exact⟨_,by simp[As,hi,a,cut,bP hi,hc];rfl,by simp[aA,aB]⟩)
  l.length 0 0 ⟨[(0,.d (is l)),(3,aa 0),(4,aa 0)],[]⟩ (by omega) (by simp[aA,aB])
 rw[G6]at h;simp only[qUF]at h;simp[DC];rw[h];simp[Ap]
def kt(l:ax)(i:Nat):Bool:= !b0 (aE l i) 1 4
def b8(l:ax):Bool:=(aR (kt l) l.length 0).isNone&&b0 l.length 1 5
theorem Vw(n:Int):ak XV 230 [aa n] []=some (au (!b0 n 1 4),[]):=by rw[aL 230 DX rfl];have h:=oV n 1 4;simp[DX,h]
theorem Wj(l:ax)(c:l.length<=1099511627776):ak XV 47 [.d (is l),.fn 230 []] []=some (aa (bC (aR (kt l) l.length 0)),[]):=by
 rw[aL 47 lE rfl];have h:=bE (X:=XV) (T:=XV.lin 47) (L:=0) (live:=[0,1,7,8]) (b:=ja) (n:=l.length) (γ:=Nat) (st:=fun(_:Unit) i=>⟨[(0,.d (is l)),(1,.fn 230 []),(7,aa l.length),(8,aa i)],[]⟩) (step:=bG (kt l))
  (F:=fun _=>(.exit 0,⟨[(0,.d (is l)),(1,.fn 230 []),(7,aa l.length),(8,aa l.length),(9,au false)],[]⟩)) (R:=fun(j:Nat)=>(.ret,⟨[(4,aa j)],[]⟩))
  (fun _=>⟨by simp,by simp[ja]⟩)
  (fun _ i hi=>by
   have a:=aV (n:=i) (by omega);have hc:=Vw (aE l i);unfold bG kt;cases hn:b0 (aE l i) 1 4 with
   |false=>
    rw[hn]at hc;simp only[kF,if_true]at hc⊢
    exact⟨by simp,by simp[ja,hi,cut,bP hi,hc]⟩
   |true=>
    rw[hn]at hc;simp only[lB]at hc⊢
    exact⟨_,by simp[ja,hi,a,cut,bP hi,hc];rfl,by simp[aA,aB]⟩)
  l.length () 0 ⟨[(0,.d (is l)),(1,.fn 230 []),(7,aa l.length),(8,aa 0)],[]⟩ (by omega) (by simp[aA,aB])
 rw[cT]at h;simp only[OV]at h;simp[lE];rw[h];cases hq:aR (kt l) l.length 0<;>simp[bC]
theorem qob(l:ax)(a:l.length<=1099511627776):ak XV 45 [.d (is l),.fn 230 []] []=some (au (!(aR (kt l) l.length 0).isNone),[]):=by
 rw[aL 45 oR rfl];have h:=Wj l a;cases hq:aR (kt l) l.length 0 with
 |none=>rw[hq]at h;simp[oR,h,bC]
 |some j=>rw[hq]at h;simp[oR,h,bC]
theorem KN(l:ax)(b:l.length<=1099511627776):ak XV 222 [.d (is l)] []=some (au (b8 l),[]):=by
 rw[aL 222 wM rfl];have a:=oV (l.length:Int) 1 5;have c:=qob l b;unfold b8;cases hq:b0 (l.length:Int) 1 5 with
 |false=>rw[hq]at a;simp[wM,a]
 |true=>rw[hq]at a;simp[wM,a,c]
theorem JA(l:ax)(e:l.length<=1099511627776):ak XV 217 [.d (is l)] []=some (au (b8 l),[]):=by
 rw[aL 217 DO rfl];have h:=bE (X:=XV) (T:=XV.lin 217) (L:=0) (live:=[0,3]) (b:=uU) (n:=l.length) (γ:=Nat) (st:=fun(_:Unit) i=>⟨[(0,.d (is l)),(3,aa i)],[]⟩) (step:=bG (kt l))
  (F:=fun _=>(.exit 0,⟨[(0,.d (is l)),(3,aa l.length),(7,au false)],[]⟩)) (R:=fun(j:Nat)=>(.ret,⟨[(2,au false)],[]⟩))
  (fun _=>⟨by simp,by simp[uU]⟩)
  (fun _ i hi=>by
   have c:=aV (n:=i) (by omega);have hc:=mi (aE l i) 1 4;unfold bG kt;cases hn:b0 (aE l i) 1 4 with
   |false=>rw[hn]at hc;simp only[kF,if_true];exact⟨by simp,by simp[uU,hi,cut,bP hi,hc]⟩
   |true=>rw[hn]at hc;simp only[lB];exact⟨_,by simp[uU,hi,c,cut,bP hi,hc];rfl,by simp[aA,aB]⟩)
  l.length () 0 ⟨[(0,.d (is l)),(3,aa 0)],[]⟩ (by omega) (by simp[aA,aB])
 rw[cT]at h;simp only[qUG]at h;have a:=mi (l.length:Int) 1 5;unfold b8;simp[DO];rw[h];cases hq:aR (kt l) l.length 0<;>simp[a]
def ways:Nat->Nat->List ax
 |0,_=>[[]]
 |n+1,m=>(List.range (m+1)).flatMap fun k=>(ways n (m-k)).map fun r=>(k:Int)::r
def ei(n m k:Nat):List ax:=(List.range k).flatMap fun j=>(ways n (m-j)).map fun r=>(j:Int)::r
theorem yD(n m k:Nat):ei n m (k+1)=ei n m k++(ways n (m-k)).map fun r=>(k:Int)::r:=by unfold ei;rw[List.range_succ,Fw];simp
theorem rR(L:List ax)(h g t:Tag)(r:ax)(a:(L.length+1)*24<=140737488355328):bU 1 24 (.sl U (L.map (ints h))) (.sl t [ints g r])=some (.sl U (L.map (ints h)++[ints g r])):=by
 have d:∀x:DV,x∈L.map (ints h)->x.cells.length=1:=fun x hx=>(VN h L x hx).1
 have c:(ints g r).cells=[ints g r]:=rfl;have b:(ints g r).isCell=true:=rfl;simp only[bU,fW,List.all_nil,c,b,cV,cY,kq];simp[a]
theorem Kx(k:Int)(r:ax)(g:Tag)(c:r.length<=1099511627776):bU 1 8 (.sl U [.int .i64 k]) (.sl g (r.map (.int .i64)))=some (.sl U ((k::r).map (.int .i64))):=by
 have h:(1+r.length)*8<=140737488355328:=by omega
 simp only[bU,cV,cY,kq];cases r with
 |nil=>simp
 |cons a b=>simp[si,aY];simp at h;omega
theorem kG:∀n m,n<=5->m<=4->(ways n m).length<=126:=by
 have:∀n,n<6->∀m,m<5->(ways n m).length<=126:=by decide+kernel
 intro n m a b;exact this n (by omega) m (by omega)
theorem mD:∀(n m:Nat) (r:ax),r∈ways n m->r.length=n
 |0,m,r,h=>by simp[ways]at h;subst h;rfl
 |n+1,m,r,h=>by simp only[ways,tX,cE]at h;obtain⟨k,_,a,h',rfl⟩:=h;simp[mD n _ a h']
theorem LK(n m k:Nat)(b:n<=4)(c:m<=4)(d:k<=m+1):(ei n m k).length<=126*k:=by
 induction k with
 |zero=>simp[ei]
 |succ k a=>rw[yD,cD,cV];have:=a (by omega);have:=kG n (m-k) (by omega) (by omega);omega
def tC(k:Int)(rows:List ax)(acc:List ax)(i:Nat):List ax⊕Unit:= .inl (acc++[k::aP rows i])
theorem Ib(k:Int)(rows:List ax):∀(j:Nat) (acc:List ax),j<=rows.length->runN (tC k rows) j acc (rows.length-j)= .inl (acc++(rows.drop (rows.length-j)).map fun r=>k::r)
 |0,acc,_=>by simp[runN]
 |j+1,acc,h=>by
  simp only[runN,tC];have hi:rows.length-(j+1)<rows.length:=by omega
  rw[show rows.length-(j+1)+1=rows.length-j by omega,Ib k rows j _ (by omega),dV hi,cP hi];rw[show rows.length-(j+1)+1=rows.length-j by omega];simp
def tD(n m:Nat)(acc:List ax)(k:Nat):List ax⊕Unit:= .inl (acc++(ways n (m-k)).map fun r=>(k:Int)::r)
theorem FB(n m:Nat):∀(j k:Nat),runN (tD n m) j (ei n m k) k= .inl (ei n m (k+j))
 |0,k=>rfl
 |j+1,k=>by
  simp only[runN,tD];rw[<-yD,FB n m j (k+1)]
  congr 2;omega
theorem qEP(n m k:Nat)(rows acc:List ax)(q:rows.length<=1000)(o:acc.length<=1000000)(c:∀i,i<rows.length->(aP rows i).length<=1000):
 bo XV (XV.lin 224) 0 [0,1,5,6,24,25,26] vT ⟨[(0,aa n),(1,aa m),(5,.d (aG U acc)),(6,aa k),(24,.d (aG .sub rows)),(25,aa rows.length),(26,aa 0)],[]⟩=
  some (.exit 2,⟨[(0,aa n),(1,aa m),(5,.d (aG U (acc++rows.map fun r=>(k:Int)::r))),(6,aa k),(24,.d (aG .sub rows)),(25,aa rows.length),(26,aa rows.length),(27,au false)],[]⟩):=by
 have h:=eu (X:=XV) (T:=XV.lin 224) (L:=0) (live:=[0,1,5,6,24,25,26]) (b:=vT) (n:=rows.length) (γ:=Unit) (st:=fun(A:List ax) i=>⟨[(0,aa n),(1,aa m),(5,.d (aG U A)),(6,aa k),(24,.d (aG .sub rows)),(25,aa rows.length),(26,aa i)],[]⟩) (step:=tC k rows)
  (F:=fun A=>(.exit 2,⟨[(0,aa n),(1,aa m),(5,.d (aG U A)),(6,aa k),(24,.d (aG .sub rows)),(25,aa rows.length),(26,aa rows.length),(27,au false)],[]⟩)) (R:=fun _=>(.ret,⟨[],[]⟩))
  (fun A i=>A.length<=1000000+i)
  (fun A _=>⟨by simp,by simp[vT]⟩)
  (fun A i hi e=>by
   have l:=aV (n:=i) (by omega);have g:=Kx k (aP rows i) .sub (by have:=c i hi;omega);have j:bU 1 24 (aG U A) (.sl U [.sl U (.int .i64 (k:Int)::(aP rows i).map (.int .i64))])=some (aG U (A++[(k:Int)::aP rows i])):=by have:=rR A U U U ((k:Int)::aP rows i) (by omega);rw[show aG U (A++[(k:Int)::aP rows i])= .sl U (A.map (ints U)++[ints U ((k:Int)::aP rows i)])by simp[aG]];exact this
   refine⟨⟨_,by simp[vT,hi,l,cut,cP hi,g,j];rfl,by simp[aA,aB]⟩,fun a' h=>by simp[tC]at h;subst h;simp;omega⟩)
  rows.length acc 0 ⟨[(0,aa n),(1,aa m),(5,.d (aG U acc)),(6,aa k),(24,.d (aG .sub rows)),(25,aa rows.length),(26,aa 0)],[]⟩ (by omega) (by omega) (by simp[aA,aB])
 have a:=Ib k rows rows.length acc (bN _);rw[m_]at a;rw[a]at h;simpa using h
end Go.Proofs.YtpcoohnjllclnaaGreat.VS
