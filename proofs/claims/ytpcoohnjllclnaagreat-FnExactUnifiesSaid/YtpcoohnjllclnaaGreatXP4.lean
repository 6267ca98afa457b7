/- Contracts of the program's functions on the evaluator without names, and plain lemmas: part 4. -/
import Derived.Test.YtpcoohnjllclnaaGreatXP3
set_option linter.unusedSimpArgs false
set_option linter.unusedVariables false
namespace Go.Proofs.YtpcoohnjllclnaaGreat.VS
theorem XG(u:aF)(n:Int)(M:Nat)(a:∀i,i<u.length->(aQ u i).t.inner<=M):(cH u n).inner<=M:=by
 unfold cH;split
 ·rename_i i h
  unfold cp at h;exact a i (by have:=(dy _ _ _ _ h).2.1;omega)
 ·simp[T.inner,T.inners]
mutual
theorem IW(u:aF)(M:Nat)(a:∀i,i<u.length->(aQ u i).t.inner<=M):∀t:T,(bN u t).inner+1<=(t.inner+1)*(M+1)
 | .node f v ks=>by
  have h:=L8 u M a ks;simp only[bN];split
  ·have:=XG u v M a
   have b:(M+1)<=((T.node f v ks).inner+1)*(M+1):=Nat.le_mul_of_pos_left _ (by omega);omega
  ·rw[T.qa1,T.qa1,kP]
   omega
theorem L8(u:aF)(M:Nat)(a:∀i,i<u.length->(aQ u i).t.inner<=M):∀l:ah,bJ (cb u l)<=bJ l*(M+1)
 | []=>by simp[cb,bJ,T.inners]
 |t::r=>by
  have b:=IW u M a t;have c:=L8 u M a r;simp only[cb,jh,kP]at*
  omega
end
theorem qJW(u:aF)(y:u.length<=1099511627776)(C:∀i,i<u.length->(aQ u i).t.inner<=1099511627776)(f v:Int)(ks:ah)(I:ks.length<=1099511627776)
 (hc:∀t,t∈ks->aj XV 168 [.d (binds .sub u),.d (t.enc .sub)] []=some (.d ((bN u t).enc U),[])):
 aj XV 168 [.d (binds .sub u),.d ((T.node f v ks).enc .sub)] []=some (.d ((bN u (.node f v ks)).enc U),[]):=by
 rw[aK 168 tq rfl];have h:=iN (T.node f v ks)
 by_cases g:f= -1/\ks.length=0
 ·obtain⟨rfl,G⟩:=g
  have r:ks=[]:=gS.1 G;subst r;have D:=qxp u v y C;simp only[bN,lE,xY,if_true];generalize cH u v=a at*
  simp[tq,h,D,splice,aY,a6,bb,ba,aW]
 ·have w:((f== -1)&&((ks.length:Int)==0))=false:=by
   rw[NS]
   by_cases x:f= -1
   ·right;exact dV (by omega)
   ·left;exact dV x
  simp only[bN,aC g];have l:∀i,i<ks.length->bU 3 40 (.sl U ((cb u (ks.take i)).map (T.enc U))) (.sl U [(bN u (ai ks i)).enc U])=some (.sl U ((cb u (ks.take (i+1))).map (T.enc U))):=fun i hi=>by have:=rC (cb u (ks.take i)) [bN u (ai ks i)] U (by rw[iW];simp;omega);rw[tu ks i hi,iW u (_++_),cL,<-iW];exact this
  have c:=bG (X:=XV) (T:=XV.lin 168) (L:=2) (live:=[0,3,4,5,22,23,24]) (b:=yS) (n:=ks.length) (γ:=Unit) (st:=fun(_:Unit) i=>⟨[(0,.d (binds .sub u)),(3,.ptr 0 0),(4,.ptr 1 0),(5,.d (.sl U ((cb u (ks.take i)).map (T.enc U)))),(22,.d (ao .sub ks)),(23,aa ks.length),(24,aa i)],nB f v ks⟩) (step:=fun _ _=> .inl ())
   (F:=fun _=>(.exit 0,⟨[(0,.d (binds .sub u)),(3,.ptr 0 0),(4,.ptr 1 0),(5,.d (.sl U ((cb u (ks.take ks.length)).map (T.enc U)))),(22,.d (ao .sub ks)),(23,aa ks.length),(24,aa ks.length),(25,au false)],nB f v ks⟩)) (R:=fun _=>(.ret,⟨[],[]⟩))
   (fun _=>⟨by simp,by simp[yS]⟩)
   (fun _ i hi=>by
    have z:=aV (n:=i) (by omega);have q:=hc _ (bM hi);have m:=l i hi;generalize o:(cb u (ks.take (i+1))).map (T.enc U)=l2 at m;generalize (cb u (ks.take i)).map (T.enc U)=l1 at m⊢
    generalize bN u (ai ks i)=a at*
    exact⟨⟨[(0,.d (binds .sub u)),(3,.ptr 0 0),(4,.ptr 1 0),(5,.d (.sl U l2)),(22,.d (ao .sub ks)),(23,aa ks.length),(24,aa (i+1:Nat))],nB f v ks++[some [aa (ai ks i).f,aa (ai ks i).v,.d (ao .sub (ai ks i).kids)]]⟩,by simp[yS,nB,hi,z,cut,aZ hi,q,m,splice,aY,a6,bb,ba,aW],
     im (e:=[some [aa (ai ks i).f,aa (ai ks i).v,.d (ao .sub (ai ks i).kids)]]) (by simp[<-o]) (by simp[aB]) (by simp[nB]) rfl⟩)
   ks.length () 0 ⟨[(0,.d (binds .sub u)),(3,.ptr 0 0),(4,.ptr 1 0),(5,.d (.sl U [])),(22,.d (ao .sub ks)),(23,aa ks.length),(24,aa 0)],nB f v ks⟩ (by omega) (im (e:=[]) (by simp[cb]) (by simp[aB]) (by simp[nB]) (by simp))
  rw[dB,jY]at c;simp only[Vh,nB]at c;have j:(T.node f v (cb u ks)).enc U= .agg [.int .i64 f,.int .i64 v,.sl U ((cb u ks).map (T.enc U))]:=by rw[T.qb8];rfl
  rw[j];generalize (cb u ks).map (T.enc U)=R at*
  simp only[T.qaP]at h;cases hf:(f== -1)with
  |false=>rw[hf]at h;simp[tq,h,aY,a6,bb,ba,aW];rw[c];simp[splice,aY,a6,bb,ba,aW]
  |true=>
   rw[hf]at h w;simp only[eE]at w;generalize H:(ks.length:Int)=n at*
   simp[tq,h,w,H,aY,a6,bb,ba,aW];rw[c];simp[splice,aY,a6,bb,ba,aW]
theorem Mv(u:aF)(b:u.length<=1099511627776)(c:∀i,i<u.length->(aQ u i).t.inner<=1099511627776)(t:T)(a:t.inner<=1099511627776):aj XV 168 [.d (binds .sub u),.d (t.enc .sub)] []=some (.d ((bN u t).enc U),[]):=by
 match t,a with
 | .node f v ks,a=>rw[T.qa1]at a;exact qJW u b c f v ks (by have:=g8 ks;omega) fun x hx=>Mv u b c x (by have:=eS hx;omega)
termination_by t
decreasing_by
 simp_wf
 have:=ed hx;omega
theorem TX(u:aF)(x:u.length<=1099511627776)(z:∀i,i<u.length->(aQ u i).t.inner<=1099511627776)(f v:Int)(ks:ah)(H:ks.length<=1099511627776)
 (hc:∀t,t∈ks->aj XV 152 [.d (binds .sub u),.d (t.enc .sub)] []=some (.d ((bN u t).enc U),[])):
 aj XV 152 [.d (binds .sub u),.d ((T.node f v ks).enc .sub)] []=some (.d ((bN u (.node f v ks)).enc U),[]):=by
 rw[aK 152 rz rfl]
 by_cases g:f= -1/\ks.length=0
 ·obtain⟨rfl,D⟩:=g
  have q:ks=[]:=gS.1 D;subst q;have C:=qvX u v x z;simp only[bN,lE,xY,if_true];generalize cH u v=a at*
  simp[rz,C,splice,aY,a6,bb,ba,aW]
 ·have r:((f== -1)&&((ks.length:Int)==0))=false:=by
   rw[NS]
   by_cases w:f= -1
   ·right;exact dV (by omega)
   ·left;exact dV w
  simp only[bN,aC g];have j:∀i,i<ks.length->bU 3 40 (.sl U ((cb u (ks.take i)).map (T.enc U))) (.sl U [(bN u (ai ks i)).enc U])=some (.sl U ((cb u (ks.take (i+1))).map (T.enc U))):=fun i hi=>by have:=rC (cb u (ks.take i)) [bN u (ai ks i)] U (by rw[iW];simp;omega);rw[tu ks i hi,iW u (_++_),cL,<-iW];exact this
  have c:=bG (X:=XV) (T:=XV.lin 152) (L:=3) (live:=[0,3,4,5,6]) (b:=Bm) (n:=ks.length) (γ:=Unit) (st:=fun(_:Unit) i=>⟨[(0,.d (binds .sub u)),(3,.ptr 0 0),(4,.ptr 1 0),(5,.ptr 2 0),(6,aa i)],dk f v ks ((cb u (ks.take i)).map (T.enc U))⟩) (step:=fun _ _=> .inl ())
   (F:=fun _=>(.exit 0,⟨[(0,.d (binds .sub u)),(3,.ptr 0 0),(4,.ptr 1 0),(5,.ptr 2 0),(6,aa ks.length),(29,au false)],dk f v ks ((cb u (ks.take ks.length)).map (T.enc U))⟩)) (R:=fun _=>(.ret,⟨[],[]⟩))
   (fun _=>⟨by simp,by simp[Bm,dk,aW]⟩)
   (fun _ i hi=>by
    have y:=aV (n:=i) (by omega);have o:=hc _ (bM hi);have l:=j i hi;generalize m:(cb u (ks.take (i+1))).map (T.enc U)=l2 at l;generalize (cb u (ks.take i)).map (T.enc U)=l1 at l⊢
    generalize bN u (ai ks i)=a at*
    exact⟨⟨[(0,.d (binds .sub u)),(3,.ptr 0 0),(4,.ptr 1 0),(5,.ptr 2 0),(6,aa (i+1:Nat))],dk f v ks l2⟩,by simp[Bm,q25,dk,hi,y,cut,aZ hi,o,l,splice,AV.qay,aY,a6,bb,ba,aW],
     im (e:=[]) (by simp) (by simp[aB]) (by simp[dk]) (by simp[<-m])⟩)
   ks.length () 0 ⟨[(0,.d (binds .sub u)),(3,.ptr 0 0),(4,.ptr 1 0),(5,.ptr 2 0),(6,aa 0)],dk f v ks []⟩ (by omega) (im (e:=[]) (by simp) (by simp[aB]) (by simp[dk]) (by simp[cb]))
  rw[dB,jY]at c;simp only[UK,dk]at c;have h:(T.node f v (cb u ks)).enc U= .agg [.int .i64 f,.int .i64 v,.sl U ((cb u ks).map (T.enc U))]:=by rw[T.qb8];rfl
  rw[h];generalize (cb u ks).map (T.enc U)=R at*
  cases hf:(f== -1)with
  |false=>simp[rz,hf,splice,aY,a6,bb,ba,aW];rw[c];simp[splice,aY,a6,bb,ba,aW,AV.qay]
  |true=>
   rw[hf]at r;simp only[eE]at r;generalize G:(ks.length:Int)=n at*
   simp[rz,hf,r,G,splice,aY,a6,bb,ba,aW];rw[c];simp[splice,aY,a6,bb,ba,aW,AV.qay]
theorem NN(u:aF)(b:u.length<=1099511627776)(c:∀i,i<u.length->(aQ u i).t.inner<=1099511627776)(t:T)(a:t.inner<=1099511627776):aj XV 152 [.d (binds .sub u),.d (t.enc .sub)] []=some (.d ((bN u t).enc U),[]):=by
 match t,a with
 | .node f v ks,a=>rw[T.qa1]at a;exact TX u b c f v ks (by have:=g8 ks;omega) fun x hx=>NN u b c x (by have:=eS hx;omega)
termination_by t
decreasing_by
 simp_wf
 have:=ed hx;omega
def aT(l:aD)(u:aF)(t:T):T:=(bN u t).norm l
theorem SY(l:aD)(u:aF)(t:T):(aT l u t).inner<=(bN u t).inner:=qj l _
theorem Fe(l:aD)(e:l.length<=1099511627776)(u:aF)(t:T)(b:u.length<=1099511627776)(n:∀i,i<u.length->(aQ u i).t.inner<=1099511627776)(h:t.inner<=1099511627776)(g:(bN u t).inner<=1099511627776):
 aj XV 135 [.d (sg l),.d (binds .sub u),.d (t.enc .sub)] []=some (.d ((aT l u t).enc U),[]):=by
 have j:=Mv u b n t h;have m:=DU l e (bN u t) g;unfold aT;generalize bN u t=a at*
 generalize a.norm l=c at*
 rw[aK 135 Da rfl];simp[Da,j,m,splice,aY,a6,bb,ba,aW]
theorem Hu(l:aD)(e:l.length<=1099511627776)(u:aF)(t:T)(c:u.length<=1099511627776)(m:∀i,i<u.length->(aQ u i).t.inner<=1099511627776)(h:t.inner<=1099511627776)(g:(bN u t).inner<=1099511627776):
 ∃d,aj XV 141 [.d (sg l),.d (binds .sub u),.d (t.enc .sub)] []=some (.d d,[])/\IsV d (aT l u t):=by
 have j:=NN u c m t h;have b:=CG l e (bN u t) g;refine⟨nM l (bN u t),?_,AJ l _⟩;rw[nZ]at b⊢
 generalize bN u t=a at*
 generalize jl l a=X at*
 rw[aK 141 BJ rfl];simp[BJ,j,b,splice,aY,a6,bb,ba,aW]
def dl(u:aF)(v:Int):bi:=aR (fun i=>decide (v<=(aQ u i).v)) u.length 0
def jQ(u:aF)(v:Int)(i:Nat):Bool:=decide (dl u v=some i)
def gT(u:aF)(v:Int)(i:Nat):Bool:=match dl u v with
 |some j=>decide (j<i)
 |none=>false
theorem PZ(u:aF)(v:Int)(i:Nat)(hi:i<u.length):jQ u v i=(!gT u v i&&decide (v<=(aQ u i).v)):=by
 have h:=y9 (fun i=>decide (v<=(aQ u i).v)) u.length 0;unfold jQ gT dl;cases hq:aR (fun i=>decide (v<=(aQ u i).v)) u.length 0 with
 |none=>have:=h.2 hq i (by omega) (by omega);simp[this]
 |some j=>
  have b:=(dy _ _ _ _ hq)
  by_cases e:j=i
  ·subst e
   have:=b.2.2;simp[this]
  ·rcases lP j i with a|a
   ·simp[e,a]
   ·have:=h.1 j hq i (by omega) (by omega)
    simp[e,this]
theorem RD(u:aF)(v:Int):gT u v 0=false:=by unfold gT;split<;>simp
theorem qKW(u:aF)(v:Int)(i:Nat):gT u v (i+1)=(gT u v i||jQ u v i):=by
 unfold gT jQ;cases dl u v with
 |none=>simp
 |some j=>simp only[ca,Bool.or_eq_decide];rw[pY];simp;omega
theorem qO8(u:aF)(v:Int):gT u v u.length=(dl u v).isSome:=by
 unfold gT;cases hq:dl u v with
 |none=>rfl
 |some j=>have:=(dy _ _ _ _ hq).2.1;simp;omega
theorem Tw(u:aF)(v:Int)(i:Nat):((i:Int)==bC (dl u v))=jQ u v i:=by
 unfold jQ;cases dl u v with
 |none=>simp only[bC];rw[dV (by omega)];simp
 |some j=>
  simp only[bC]
  by_cases h:i=j
  ·subst h;simp
  ·rw[dV (by omega)]
   symm;simp;omega
theorem qII(u:aF)(v:Int):decide (bC (dl u v)<0)= !(dl u v).isSome:=by
 cases dl u v with
 |none=>rfl
 |some j=>
  have:¬((j:Int)<0):=by omega
  simp[bC,this]
def ka(l:aD)(u:aF)(v:Int)(t:T)(i:Nat):aF:=(if jQ u v i=true then [⟨v,t⟩]else [])++(if((aQ u i).v==v)=true then []else [⟨(aQ u i).v,aT l [⟨v,t⟩] (aQ u i).t⟩])
def cM(l:aD)(u:aF)(v:Int)(t:T):Nat->aF
 |0=>[]
 |i+1=>cM l u v t i++ka l u v t i
def bB(l:aD)(u:aF)(v:Int)(t:T):aF:=cM l u v t u.length++(if(dl u v).isSome=true then []else [⟨v,t⟩])
theorem qOb(l:aD)(u:aF)(v:Int)(t:T)(i:Nat):(ka l u v t i).length<=2:=by unfold ka;split<;>split<;>simp
theorem t5(l:aD)(u:aF)(v:Int)(t:T):∀i,(cM l u v t i).length<=2*i
 |0=>by simp[cM]
 |i+1=>by have a:=t5 l u v t i;have b:=qOb l u v t i;simp only[cM,cG];omega
theorem Gf(a:aF)(x:Bd)(h:(a.length+1)*48<=140737488355328):bU 4 48 (.sl U (a.map (Bd.enc U))) (.sl U [x.enc U])=some (.sl U ((a++[x]).map (Bd.enc U))):=by unfold bU;simp only;rw[ay (by simp[aY,a6])];simp only[ge,bg,if_false];rw[ay ⟨by simpa using h,trivial,by simp⟩];simp
theorem yP(a:aF)(v:Int)(t:T)(h:(a.length+1)*48<=140737488355328):bU 4 48 (.sl U (a.map (Bd.enc U))) (.sl U [.agg [.int .i64 v,.int .i64 t.f,.int .i64 t.v,ao U t.kids]])=some (.sl U ((a++[(⟨v,t⟩:Bd)]).map (Bd.enc U))):=Gf a ⟨v,t⟩ h
theorem SG(b:Bd)(v:Int)(a:Option aG):aj XV 167 [.d (b.enc .sub),.ptr 0 0] [some [aa v],a]=some (au (decide (v<=b.v)),[some [aa v],a]):=by rw[aK 167 yM rfl];simp[yM,aY,a6,bb,ba,aW]
def vB(v:Int)(t:T):az:=[some [aa v],some [aa t.f,aa t.v,.d (ao .sub t.kids)]]
theorem Tj(l:aD)(u:aF)(v k:Int)(t:T)(O:DV)(r:O.clr=O)(acc:aF)(w:acc.length+2<=2199023255560)(i:Nat)(hi:i<u.length)(z:u.length<=1099511627776)(g:((i:Int)==k)=jQ u v i)
 (j:aj XV 150 [.d (t.enc .sub)] []=some (.d (t.enc U),[])) (h:aj XV 135 [.d (sg l),.d O,.d ((aQ u i).t.enc .sub)] []=some (.d ((aT l [⟨v,t⟩] (aQ u i).t).enc U),[])):
 ∃e:az,aS XV (XV.lin 137) pu ⟨[(0,.d (sg l)),(6,.ptr 0 0),(7,.ptr 1 0),(9,.d O),(10,.d (.sl U (acc.map (Bd.enc U)))),(11,aa k),(22,.d (binds .sub u)),(23,aa u.length),(24,aa i)],vB v t⟩=
  some (.normal,⟨[(0,.d (sg l)),(6,.ptr 0 0),(7,.ptr 1 0),(9,.d O),(10,.d (.sl U ((acc++ka l u v t i).map (Bd.enc U)))),(11,aa k),(22,.d (binds .sub u)),(23,aa u.length),(24,aa (i+1:Nat))],vB v t++e⟩):=by
 have m:=aV (n:=i) (by omega);have o:=df hi;refine⟨[some (MN (aQ u i))],?_⟩;unfold ka vB MN;generalize aT l [⟨v,t⟩] (aQ u i).t=a at*
 generalize C:aQ u i=b at*
 have q:=yP acc v t (by omega);have x:=yP (acc++[⟨v,t⟩]) b.v a (by simp;omega);have y:=yP acc b.v a (by omega);have D:∀a:aF,(a.map (Bd.enc U)).map DV.clr=a.map (Bd.enc .sub):=fun a=>by simp
 cases h1:jQ u v i<;>cases h2:(b.v==v)
 ·have c:(b.v !=v)=true:=by simp[bne,h2]
  rw[h1]at g;simp only[bg,if_false,co];generalize (acc++[(⟨b.v,a⟩:Bd)]).map (Bd.enc U)=R3 at*
  generalize acc.map (Bd.enc U)=R1 at*
  simp[pu,NL,hi,m,cut,o,g,c,h,r,y,splice,aY,a6,bb,ba,aW]
 ·have c:(b.v !=v)=false:=by simp[bne,h2]
  rw[h1]at g;simp only[bg,if_false,if_true,cS];generalize acc.map (Bd.enc U)=R1 at*
  simp[pu,hi,m,cut,o,g,c,splice,aY,a6,bb,ba,aW]
 ·have c:(b.v !=v)=true:=by simp[bne,h2]
  rw[h1]at g;simp only[bg,if_false,if_true,bX]at q x⊢
  generalize (acc++([(⟨v,t⟩:Bd)]++[(⟨b.v,a⟩:Bd)])).map (Bd.enc U)=R3 at*
  generalize (acc++[(⟨v,t⟩:Bd)]).map (Bd.enc U)=R2 at*
  generalize acc.map (Bd.enc U)=R1 at*
  simp[pu,O5,NL,hi,m,cut,o,g,c,h,j,r,q,x,splice,aY,a6,bb,ba,aW]
 ·have c:(b.v !=v)=false:=by simp[bne,h2]
  rw[h1]at g;simp only[if_true,cS];generalize (acc++[(⟨v,t⟩:Bd)]).map (Bd.enc U)=R2 at*
  generalize acc.map (Bd.enc U)=R1 at*
  simp[pu,O5,hi,m,cut,o,g,c,j,q,splice,aY,a6,bb,ba,aW]
theorem LF(l:aD)(K:l.length<=1099511627776)(u:aF)(v:Int)(t:T)(M:u.length<=1048577)(y:∀i,i<u.length->(aQ u i).t.inner<=1099511627776)(z:t.inner<=1099511627776)(F:∀i,i<u.length->(bN [⟨v,t⟩] (aQ u i).t).inner<=1099511627776):
 aj XV 137 [.d (sg l),.d (binds .sub u),aa v,.d (t.enc .sub)] []=some (.d (binds U (bB l u v t)),[]):=by
 have m:=xB t z;have c:=Ln u 167 [.ptr 0 0] (vB v t) (fun b=>decide (v<=b.v)) (by omega) (by simp[De,eP,vB]) (by simp) (by simp) (fun b y=>SG b v _);have n:∀i,i<u.length->aj XV 135 [.d (sg l),.d (binds .sub [(⟨v,t⟩:Bd)]),.d ((aQ u i).t.enc .sub)] []=some (.d ((aT l [⟨v,t⟩] (aQ u i).t).enc U),[]):=fun i hi=>Fe l K [⟨v,t⟩] (aQ u i).t (by simp) (fun j C=>by simp at C;subst C;exact z) (y i hi) (F i hi)
 have H:(binds .sub [(⟨v,t⟩:Bd)]).clr=binds .sub [(⟨v,t⟩:Bd)]:=by simp
 have r:binds .sub [(⟨v,t⟩:Bd)]= .sl .sub [.agg [.int .i64 v,.int .i64 t.f,.int .i64 t.v,ao .sub t.kids]]:=rfl;have head:∀(x:Int) (R:DV) (O:DV) (e:az),aA 2 [0,6,7,9,10,11,22,23,24] ⟨[(0,.d (sg l)),(6,.ptr 0 0),(7,.ptr 1 0),(9,.d O),(10,.d R),(11,aa (bC (dl u v))),(22,.d (binds .sub u)),(23,aa u.length),(24,aa x)],vB v t++e⟩=some ⟨[(0,.d (sg l)),(6,.ptr 0 0),(7,.ptr 1 0),(9,.d O),(10,.d R),(11,aa (bC (dl u v))),(22,.d (binds .sub u)),(23,aa u.length),(24,aa x)],vB v t⟩:=fun x R O e=>im (by simp) (by simp[aB]) (by simp[vB]) rfl
 have g:∀(k i:Nat),i+k=u.length->∀e:az,bq XV (XV.lin 137) 2 [0,6,7,9,10,11,22,23,24] pu ⟨[(0,.d (sg l)),(6,.ptr 0 0),(7,.ptr 1 0),(9,.d (binds .sub [(⟨v,t⟩:Bd)])),(10,.d (.sl U ((cM l u v t i).map (Bd.enc U)))),(11,aa (bC (dl u v))),(22,.d (binds .sub u)),(23,aa u.length),(24,aa i)],vB v t++e⟩=
  some (.exit 0,⟨[(0,.d (sg l)),(6,.ptr 0 0),(7,.ptr 1 0),(9,.d (binds .sub [(⟨v,t⟩:Bd)])),(10,.d (.sl U ((cM l u v t u.length).map (Bd.enc U)))),(11,aa (bC (dl u v))),(22,.d (binds .sub u)),(23,aa u.length),(24,aa u.length),(25,au false)],vB v t⟩):=by
  intro k
  induction k with
  |zero=>
   intro i hi e;have:i=u.length:=by omega
   subst this;refine dX (head _ _ _ e) ?_ (by simp);generalize (cM l u v t u.length).map (Bd.enc U)=R;simp[pu,vB]
  |succ k J=>
   intro i hi e;have h:i<u.length:=by omega
   have w:=t5 l u v t i;obtain⟨I,D⟩:=Tj l u v (bC (dl u v)) t (binds .sub [(⟨v,t⟩:Bd)]) H (cM l u v t i) (by omega) i h (by omega) (Tw u v i) m (n i h);rw[<-J (i+1) (by omega) I];exact d_ (head _ _ _ e) D
 have q:=g u.length 0 (by omega) [];have w:=t5 l u v t u.length;have a:=qII u v;have G:=yP (cM l u v t u.length) v t (by omega);have o:bC (aR (fun i=>decide (v<=(aQ u i).v)) u.length 0)=bC (dl u v):=rfl;rw[aK 137 wb rfl];unfold bB;rw[o]at c;generalize bC (dl u v)=k at*
 simp only[cM,bT,cS,qVc,nv,vB]at q c;rw[r]at q;cases hsome:(dl u v).isSome with
 |true=>
  simp only[if_true,cS,binds];generalize (cM l u v t u.length).map (Bd.enc U)=R at*
  rw[hsome]at a;simp only[GK,lR]at a;simp[wb,c,splice,aY,a6,bb,ba,aW];rw[q];simp[a]
 |false=>
  simp only[bg,if_false,binds];generalize (cM l u v t u.length++[(⟨v,t⟩:Bd)]).map (Bd.enc U)=R2 at*
  generalize (cM l u v t u.length).map (Bd.enc U)=R at*
  rw[hsome]at a;simp only[cB,kX]at a;simp[wb,c,splice,aY,a6,bb,ba,aW];rw[q];simp[Wd,a,m,G,splice,aY,a6,aW]
theorem RQ{d:DV}{b:Bd}(h:d.clr=b.enc .sub):d.cells.length=4:=by
 cases d with
 |agg cs=>simp only[DV.clr,Bd.enc,DV.agg.injEq]at h;have:=Eg List.length h;rw[DV.qay,cT]at this;simpa[DV.cells]using this
 |_=>unfold DV.clr Bd.enc at h;cases h
theorem yF(R:aw)(acc:aF)(i:R.map DV.clr=acc.map (Bd.enc .sub))(v f w:Int)(g:Tag)(X:aw)(h:(acc.length+1)*48<=140737488355328):
 bU 4 48 (.sl U R) (.sl U [.agg [.int .i64 v,.int .i64 f,.int .i64 w,.sl g X]])=some (.sl U (R++[DV.agg [.int .i64 v,.int .i64 f,.int .i64 w,.sl g X]])):=by
 have a:R.length=acc.length:=by have:=Eg List.length i;simpa using this
 have c:R.all (fun e=>decide (e.cells.length=4))=true:=by
  rw[cm];intro d l;have:d.clr∈acc.map (Bd.enc .sub):=by rw[<-i];exact List.mem_map_of_mem l
  obtain⟨b,_,j⟩:=cC.1 this;simp[RQ j.symm]
 unfold bU;simp only;rw[ay (by simp[DV.cells,aY,a6])];simp only[ge,bg,if_false];rw[ay ⟨by simp[a];omega,trivial,c⟩]
theorem SV(l:aD)(u:aF)(v:Int)(t:T)(O:DV)(C:O.clr=O)(acc:aF)(R:aw)(m:R.map DV.clr=acc.map (Bd.enc .sub))(H:acc.length+2<=2199023255560)(i:Nat)(hi:i<u.length)(K:u.length<=1099511627776)
 (z:aj XV 146 [.d (t.enc .sub)] []=some (.d (t.enc U),[])) (d:DV) (j:aj XV 141 [.d (sg l),.d O,.d ((aQ u i).t.enc .sub)] []=some (.d d,[])) (J:IsV d (aT l [⟨v,t⟩] (aQ u i).t)):
 ∃I,aS XV (XV.lin 142) jy ⟨[(0,.d (sg l)),(1,.d (binds .sub u)),(2,aa v),(7,.ptr 0 0),(9,.d (.sl U R)),(10,.d O),(11,au (gT u v i)),(12,aa i)],[some [aa t.f,aa t.v,.d (ao .sub t.kids)]]⟩=
  some (.normal,⟨[(0,.d (sg l)),(1,.d (binds .sub u)),(2,aa v),(7,.ptr 0 0),(9,.d (.sl U I)),(10,.d O),(11,au (gT u v (i+1))),(12,aa (i+1:Nat))],[some [aa t.f,aa t.v,.d (ao .sub t.kids)]]⟩)/\I.map DV.clr=(acc++ka l u v t i).map (Bd.enc .sub):=by
 have o:=aV (n:=i) (by omega);have q:=df hi;have r:=PZ u v i hi;rw[qKW];unfold ka;obtain⟨g,X,rfl,y⟩:=J;generalize aT l [⟨v,t⟩] (aQ u i).t=a at*
 generalize V:aQ u i=b at*
 have F:=yF R acc m v t.f t.v U (t.kids.map (T.enc U)) (by omega);have w:(R++[DV.agg [.int .i64 v,.int .i64 t.f,.int .i64 t.v,.sl U (t.kids.map (T.enc U))]]).map DV.clr=(acc++[(⟨v,t⟩:Bd)]).map (Bd.enc .sub):=by rw[cL,cL,m];simp only[bF,bT,DV.clr,DV.clrs,Bd.enc];rw[DV.qay,mg]
 have M:=yF _ _ w b.v a.f a.v g X (by simp;omega);have D:=yF R acc m b.v a.f a.v g X (by omega);have h:∀(Y:aw) (c:aF),Y.map DV.clr=c.map (Bd.enc .sub)->(Y++[DV.agg [.int .i64 b.v,.int .i64 a.f,.int .i64 a.v,.sl g X]]).map DV.clr=(c++[(⟨b.v,a⟩:Bd)]).map (Bd.enc .sub):=fun Y c P=>by rw[cL,cL,P];simp only[bF,bT,DV.clr,DV.clrs,Bd.enc];rw[DV.qay,y]
 generalize G:R++[DV.agg [.int .i64 v,.int .i64 t.f,.int .i64 t.v,.sl U (t.kids.map (T.enc U))]]=R1 at*
 cases h0:gT u v i<;>cases h1:decide (v<=b.v)<;>cases h2:(b.v==v)
 all_goals rw[h0,h1]at r
 all_goals simp only[kX,lR,uk,wL]at r
 all_goals rw[r]
 all_goals simp only[bg,if_false,if_true,co,cS,DG,l6]
 ·have e:(b.v !=v)=true:=by simp[bne,h2]
  refine⟨_,?_,h R acc m⟩;generalize R++[DV.agg [.int .i64 b.v,.int .i64 a.f,.int .i64 a.v,.sl g X]]=R3 at*
  simp[jy,C4,hi,o,cut,q,h1,e,j,C,y,D,splice,aY,a6]
 ·have e:(b.v !=v)=false:=by simp[bne,h2]
  refine⟨R,?_,m⟩;simp[jy,hi,o,cut,q,h1,e]
 ·have e:(b.v !=v)=true:=by simp[bne,h2]
  have x:=h R1 _ w;simp only[bX]at x;refine⟨_,?_,x⟩;generalize R1++[DV.agg [.int .i64 b.v,.int .i64 a.f,.int .i64 a.v,.sl g X]]=R3 at*
  simp[jy,C4,hi,o,cut,q,h1,e,j,z,C,y,F,M,splice,aY,a6,aW]
 ·have e:(b.v !=v)=false:=by simp[bne,h2]
  refine⟨R1,?_,w⟩;simp[jy,hi,o,cut,q,h1,e,z,F,splice,aY,a6,aW]
 ·have e:(b.v !=v)=true:=by simp[bne,h2]
  refine⟨_,?_,h R acc m⟩;generalize R++[DV.agg [.int .i64 b.v,.int .i64 a.f,.int .i64 a.v,.sl g X]]=R3 at*
  simp[jy,C4,hi,o,cut,q,e,j,C,y,D,splice,aY,a6]
 ·have e:(b.v !=v)=false:=by simp[bne,h2]
  refine⟨R,?_,m⟩;simp[jy,hi,o,cut,q,e]
 ·have e:(b.v !=v)=true:=by simp[bne,h2]
  refine⟨_,?_,h R acc m⟩;generalize R++[DV.agg [.int .i64 b.v,.int .i64 a.f,.int .i64 a.v,.sl g X]]=R3 at*
  simp[jy,C4,hi,o,cut,q,e,j,C,y,D,splice,aY,a6]
 ·have e:(b.v !=v)=false:=by simp[bne,h2]
  refine⟨R,?_,m⟩;simp[jy,hi,o,cut,q,e]
theorem qqW(l:aD)(P:l.length<=1099511627776)(u:aF)(v:Int)(t:T)(Y:u.length<=1048577)(I:∀i,i<u.length->(aQ u i).t.inner<=1099511627776)(C:t.inner<=1099511627776)(H:∀i,i<u.length->(bN [⟨v,t⟩] (aQ u i).t).inner<=1099511627776):
 ∃R,aj XV 142 [.d (sg l),.d (binds .sub u),aa v,.d (t.enc .sub)] []=some (.d (.sl U R),[])/\R.map DV.clr=(bB l u v t).map (Bd.enc .sub):=by
 have g:=wJ t C;have m:∀i,i<u.length->∃d,aj XV 141 [.d (sg l),.d (binds .sub [(⟨v,t⟩:Bd)]),.d ((aQ u i).t.enc .sub)] []=some (.d d,[])/\IsV d (aT l [⟨v,t⟩] (aQ u i).t):=fun i hi=>Hu l P [⟨v,t⟩] (aQ u i).t (by simp) (fun j D=>by simp at D;subst D;exact C) (I i hi) (H i hi)
 have K:(binds .sub [(⟨v,t⟩:Bd)]).clr=binds .sub [(⟨v,t⟩:Bd)]:=by simp
 have n:binds .sub [(⟨v,t⟩:Bd)]= .sl .sub [.agg [.int .i64 v,.int .i64 t.f,.int .i64 t.v,ao .sub t.kids]]:=rfl;have head:∀(x:Int) (R O:DV) (p:Bool),aA 1 [0,1,2,7,9,10,11,12] ⟨[(0,.d (sg l)),(1,.d (binds .sub u)),(2,aa v),(7,.ptr 0 0),(9,.d R),(10,.d O),(11,au p),(12,aa x)],[some [aa t.f,aa t.v,.d (ao .sub t.kids)]]⟩=some ⟨[(0,.d (sg l)),(1,.d (binds .sub u)),(2,aa v),(7,.ptr 0 0),(9,.d R),(10,.d O),(11,au p),(12,aa x)],[some [aa t.f,aa t.v,.d (ao .sub t.kids)]]⟩:=fun x R O p=>by simp[aA,aB]
 have b:∀(k i:Nat),i+k=u.length->∀R,R.map DV.clr=(cM l u v t i).map (Bd.enc .sub)->∃h,bq XV (XV.lin 142) 1 [0,1,2,7,9,10,11,12] jy ⟨[(0,.d (sg l)),(1,.d (binds .sub u)),(2,aa v),(7,.ptr 0 0),(9,.d (.sl U R)),(10,.d (binds .sub [(⟨v,t⟩:Bd)])),(11,au (gT u v i)),(12,aa i)],[some [aa t.f,aa t.v,.d (ao .sub t.kids)]]⟩=
  some (.exit 0,⟨[(0,.d (sg l)),(1,.d (binds .sub u)),(2,aa v),(7,.ptr 0 0),(9,.d (.sl U h)),(10,.d (binds .sub [(⟨v,t⟩:Bd)])),(11,au (gT u v u.length)),(12,aa u.length),(21,au false)],[some [aa t.f,aa t.v,.d (ao .sub t.kids)]]⟩)/\h.map DV.clr=(cM l u v t u.length).map (Bd.enc .sub):=by
  intro k
  induction k with
  |zero=>
   intro i hi R c;have:i=u.length:=by omega
   subst this;refine⟨R,dX (head _ _ _ _) ?_ (by simp),c⟩;generalize gT u v u.length=p;simp[jy]
  |succ k M=>
   intro i hi R c;have e:i<u.length:=by omega
   have w:=t5 l u v t i;obtain⟨d,y,o⟩:=m i e;obtain⟨h,F,V⟩:=SV l u v t (binds .sub [(⟨v,t⟩:Bd)]) K (cM l u v t i) R c (by omega) i e (by omega) g d y o;obtain⟨G,e3,X⟩:=M (i+1) (by omega) h V;exact⟨G,by rw[<-e3];exact d_ (head _ _ _ _) F,X⟩
 obtain⟨R,a,c⟩:=b u.length 0 (by omega) [] (by simp[cM]);have w:=t5 l u v t u.length;have r:=RD u v;have q:=qO8 u v;rw[r,q]at a;have J:=yF R _ c v t.f t.v U (t.kids.map (T.enc U)) (by omega);have z:(R++[DV.agg [.int .i64 v,.int .i64 t.f,.int .i64 t.v,.sl U (t.kids.map (T.enc U))]]).map DV.clr=(cM l u v t u.length++[(⟨v,t⟩:Bd)]).map (Bd.enc .sub):=by rw[cL,cL,c];simp only[bF,bT,DV.clr,DV.clrs,Bd.enc];rw[DV.qay,mg]
 rw[aK 142 vV rfl];unfold bB;simp only[qVb,nv]at a;rw[n]at a;cases hsome:(dl u v).isSome with
 |true=>rw[hsome]at a;simp only[if_true,cS];refine⟨R,?_,c⟩;simp[vV,splice,aY,a6,bb,ba,aW];rw[a];simp
 |false=>
  rw[hsome]at a;simp only[bg,if_false];refine⟨_,?_,z⟩;generalize R++[DV.agg [.int .i64 v,.int .i64 t.f,.int .i64 t.v,.sl U (t.kids.map (T.enc U))]]=h at*
  simp[vV,splice,aY,a6,bb,ba,aW];rw[a];simp[g,J,splice,aY,a6,aW]
theorem Li(u:aF)(i:Nat)(h:i<u.length):u.take (i+1)=u.take i++[aQ u i]:=by rw[pW,fp h,df h];rfl
def tT(_:Unit)(i:Nat):Unit⊕Nat:= .inl ()
theorem Is:∀(k i:Nat),runN tT k () i= .inl ()
 |0,i=>rfl
 |k+1,i=>by simp only[runN,tT];exact Is k (i+1)
theorem qCn(u:aF)(j:small u):aj XV 266 [.d (binds .sub u)] []=some (.d (binds U u),[]):=by
 rw[aK 266 Az rfl];obtain⟨j,m⟩:=j;have h:=bG (X:=XV) (T:=XV.lin 266) (L:=0) (live:=[3,7,8,9]) (b:=BL) (n:=u.length) (γ:=Nat) (st:=fun(_:Unit) i=>⟨[(3,.d (.sl U ((u.take i).map (Bd.enc U)))),(7,.d (binds .sub u)),(8,aa u.length),(9,aa i)],[]⟩) (step:=tT)
  (F:=fun _=>(.exit 0,⟨[(3,.d (.sl U ((u.take u.length).map (Bd.enc U)))),(7,.d (binds .sub u)),(8,aa u.length),(9,aa u.length),(10,au false)],[]⟩)) (R:=fun _=>(.ret,⟨[],[]⟩))
  (fun a=>⟨by simp,by simp[BL]⟩)
  (fun a i hi=>by
   have o:=aV (n:=i) (by omega);have hc:=xB (aQ u i).t (m i hi);have l:=df hi;have c:=Gf (u.take i) (aQ u i) (by simp;omega);have g:=Li u i hi;rw[<-g]at c;generalize e:(u.take (i+1)).map (Bd.enc U)=R2 at c;generalize (u.take i).map (Bd.enc U)=R1 at*
   generalize aQ u i=b at*
   unfold tT;exact⟨_,by simp[BL,q2Y,hi,o,cut,l,hc,c,splice,aY,a6,bb,ba,aW];rfl,by simp[aA,aB,<-e]⟩)
  u.length () 0 ⟨[(3,.d (.sl U ((u.take 0).map (Bd.enc U)))),(7,.d (binds .sub u)),(8,aa u.length),(9,aa 0)],[]⟩ (by omega) (by simp[aA,aB])
 rw[Is,jY,Br]at h;simp only[TD,bT]at h;simp[Az];rw[h];simp
theorem qJk(u:aF)(j:small u):aj XV 250 [.d (binds .sub u)] []=some (.d (binds U u),[]):=by
 rw[aK 250 Dc rfl];obtain⟨j,m⟩:=j;have h:=bG (X:=XV) (T:=XV.lin 250) (L:=0) (live:=[0,3,4]) (b:=Bq) (n:=u.length) (γ:=Nat) (st:=fun(_:Unit) i=>⟨[(0,.d (binds .sub u)),(3,.d (.sl U ((u.take i).map (Bd.enc U)))),(4,aa i)],[]⟩) (step:=tT)
  (F:=fun _=>(.exit 0,⟨[(0,.d (binds .sub u)),(3,.d (.sl U ((u.take u.length).map (Bd.enc U)))),(4,aa u.length),(9,au false)],[]⟩)) (R:=fun _=>(.ret,⟨[],[]⟩))
  (fun a=>⟨by simp,by simp[Bq]⟩)
  (fun a i hi=>by
   have o:=aV (n:=i) (by omega);have hc:=wJ (aQ u i).t (m i hi);have l:=df hi;have c:=Gf (u.take i) (aQ u i) (by simp;omega);have g:=Li u i hi;rw[<-g]at c;generalize e:(u.take (i+1)).map (Bd.enc U)=R2 at c;generalize (u.take i).map (Bd.enc U)=R1 at*
   generalize aQ u i=b at*
   unfold tT;exact⟨_,by simp[Bq,Re,hi,o,cut,l,hc,c,splice,aY,a6];rfl,by simp[aA,aB,<-e]⟩)
  u.length () 0 ⟨[(0,.d (binds .sub u)),(3,.d (.sl U ((u.take 0).map (Bd.enc U)))),(4,aa 0)],[]⟩ (by omega) (by simp[aA,aB])
 rw[Is,jY,Br]at h;simp only[YD,bT]at h;simp[Dc];rw[h];simp
mutual
def JN:T->Bool
 | .node f v ks=>decide (12<ks.length)||Ks ks
def Ks:ah->Bool
 | []=>false
 |t::ts=>JN t||Ks ts
end
theorem Z2(q:Nat->Bool)(k i:Nat):(aR q k i).isSome=true↔∃j,i<=j/\j<i+k/\q j=true:=by
 constructor
 ·intro h
  obtain⟨j,d⟩:=Na.1 h;exact⟨j,dy q k i j d⟩
 ·induction k generalizing i with
  |zero=>rintro⟨j,a,e,_⟩;omega
  |succ k g=>
   rintro⟨j,a,e,b⟩
   simp only[aR];split
   ·rfl
   ·rename_i c
    refine g (i+1) ⟨j,?_,by omega,b⟩;rcases G9 a with rfl|h
    ·exact absurd b c
    ·exact h
theorem Mr(m i:Nat)(hi:i<64):d7 .shr .i64 (m:Int) (i:Int)=some (.int .i64 ((m/2^i:Nat):Int)):=by
 unfold d7;have a:¬((i:Int)<0):=by omega
 have c:IntKind.i64.bits=64:=rfl;have b:min i 64=i:=by omega
 simp only[aC a,tI,c,b,ca,DV.int.injEq,qx];rw[ND _ (by exact Int.pow_nonneg (by omega)),Int.natCast_ediv,Int.natCast_pow];rfl
theorem and_one(a:Nat)(e:a<4611686018427387904):d7 .and .i64 (a:Int) 1=some (.int .i64 ((a%2:Nat):Int)):=by
 unfold d7 bits;have b:BitVec.ofInt IntKind.i64.bits (a:Int)=BitVec.ofNat 64 a:=BitVec.ofInt_natCast 64 a;have d:BitVec.ofInt IntKind.i64.bits 1=BitVec.ofNat 64 1:=BitVec.ofInt_natCast 64 1;have c:(BitVec.ofNat 64 a&&&BitVec.ofNat 64 1).toNat=a%2:=by rw[BitVec.toNat_and,BitVec.toNat_ofNat,BitVec.toNat_ofNat,K_ (by omega),K_ (by omega),Nat.and_one_is_mod]
 simp only[b9,ca,DV.int.injEq,qx];rw[b,d];show IntKind.i64.wrap (((BitVec.ofNat 64 a&&&BitVec.ofNat 64 1).toNat:Nat):Int)=_;rw[c,IntKind.wrap_i64];omega
theorem Pq(m i:Nat):((((m/2^i%2:Nat):Int)==1)=m.testBit i):=by rw[Nat.testBit_eq_decide_div_mod_eq,pY,vG,cB];generalize m/2^i%2=r;omega
variable{β γ:Type}
theorem dW{X:XEnv}{T:ae}{L:Nat}{live:ae}{b:VCode}{n:Nat}{st:β->Nat->XS}{step:β->Nat->β⊕γ}{R:γ->Ex×XS}(id g:Nat)(Inv:β->Nat->Prop)(a:β)
 (d:∀a,Inv a n->aS X T b (st a n)=some (.exit id,⟨(st a n).r++[(g,au false)],(st a n).B⟩))
 (c:∀a i,i<n->Inv a i->Bj L live st R i (aS X T b (st a i)) (step a i)/\∀a',step a i= .inl a'->Inv a' (i+1))
 (hi:Inv a 0) (h:aA L live (st a 0)=some (st a 0)):
 bq X T L live b (st a 0)=some (match runN step n a 0 with| .inl a'=>(.exit id,⟨(st a' n).r++[(g,au false)],(st a' n).B⟩)| .inr r=>R r):=
 ey Inv (F:=fun a=>(.exit id,⟨(st a n).r++[(g,au false)],(st a n).B⟩)) (fun a e=>⟨by simp,d a e⟩) c n a 0 _ (by omega) hi h
variable{α:Type}
theorem C3(l:List α)(z:α)(g:β->α->β):∀(k i:Nat) (a:β),i+k=l.length->runN (fun a i=>(.inl (g a ((l[i]?).getD z)):β⊕γ)) k a i= .inl ((l.drop i).foldl g a)
 |0,i,a,h=>by rw[oS (by omega)];rfl
 |k+1,i,a,h=>by
  have b:i<l.length:=by omega
  rw[dS b];simp only[runN,jv,fp b,qB];exact C3 l z g k (i+1) _ (by omega)
theorem xm(l:ah)(g:β->T->β)(a:β):runN (fun a i=>(.inl (g a (ai l i)):β⊕γ)) l.length a 0= .inl (l.foldl g a):=C3 l (.node 0 0 []) g l.length 0 a (by omega)
def eF(a:ah×ah)(t:T):ah×ah:=
 match aR (dM a.2 t) a.2.length 0 with
 |some j=>(a.1,kr a.2 j)
 |none=>(a.1++[t],a.2)
def bW(x y:ah):ah×ah:=x.foldl eF ([],y)
theorem y8(a:ah)(t:T)(h:a.length<=1099511627776):bU 3 40 (.sl U (a.map (T.enc .sub))) (.sl U [t.enc .sub])=some (.sl U ((a++[t]).map (T.enc .sub))):=by have:=tm a [t] U (by simp;omega);simpa using this
theorem SI(y:ah)(t:T)(hy:y.length<=1099511627776)(a:∀x,x∈y->x.inner<=1099511627776)(b:t.inner<=1099511627776):
 aj XV 282 [.d (ao .sub y),.d (.sl .sub [t.enc .sub])] []=some (match aR (dM y t) y.length 0 with|some j=> .d (.tup [ao .sub (kr y j),.bool true])|none=> .d (.tup [.sl U [],.bool false]),[]):=by
 have h:=qMH y [t] hy (by simp) a (by simpa using b)
 simp only[bF,bT,ao]at h;rw[h];simp only[takeN];cases aR (dM y t) y.length 0<;>rfl
theorem qEX(x y:ah)(hx:x.length<=1099511627776)(hy:y.length<=1099511627776)(bx:∀t,t∈x->t.inner<=1099511627776)(g:∀t,t∈y->t.inner<=1099511627776):
 aj XV 270 [.d (ao .sub x),.d (ao .sub y)] []=some (.d (.tup [.sl U ((bW x y).1.map (T.enc .sub)),ao .sub (bW x y).2]),[]):=by
 rw[aK 270 wd rfl];have h:=dW (X:=XV) (T:=XV.lin 270) (L:=0) (live:=[1,6,12,13,14]) (b:=w7) (n:=x.length) (γ:=Unit) (R:=fun _=>(.ret,⟨[],[]⟩)) (step:=fun a i=> .inl (eF a (ai x i)))
  (st:=fun a i=>⟨[(1,.d (ao .sub a.2)),(6,.d (.sl U (a.1.map (T.enc .sub)))),(12,.d (ao .sub x)),(13,aa x.length),(14,aa i)],[]⟩) 0 15
  (fun a i=>a.1.length<=i/\a.2.length<=1099511627776/\∀t,t∈a.2->t.inner<=1099511627776) ([],y)
  (fun a _=>by simp[w7,uz,tz,uq,rF,s_,rT,uv,t7,sc,tP,rO])
  (fun a i hi e=>by
   obtain⟨G,l,m⟩:=e;have q:=aV (n:=i) (by omega);have F:=bx _ (bM hi);have c:=aZ hi;have hc:=SI a.2 (ai x i) l m F;have r:=y8 a.1 (ai x i) (by omega);generalize ai x i=t at*
   obtain⟨C,w,D⟩:=t;obtain⟨H,o⟩:=a;simp only[eF]at*
   cases hf:aR (dM o (.node C w D)) o.length 0 with
   |some j=>rw[hf]at hc;refine⟨⟨_,by simp[w7,uz,tz,uq,rF,s_,rT,uv,t7,sc,tP,rO,hi,q,cut,c,hc,splice];rfl,by simp[aA,aB]⟩,fun a' h=> ?_⟩;simp only[j5]at h;subst h;exact⟨by simp only;omega,eG Ed l,fun t z=>m t (AF z)⟩
   |none=>rw[hf]at hc;refine⟨⟨_,by simp[w7,uz,tz,uq,rF,s_,rT,uv,t7,sc,tP,rO,hi,q,cut,c,hc,r,splice];rfl,by simp[aA,aB]⟩,fun a' h=> ?_⟩;simp only[j5]at h;subst h;exact⟨by simp;omega,l,m⟩)
  ⟨by simp,hy,g⟩ (by simp[aA,aB])
 rw[xm]at h;simp only[qUI,bT,dC]at h;simp[wd,uz,tz,uq,rF,s_,rT,uv,t7,sc,tP,rO];rw[h];simp[wd,uz,tz,uq,rF,s_,rT,uv,t7,sc,tP,rO,bW]
@[simp] theorem JP(g:Tag)(l:ax):ints g l= .sl g (l.map (.int .i64)):=rfl
abbrev aH(g:Tag)(ps:List ax):DV:= .sl g (ps.map (ints g))
def aP(l:List ax)(i:Nat):ax:=(l[i]?).getD []
theorem cQ{l:List ax}{i:Nat}(h:i<l.length):l[i]=aP l i:=by simp[aP,h]
@[simp high] theorem q6I(g:Tag)(l:List ax):(l.map (ints g)).map DV.clr=l.map (ints .sub):=by simp[eX,mf]
theorem Vk(g:Tag)(l:List ax):∀x:DV,x∈l.map (ints g)->wc false 1 x:=by intro x hx;simp only[cC]at hx;obtain⟨n,_,rfl⟩:=hx;exact⟨rfl,rfl,fun h=>by simp at h,by simp⟩
def dt:ax->ax->ax
 |c::cs,r::a=>IntKind.i64.wrap (c+r)::dt cs a
 |cs,_=>cs
theorem qPp(c:ax):dt c []=c:=by cases c<;>rfl
theorem mi:∀(c r:ax),(dt c r).length=c.length
 | [],r=>by cases r<;>rfl
 |c::cs,[]=>rfl
 |c::cs,r::a=>by simp[dt,mi cs a]
theorem q0:∀(c r:ax) (i:Nat),i<c.length->aE (dt c r) i=if i<r.length then IntKind.i64.wrap (aE c i+aE r i)else aE c i
 | [],r,i,h=>by simp at h
 |c::cs,[],i,h=>by simp[dt]
 |c::cs,r::a,0,h=>by simp[dt,aE]
 |c::cs,r::a,i+1,h=>by have:=q0 cs a i (by simpa using h);simpa[dt,aE]using this
theorem Nk(a b:ax)(e:a.length=b.length)(h:∀i,i<a.length->aE a i=aE b i):a=b:=by apply K9 e;intro i c d;rw[bR c,bR d];exact h i c
theorem Zb(l:ax)(i j:Nat)(x:Int)(hi:i<l.length):aE (l.set i x) j=if i=j then x else aE l j:=by
 unfold aE;rw[List.getElem?_set];split
 ·simp[*]
 ·rfl
theorem A6(l:ax)(k j:Nat)(h:j<k):aE (l.take k) j=aE l j:=by unfold aE;rw[pX];simp[h]
theorem ZM(c r:ax)(i:Nat)(hi:i<c.length)(g:i<r.length):(dt c (r.take i)).set i (IntKind.i64.wrap (aE (dt c (r.take i)) i+aE r i))=dt c (r.take (i+1)):=by
 have e:aE (dt c (r.take i)) i=aE c i:=by rw[q0 _ _ _ hi];simp;omega
 apply Nk
 ·simp[mi]
 ·intro j b
  simp[mi]at b;rw[Zb _ _ _ _ (by rw[mi];exact hi),q0 _ _ j b,e,q0 _ _ j b];simp only[xd]
  by_cases a:i=j
  ·subst a;rw[ay rfl,ay (by omega),A6 _ _ _ (by omega)]
  ·rw[aC a]
   by_cases d:j<i
   ·rw[ay (by omega),ay (by omega),A6 _ _ _ d,A6 _ _ _ (by omega)]
   ·rw[aC (by omega),aC (by omega)]
theorem Tb(c r:ax)(k:Nat)(b:k=min c.length r.length):dt c (r.take k)=dt c r:=by
 apply Nk
 ·simp[mi]
 ·intro j a
  simp[mi]at a;rw[q0 _ _ j a,q0 _ _ j a];simp only[xd]
  by_cases h:j<r.length
  ·rw[ay (by omega),ay h,A6 _ _ _ (by omega)]
  ·rw[aC (by omega),aC h]
def cu(m:Nat)(ps:List ax):Nat->ax
 |0=>List.replicate m 0
 |j+1=>dt (cu m ps j) (aP ps j)
theorem qp(m:Nat)(ps:List ax):∀j,(cu m ps j).length=m
 |0=>by simp[cu]
 |j+1=>by simp[cu,mi,qp m ps j]
def dQ(ps:List ax)(n:Int):ax:=if 1<=n/\n<=1000 then cu n.toNat ps ps.length else []
theorem Rm(l:ax)(i:Nat)(x:Int)(h:i<l.length):splice (cI l) i [aa x]=cI (l.set i x):=by unfold splice cI;rw[IF,ay h];simp
theorem q3m(l:ax)(i:Nat)(h:i<l.length):(cI l)[i]?=some (aa (aE l i)):=by simp[cI,aE,h]
theorem Vv(m:Nat):List.map AV.d (List.flatMap DV.cells (List.replicate m (.int .i64 0)))=cI (List.replicate m 0):=by
 induction m with
 |zero=>rfl
 |succ m a=>simp[mo,cI,t_]at a⊢;exact a
theorem V0(l:ax):cI l=fq (l.map (.int .i64)):=by
 unfold fq
 induction l with
 |nil=>rfl
 |cons x r a=>simp[cI,flat,t_]at a⊢;exact a
theorem YZ(m:Nat)(G:m<=1000)(ps:List ax)(j:Nat)(row c:ax)(hc:c.length=m)(D:row.length<=4398046511104):
 bq XV [4,5,42] 1 [1,5,7,8,14,15,16] tL ⟨[(1,aa m),(5,.bsl [] false 0 1 m),(7,.d (is row)),(8,aa 0),(14,.d (aH .sub ps)),(15,aa ps.length),(16,aa j)],[some (cI c)]⟩
 =some (.exit 2,⟨[(1,aa m),(5,.bsl [] false 0 1 m),(7,.d (is row)),(8,aa (min m row.length:Nat)),(14,.d (aH .sub ps)),(15,aa ps.length),(16,aa j),(28,au false)],[some (cI (dt c row))]⟩):=by
 have h:=bG (X:=XV) (T:=[4,5,42]) (L:=1) (live:=[1,5,7,8,14,15,16]) (b:=tL) (n:=min m row.length) (γ:=Unit) (st:=fun(_:Unit) i=>⟨[(1,aa m),(5,.bsl [] false 0 1 m),(7,.d (is row)),(8,aa i),(14,.d (aH .sub ps)),(15,aa ps.length),(16,aa j)],[some (cI (dt c (row.take i)))]⟩) (step:=fun _ _=> .inl ())
  (F:=fun _=>(.exit 2,⟨[(1,aa m),(5,.bsl [] false 0 1 m),(7,.d (is row)),(8,aa (min m row.length:Nat)),(14,.d (aH .sub ps)),(15,aa ps.length),(16,aa j),(28,au false)],[some (cI (dt c (row.take (min m row.length))))]⟩)) (R:=fun _=>(.ret,⟨[],[]⟩))
  (fun _=>⟨by simp,by
   by_cases e:row.length<m
   ·have o:min m row.length=row.length:=by omega
    rw[o];simp[tL,e]
   ·have o:min m row.length=m:=by omega
    rw[o];simp[tL]⟩)
  (fun _ i hi=>by
   have z:=aV (n:=i) (by omega);have y:i<m:=by omega
   have w:i<row.length:=by omega
   have l:=Rm (dt c (row.take i)) i (IntKind.i64.wrap (aE (dt c (row.take i)) i+aE row i)) (by rw[mi];omega);rw[ZM c row i (by omega) w]at l;have a:(cI (dt c (row.take i))).length=m:=by rw[q3l,mi,hc]
   have g:=q3m (dt c (row.take i)) i (by rw[mi];omega);generalize x:dt c (row.take i)=c1 at l a g⊢
   have r:i+1<=m:=by omega
   generalize C:cI c1=cc at l a g⊢
   have e:i<cc.length:=by omega
   have q:cc[i]= aa (aE c1 i):=by rw[fp e]at g;simpa using g
   exact⟨⟨[(1,aa m),(5,.bsl [] false 0 1 m),(7,.d (is row)),(8,aa (i+1:Nat)),(14,.d (aH .sub ps)),(15,aa ps.length),(16,aa j)],[some (cI (dt c (row.take (i+1))))]⟩,by simp[tL,PN,y,w,z,cut,bR w,a,q,l,r],by simp[aA,aB]⟩)
  (min m row.length) () 0 ⟨[(1,aa m),(5,.bsl [] false 0 1 m),(7,.d (is row)),(8,aa 0),(14,.d (aH .sub ps)),(15,aa ps.length),(16,aa j)],[some (cI c)]⟩ (by omega) (by simp[aA,aB,qPp])
 rw[dB,Tb c row _ (by rw[hc])]at h;exact h
theorem qB7(ps:List ax)(n:Int)(K:ps.length<=1099511627776)(I:∀i,i<ps.length->(aP ps i).length<=1099511627776):aj XV 212 [.d (aH .sub ps),aa n] []=some (.d (ints U (dQ ps n)),[]):=by
 rw[aK 212 vZ rfl];have r:=pj n 1 1000
 by_cases D:1<=n/\n<=1000
 ·have e:b4 n 1 1000=true:=by simp[b4,D]
  rw[e]at r;have C:dQ ps n=cu n.toNat ps ps.length:=by unfold dQ;rw[ay D]
  rw[C];obtain⟨m,rfl⟩:∃m:Nat,n=m:=⟨n.toNat,by omega⟩;simp only[tI];have J:m<=1000:=by omega
  have a:=bG (X:=XV) (T:=[4,5,42]) (L:=1) (live:=[1,5,14,15,16]) (b:=Aj) (n:=ps.length) (γ:=Unit) (st:=fun(_:Unit) j=>⟨[(1,aa m),(5,.bsl [] false 0 1 m),(14,.d (aH .sub ps)),(15,aa ps.length),(16,aa j)],[some (cI (cu m ps j))]⟩) (step:=fun _ _=> .inl ())
   (F:=fun _=>(.exit 0,⟨[(1,aa m),(5,.bsl [] false 0 1 m),(14,.d (aH .sub ps)),(15,aa ps.length),(16,aa ps.length),(17,au false)],[some (cI (cu m ps ps.length))]⟩)) (R:=fun _=>(.ret,⟨[],[]⟩))
   (fun _=>⟨by simp,by simp[Aj]⟩)
   (fun _ j z=>by
    have H:=aV (n:=j) (by omega);have h:=YZ m J ps j (aP ps j) (cu m ps j) (qp m ps j) (by have:=I j z;omega);rw[show dt (cu m ps j) (aP ps j)=cu m ps (j+1)from rfl]at h;exact⟨⟨[(1,aa m),(5,.bsl [] false 0 1 m),(14,.d (aH .sub ps)),(15,aa ps.length),(16,aa (j+1:Nat))],[some (cI (cu m ps (j+1)))]⟩,by
     simp[Aj,z,cut,cQ z];rw[h];simp[H],by simp[aA,aB]⟩)
   ps.length () 0 ⟨[(1,aa m),(5,.bsl [] false 0 1 m),(14,.d (aH .sub ps)),(15,aa ps.length),(16,aa 0)],[some (cI (cu m ps 0))]⟩ (by omega) (by simp[aA,aB])
  rw[dB]at a;have c:=qp m ps ps.length;generalize cu m ps ps.length=g at a c⊢
  have l:=vd (g.map (DV.int .i64)) (NM g);have q:(flat (g.map (DV.int .i64))).length=g.length*1:=by rw[vM fun x hx=>(NM g x hx).1];simp
  rw[cT,c]at l;rw[c]at q;rw[V0 g]at a;have G:=Vv m;simp only[cu]at a;rw[<-G]at a;have y:m*8<=140737488355328:=by omega
  have w:(m:Int)<9223372036854775808:=by omega
  have o:m<9223372036854775808:=by omega
  simp[vZ,r,y,w]
  try simp at a
  rw[a];simp[l,q,o,CO]
 ·have e:b4 n 1 1000=false:=by simp[b4];omega
  rw[e]at r;have C:dQ ps n=[]:=by unfold dQ;rw[aC D]
  rw[C];simp[vZ,r]
structure Eqn where
 a:T
 b:T
abbrev bh:=List Eqn
def Eqn.enc(g g':Tag)(e:Eqn):DV:= .agg [.int .i64 e.a.f,.int .i64 e.a.v,ao g e.a.kids,.int .i64 e.b.f,.int .i64 e.b.v,ao g' e.b.kids]
abbrev bf(l:bh):DV:= .sl .sub (l.map (Eqn.enc .sub .sub))
def lX(l:bh)(i:Nat):Eqn:=(l[i]?).getD ⟨.node 0 0 [],.node 0 0 []⟩
@[simp] theorem Eqn.qfk(g g':Tag)(e:Eqn):(e.enc g g').cells=[.int .i64 e.a.f,.int .i64 e.a.v,ao g e.a.kids,.int .i64 e.b.f,.int .i64 e.b.v,ao g' e.b.kids]:=rfl
@[simp] theorem Eqn.qfj(g g':Tag)(e:Eqn):(e.enc g g').clr=e.enc .sub .sub:=by simp[Eqn.enc]
@[simp] theorem Eqn.qPs(g g':Tag):DV.clr∘Eqn.enc g g'=Eqn.enc .sub .sub:=funext fun w=>by simp
theorem Cf(a:bh)(g g':Tag)(e:Eqn)(h:a.length<=1099511627776):bU 6 80 (.sl U (a.map (Eqn.enc g g'))) (.sl U [e.enc g g'])=some (.sl U ((a++[e]).map (Eqn.enc g g'))):=by
 have b:(a.map (Eqn.enc g g')).all (fun e=>decide (e.cells.length=6))=true:=by
  rw[cm];intro y hy
  obtain⟨z,_,rfl⟩:=cC.1 hy;rfl
 unfold bU;simp only;rw[ay (by simp[Eqn.enc,DV.cells,DV.isCell])];simp only[ge,bg,if_false];rw[ay ⟨by simp;omega,trivial,b⟩];simp
theorem GD(a c:bh)(g g':Tag)(h:a.length+c.length<=1099511627776):bU 6 80 (.sl U (a.map (Eqn.enc g g'))) (bf c)=some (.sl U (a.map (Eqn.enc g g')++c.map (Eqn.enc .sub .sub))):=by
 have d:(c.map (Eqn.enc .sub .sub)).all (fun e=>decide (e.cells.length=6/\e.cells.all DV.isCell=true))=true:=by
  rw[cm];intro y hy
  obtain⟨z,_,rfl⟩:=cC.1 hy;simp[aY,a6,DV.isCell]
 have b:(a.map (Eqn.enc g g')).all (fun e=>decide (e.cells.length=6))=true:=by
  rw[cm];intro y hy
  obtain⟨z,_,rfl⟩:=cC.1 hy;rfl
 unfold bU;simp only;rw[ay d];cases c with
 |nil=>simp
 |cons x r=>simp only[bF,ge,bg,if_false];rw[ay ⟨by simp at h⊢;omega,trivial,b⟩]
theorem qFv(n:Int)(k:Int)(a:0<=k)(b:k<=1000):aj XV 275 [.d (.sl .sub [(T.node (-1) n []).enc .sub]),aa k] []=some (.d (ao .sub (List.replicate k.toNat (.node (-1) n []))),[]):=by rw[vk XV 275 _ _ lN rfl];simp only[bd,b9,bO,lN];rw[ay ⟨OO _ _,a,by omega⟩,List.map_replicate,T.qLq .sub (by simp)];simp only[b9,List.map_replicate,ao]
def lH(all:ah)(sum:ax)(i:Nat):Bool:=decide (aE sum i<1)||(decide (1<aE sum i)&& !((ai all i).f== -1))
def pD(all:ah)(sum:ax):Bool:=(aR (lH all sum) sum.length 0).isNone
theorem VO(all:ah)(sum:ax)(r:sum.length=all.length)(w:all.length<=1099511627776):aj XV 273 [.d (ao .sub all),.d (is sum)] []=some (au (pD all sum),[]):=by
 rw[aK 273 wj rfl];have h:=dW (X:=XV) (T:=XV.lin 273) (L:=0) (live:=[0,7,8,9]) (b:=qo) (n:=sum.length) (γ:=Nat) (R:=fun _=>(.ret,⟨[(4,au false)],[]⟩)) (step:=bH (lH all sum))
  (st:=fun(_:Unit) i=>⟨[(0,.d (ao .sub all)),(7,.d (is sum)),(8,aa sum.length),(9,aa i)],[]⟩) 0 10 (fun _ _=>True) ()
  (fun _ _=>by simp[qo,om,oR,o6,pK,oC,ou,pU,oZ])
  (fun _ i hi _=>by
   have q:=aV (n:=i) (by omega);have c:i<all.length:=by omega
   have l:=iN (ai all i);refine⟨?_,fun _ _=>trivial⟩;have j:=bR hi;have g:=aZ c;unfold bH;have o:lH all sum i=(decide (aE sum i<1)||(decide (1<aE sum i)&& !((ai all i).f== -1))):=rfl;generalize lH all sum i=m at o;generalize aE sum i=z at*
   generalize ai all i=t at*
   obtain⟨f,v,ks⟩:=t;simp only[T.qaP]at l o;subst o;generalize (f== -1)=b at l⊢
   by_cases a:z<1
   ·simp only[a,decide_true,E1,if_true]
    exact⟨by simp,by simp[qo,om,oR,o6,pK,oC,ou,pU,oZ,hi,cut,j,a]⟩
   ·by_cases e:1<z
    ·cases b with
     |true=>simp only[a,e,decide_false,decide_true,lR,wL,l6,bg,if_false];exact⟨_,by simp[qo,om,oR,o6,pK,oC,ou,pU,oZ,hi,c,q,cut,j,g,a,e,l];rfl,by simp[aA,aB]⟩
     |false=>simp only[a,e,decide_false,decide_true,kX,uk,Bool.false_or,if_true];exact⟨by simp,by simp[qo,om,oR,o6,pK,oC,ou,pU,oZ,hi,c,cut,j,g,a,e,l]⟩
    ·simp only[a,e,decide_false,re,l6,bg,if_false]
     exact⟨_,by simp[qo,om,oR,o6,pK,oC,ou,pU,oZ,hi,q,cut,j,a,e];rfl,by simp[aA,aB]⟩)
  trivial (by simp[aA,aB])
 rw[cU]at h;simp only[qUG,dC]at h;unfold pD;simp[wj,om,oR,o6,pK,oC,ou,pU,oZ];rw[h];cases aR (lH all sum) sum.length 0<;>simp[wj,om,oR,o6,pK,oC,ou,pU,oZ]
def bV(ch:List ax)(next:Int)(p:Nat):Nat->ah
 |0=>[]
 |i+1=>bV ch next p i++List.replicate (aE (aP ch i) p).toNat (.node (-1) (next+i) [])
def pZ(s:aD)(f:Int)(all:ah)(ch:List ax)(next:Int)(p:Nat):Eqn:=⟨ai all p,en s f (bV ch next p ch.length)⟩
def db(s:aD)(f:Int)(all:ah)(ch:List ax)(next:Int):Nat->bh
 |0=>[]
 |p+1=>db s f all ch next p++[pZ s f all ch next p]
theorem Ay(s:aD)(f:Int)(all:ah)(ch:List ax)(next:Int):∀n,(db s f all ch next n).length=n
 |0=>rfl
 |n+1=>by simp[db,Ay s f all ch next n]
structure WaysOk(ch:List ax)(m:Nat):Prop where
 len:ch.length<=8
 row:∀i,i<ch.length->(aP ch i).length=m
 num:∀i p,0<=aE (aP ch i) p/\aE (aP ch i) p<=1000
theorem Kt(n:Nat)(v:Int):bJ (List.replicate n (.node (-1) v []))=n:=by
 induction n with
 |zero=>rfl
 |succ n a=>rw[mo,jh,a];simp[T.inner,T.inners];omega
theorem wk{ch:List ax}{m:Nat}(h:WaysOk ch m)(next:Int)(p:Nat):∀i,bJ (bV ch next p i)<=1000*i
 |0=>bI _
 |i+1=>by have:=wk h next p i;have a:=h.num i p;simp only[bV,AU,Kt];omega
def glW(g:Gl):Nat:=if g.many then 1+3*bJ g.ps else 3*(ai g.ps 0).inner+2
def QL(l:List Gl):Nat:=(l.map glW).sum
structure MS where
 ways:List aF
 steps:Nat
 over:Bool
def MS.done(S:MS):Bool:=S.over||decide (60<S.ways.length)
def MS.ev(S:MS)(e:Option aF):MS:=
 if S.done then S else match e with
 |none=>{S with steps:=S.steps+1,over:=decide (20000<S.steps+1)}
 |some u=>if jo S.ways u then S else{S with ways:=S.ways++[u]}
def MS.run(S:MS)(es:List (Option aF)):MS:=es.foldl MS.ev S
theorem MS.qqC(S:MS)(a b:List (Option aF)):S.run (a++b)=(S.run a).run b:=xO
theorem MS.qgO(S:MS)(e:Option aF)(b:List (Option aF)):S.run (e::b)=(S.ev e).run b:=rfl
theorem MS.q3x(S:MS)(e:Option aF)(h:S.ways.length<=61):(S.ev e).ways.length<=61:=by
 unfold MS.ev;split
 ·exact h
 ·rename_i a
  cases e with
  |none=>exact h
  |some u=>
   simp only;split
   ·exact h
   ·unfold MS.done at a
    simp only[jr,cB,not_or]at a;simp;omega
abbrev dI(a:List aF):DV:= .sl U (a.map (binds U))
def MS.step(S:MS):MS:={S with steps:=S.steps+1,over:=decide (20000<S.steps+1)}
@[simp] theorem qKH:DV.clr∘binds U=binds .sub:=funext fun w=>by simp[binds]
theorem ON(L:List aF)(t:Tag)(u:aF)(b:(L.length+1)*24<=140737488355328):bU 1 24 (.sl U (L.map (binds U))) (.sl t [binds U u])=some (.sl U ((L++[u]).map (binds U))):=by
 have a:(L.map (binds U)).all (fun e=>decide (e.cells.length=1))=true:=by rw[cm];intro y hy;obtain⟨z,_,rfl⟩:=cC.1 hy;rfl
 unfold bU;simp only;rw[ay (by rfl)];simp only[ge,bg,if_false];rw[ay ⟨by simpa using b,trivial,a⟩];simp
@[simp] theorem Gl.qfk(g:Tag)(x:Gl):(x.enc g).cells=[.bool x.many,.int .i64 x.f,ao g x.ps,ao g x.ts]:=rfl
@[simp] theorem Gl.qkQ(g:Tag)(x:Gl):(AV.d (x.enc g)).cells=[au x.many,aa x.f,.d (ao g x.ps),.d (ao g x.ts)]:=rfl
@[simp] theorem Gl.qkO(g:Tag)(x:Gl):(x.enc g).isCell=false:=rfl
@[simp] theorem Gl.qfj(x:Gl):(x.enc .sub).clr=x.enc .sub:=by simp[Gl.enc]
@[simp] theorem qVW:DV.clr∘Gl.enc .sub=Gl.enc .sub:=funext fun w=>by simp
section
variable (s:aD) (p t:T) (rest:List Gl) (u:aF) (k:Nat) (Q Q':az)
end
section
variable (s:aD) (p t:T) (rest:List Gl) (u:aF) (k:Nat) (Q Q':az)
end
section
variable (s:aD) (p t:T) (rest:List Gl) (u:aF) (k:Nat) (Q Q':az)
end
section
variable (s:aD) (f:Int) (ts:ah) (rest:List Gl) (u:aF) (k:Nat) (Q Q':az)
end
variable{N:Nat}
theorem EU{B:List α}(h:B.length=N)(a:α)(r:List α):(B++a::r)[N]?=some a:=by subst h;simp
theorem T5{B:List α}(h:B.length=N)(a b:α)(r:List α):(B++a::b::r)[N+1]?=some b:=by subst h;rw[dx (by omega),show B.length+1-B.length=1 by omega];rfl
theorem QN{B:List α}(h:B.length=N)(a b c:α)(r:List α):(B++a::b::c::r)[N+2]?=some c:=by subst h;rw[dx (by omega),show B.length+2-B.length=2 by omega];rfl
section
variable (s:aD) (f next:Int) (all:ah) (ch:List ax) (others:bh) (u:aF) (k N:Nat)
def cO(A:DV)(p:Nat):aI:=[(0,.ptr k 0),(1,aa f),(3,.d (aH .sub ch)),(4,.d (bf others)),(5,.d (binds .sub u)),(6,aa next),(14,.d A),(30,.d (ao .sub all)),(31,aa all.length),(32,aa p)]
def cK(A:DV)(p:Nat)(K:DV)(i:Nat):aI:=[(0,.ptr k 0),(1,aa f),(3,.d (aH .sub ch)),(4,.d (bf others)),(5,.d (binds .sub u)),(6,aa next),(14,.d A),(15,aa p),(16,.ptr N 0),(17,.d K),(30,.d (ao .sub all)),(31,aa all.length),(32,aa p),(38,.d (aH .sub ch)),(39,aa ch.length),(40,aa i)]
theorem qJo(A:DV)(p:Nat)(Bx:az)(o:Bx.length=N+1)(d:WaysOk ch all.length)(m:k<N)(I:p<all.length)(M:0<=next/\next<=1000):
 bq XV (XV.lin 274) (N+1) [0,1,3,4,5,6,14,15,16,17,30,31,32,38,39,40] vR ⟨cK f next all ch others u k N A p (.sl U []) 0,Bx⟩=
  some (.exit 2,⟨cK f next all ch others u k N A p (.sl U ((bV ch next p ch.length).map (T.enc .sub))) ch.length++[(41,au false)],Bx⟩):=by
 have J:=d.len;have h:=dW (X:=XV) (T:=XV.lin 274) (L:=N+1) (live:=[0,1,3,4,5,6,14,15,16,17,30,31,32,38,39,40]) (b:=vR) (n:=ch.length) (γ:=Unit) (R:=fun _=>(.ret,⟨[],[]⟩)) (step:=fun _ _=> .inl ())
  (st:=fun(_:Unit) i=>⟨cK f next all ch others u k N A p (.sl U ((bV ch next p i).map (T.enc .sub))) i,Bx⟩) 2 41 (fun _ _=>True) ()
  (fun _ _=>by simp[vR,nr,nF,nK,n0,nc,nA,ni,mD,n_,mQ,oh,nS,oK,mJ,nD,cK])
  (fun _ i hi _=>by
   have g:=aV (n:=i) (by omega);have e:IntKind.i64.wrap (next+(i:Int))=next+i:=wrap_i64 (by omega) (by omega);have G:=cQ hi;have l:=d.row i hi;obtain⟨F,q⟩:=d.num i p;have a:p<(aP ch i).length:=by omega
   have x:=bR a;have H:=NP (next+i);have c:=qFv (next+i) (aE (aP ch i) p) F q;have r:=wk d next p i;have y:=g8 (bV ch next p i);have D:=tm (bV ch next p i) (List.replicate (aE (aP ch i) p).toNat (.node (-1) (next+i) [])) .sub (by rw[NE];omega);have j:bV ch next p (i+1)=bV ch next p i++List.replicate (aE (aP ch i) p).toNat (.node (-1) (next+i) []):=rfl;refine⟨⟨⟨cK f next all ch others u k N A p (.sl U ((bV ch next p (i+1)).map (T.enc .sub))) (i+1),Bx⟩,?_,?_⟩,fun _ _=>trivial⟩
   ·rw[j]
    generalize K:(bV ch next p i++List.replicate (aE (aP ch i) p).toNat (T.node (-1) (next+i) [])).map (T.enc .sub)=L2 at*
    generalize (List.replicate (aE (aP ch i) p).toNat (T.node (-1) (next+i) []))=rp at*
    generalize (bV ch next p i).map (T.enc .sub)=L1 at*
    generalize C:aE (aP ch i) p=z at*
    generalize w:aP ch i=row at*
    simp[vR,nr,nF,nK,n0,nc,nA,ni,mD,n_,mQ,oh,nS,oK,mJ,nD,cK,hi,g,e,cut,G,a,x,H,c,D,splice]
   ·have:Bx.take (N+1)=Bx:=dD (by omega)
    simp[cK,aA,aB,o,this,m];omega)
  trivial (by
   have:Bx.take (N+1)=Bx:=dD (by omega);simp[cK,aA,aB,o,this,m,bV];omega)
 rw[dB]at h;exact h
end
structure US where
 told:List aF
 work:Nat
 over:Bool
def uB(s:aD)(S:US):aG:=[.d (sg s),.d (dI S.told),aa S.work,au S.over]
variable{k:Nat}
theorem q_len{Q:List α}{x:α}(h:Q[k]?=some x):k<Q.length:=(cw.1 h).1
theorem dm{Q:List α}{x:α}(h:Q[k]?=some x):∀h',Q[k]'h'=x:=fun h'=>by rw[fp h']at h;simpa using h
theorem dv{Q:List α}{x:α}(h:Q[k]?=some x)(e:List α):(Q++e)[k]?=some x:=by rw[d8 (q_len h)];exact h
theorem gN{Q:List α}{x:α}(h:Q[k]?=some x)(e:List α):∀h',(Q++e)[k]'h'=x:=dm (dv h e)
theorem gn{Q:List α}{x:α}(h:Q[k]?=some x)(e:List α)(v:α):(Q++e).set k v=Q.set k v++e:=List.set_append_left _ _ (q_len h)
theorem Js{B:List α}(h:B.length=N)(a v:α)(r:List α):(B++a::r).set N v=B++v::r:=by subst h;simp
section
variable (s:aD) (f next:Int) (all:ah) (ch:List ax) (others:bh) (u:aF) (k N:Nat)
theorem W3(Q:az)(H:aG)(a:Q.length=N)(g:Q[k]?=some (some (.d (sg s)::H)))(J:s.length<=1099511627776)(m:WaysOk ch all.length)(M:0<=next/\next<=1000)(Y:all.length<=1000):
 bq XV (XV.lin 274) N [0,1,3,4,5,6,14,30,31,32] rR ⟨cO f next all ch others u k (.sl U []) 0,Q⟩=
  some (.exit 0,⟨cO f next all ch others u k (.sl U ((db s f all ch next all.length).map (Eqn.enc .sub U))) all.length++[(33,au false)],Q⟩):=by
 have i:k<N:=by rw[<-a];exact q_len g
 have G:∀e,(Q++e).take N=Q:=fun e=>by rw[<-a];simp
 have y:¬(N+1<=N):=by omega
 have z:¬(N+1<=k):=by omega
 have K:k<N+1:=by omega
 have j:Q.take N=Q:=by rw[<-a];simp
 have h:=dW (X:=XV) (T:=XV.lin 274) (L:=N) (live:=[0,1,3,4,5,6,14,30,31,32]) (b:=rR) (n:=all.length) (γ:=Unit) (R:=fun _=>(.ret,⟨[],[]⟩)) (step:=fun _ _=> .inl ())
  (st:=fun(_:Unit) p=>⟨cO f next all ch others u k (.sl U ((db s f all ch next p).map (Eqn.enc .sub U))) p,Q⟩) 0 33 (fun _ _=>True) ()
  (fun _ _=>by simp[rR,nr,nF,nK,n0,nc,nA,ni,mD,n_,mQ,oh,nS,oK,mJ,nD,cO])
  (fun _ p l _=>by
   have o:=aV (n:=p) (by omega);have w:=Ay s f all ch next p;have x:=wk m next p ch.length;have D:=m.len;have I:=TE s J f (bV ch next p ch.length) (by omega);have q:=Cf (db s f all ch next p) .sub U (pZ s f all ch next p) (by omega);have C:db s f all ch next (p+1)=db s f all ch next p++[pZ s f all ch next p]:=rfl;have r:=aZ l;have F:(pZ s f all ch next p).enc .sub U= .agg [.int .i64 (ai all p).f,.int .i64 (ai all p).v,ao .sub (ai all p).kids,.int .i64 (en s f (bV ch next p ch.length)).f,.int .i64 (en s f (bV ch next p ch.length)).v,ao U (en s f (bV ch next p ch.length)).kids]:=rfl;rw[F]at q;have c:=qJo f next all ch others u k N (.sl U ((db s f all ch next p).map (Eqn.enc .sub U))) p (Q++[some [aa (ai all p).f,aa (ai all p).v,.d (ao .sub (ai all p).kids)]]) (by simp[a]) m i l M;refine⟨⟨⟨cO f next all ch others u k (.sl U ((db s f all ch next (p+1)).map (Eqn.enc .sub U))) (p+1),Q++[some [aa (ai all p).f,aa (ai all p).v,.d (ao .sub (ai all p).kids)]]⟩,?_,?_⟩,fun _ _=>trivial⟩
   ·rw[C]
    generalize Z:(db s f all ch next p++[pZ s f all ch next p]).map (Eqn.enc .sub U)=L2 at*
    generalize (db s f all ch next p).map (Eqn.enc .sub U)=L1 at*
    generalize bV ch next p ch.length=kd at*
    generalize en s f kd=mk at*
    generalize ai all p=t at*
    obtain⟨O,tv,P⟩:=t;obtain⟨V,mv,mk⟩:=mk;simp only[Oe,cK,T.qaP,T.qbz,T.qav,dC]at c q⊢
    simp[rR,nr,nF,nK,n0,nc,nA,ni,mD,n_,mQ,oh,nS,oK,mJ,nD,cO,l,a,r,cut,EU a,Js a,splice];rw[c];simp[rR,nr,nF,nK,n0,nc,nA,ni,mD,n_,mQ,oh,nS,oK,mJ,nD,a,I,q,o,y,z,K,dm g,dv g,gN g,EU a,i,splice,cut]
   ·simp[cO,aA,aB,a,i,G])
  trivial (by simp[cO,aA,aB,db,a,i,j])
 rw[dB]at h;exact h
end
def US.bad(S:US):US:={S with over:=true}
@[simp] theorem qYe(Q:List α)(k:Nat)(v:α):(Q.set k v).take Q.length=Q.set k v:=dD (by simp)
@[simp] theorem qYf(Q r:List α):(Q++r).take Q.length=Q:=by simp
theorem BR(s:aD)(S:US):(uB s S).set 3 (au true)=uB s S.bad:=rfl
section
variable (s:aD) (f next:Int) (all:ah) (ch:List ax) (others:bh) (u:aF) (k:Nat) (S:US) (Q Q':az)
theorem ZQ(a:Q[k]?=some (some (uB s S)))(l:ch.length<=1000)(j:0<=next/\next<=1000)(e:99<next+ch.length-1):
 aj XV 274 [.ptr k 0,aa f,.d (ao .sub all),.d (aH .sub ch),.d (bf others),.d (binds .sub u),aa next] Q=some (.d (.tup []),Q.set k (some (uB s S.bad))):=by
 rw[aK 274 qb rfl];have c:=q_len a;have g:IntKind.i64.wrap (next+(ch.length:Int))=next+ch.length:=wrap_i64 (by omega) (by omega);have i:IntKind.i64.wrap (next+(ch.length:Int)-1)=next+ch.length-1:=wrap_i64 (by omega) (by omega);have h:=BR s S;have b:uB s S=[.d (sg s),.d (dI S.told),aa S.work,au S.over]:=rfl;rw[<-h,b];rw[b]at a;simp[qb,nr,nF,nK,n0,nc,nA,ni,mD,n_,mQ,oh,nS,oK,mJ,nD,g,i,e,c,dm a,a,splice]
theorem qKK(e:Q[k]?=some (some (uB s S)))(x:s.length<=1099511627776)(g:WaysOk ch all.length)(y:0<=next/\next<=1000)(o:all.length<=1000)(z:next+ch.length-1<=99)(r:others.length<=1000000000)(m:Q'.length=Q.length)
 (a:aj XV 263 [.ptr k 0,.d (bf (db s f all ch next all.length++others)),.d (binds .sub u),aa (next+ch.length)] Q=some (.d (.tup []),Q')):
 aj XV 274 [.ptr k 0,aa f,.d (ao .sub all),.d (aH .sub ch),.d (bf others),.d (binds .sub u),aa next] Q=some (.d (.tup []),Q'):=by
 rw[aK 274 qb rfl];have n:=g.len;have i:=q_len e;have b:=Ay s f all ch next all.length;have c:IntKind.i64.wrap (next+(ch.length:Int))=next+ch.length:=wrap_i64 (by omega) (by omega);have l:IntKind.i64.wrap (next+(ch.length:Int)-1)=next+ch.length-1:=wrap_i64 (by omega) (by omega);have w:¬(99:Int)<next+ch.length-1:=by omega
 have h:=W3 s f next all ch others u k Q.length Q _ rfl e x g y o;have j:=GD (db s f all ch next all.length) others .sub U (by omega);simp only[Oe,cO,dC]at h;simp[qb,nr,nF,nK,n0,nc,nA,ni,mD,n_,mQ,oh,nS,oK,mJ,nD,c,l,w,i];rw[h];simp only[bf,cL]at a j;have q:Q'.take Q.length=Q':=dD (by omega);simp[qb,nr,nF,nK,n0,nc,nA,ni,mD,n_,mQ,oh,nS,oK,mJ,nD,c,i,a,j,m,q]
end
def wU(s:aD)(u:aF)(i:Nat):Bool:= !cq s (aQ u i).t
def ez(s:aD)(u:aF):Bool:=(aR (wU s u) u.length 0).isNone
structure SgOk(s:aD):Prop where
 len:s.length<=1099511627776
 nam:∀i,i<s.length->(aX s i).name.size<=1099511627776
structure SubFit(s:aD)(u:aF)(v:Int)(t:T):Prop where
 len:u.length<=1048577
 b:∀i,i<u.length->(aQ u i).t.inner<=1099511627776
 ti:t.inner<=1099511627776
 f:∀i,i<u.length->(bN [⟨v,t⟩] (aQ u i).t).inner<=1099511627776
 o:∀b,b∈bB s u v t->b.t.inner<=1099511627776
theorem F7(s:aD)(u:aF)(v:Int)(t:T):(bB s u v t).length<=2*u.length+1:=by have:=t5 s u v t u.length;unfold bB;rw[cG];split<;>simp<;>omega
section
variable {s:aD} (v next:Int) (t:T) (others:bh) (u:aF) (k:Nat) (S:US) (Q Q':az)
theorem Nw(g:SgOk s)(i:Nat)(b:Bd)(x:b.t.inner<=1099511627776)(hi:Q[i]?=some (some [.ptr k 0]))(a:Q[k]?=some (some (uB s S))):
 aj XV 287 [.d (b.enc .sub),.ptr i 0] Q=some (au (!cq s b.t),Q):=by
 rw[aK 287 Dq rfl];have c:=FM s g.len g.nam b.t x;have h:=q_len a;have e:=q_len hi;have r:uB s S=[.d (sg s),.d (dI S.told),aa S.work,au S.over]:=rfl;have j:¬(Q.length<=i):=by omega
 have n:¬(Q.length<=k):=by omega
 have m:i<Q.length+1:=by omega
 have w:k<Q.length+1:=by omega
 have l:¬(Q.length+1<=i):=by omega
 have o:¬(Q.length+1<=k):=by omega
 rw[r]at a;generalize cq s b.t=q at*
 obtain⟨bv,z,y,C⟩:=b;simp[Dq,q2X,c,h,e,j,n,m,w,l,o,q8B,dv a,gN a,dv hi,gN hi,dm a,dm hi,splice,q4i]
theorem Lh(b:Bool)(h:ez s (bB s u v t)=b):(aR (fun i=> !cq s (aQ (bB s u v t) i).t) (bB s u v t).length 0).isSome= !b:=by
 rw[<-h];unfold ez
 show _= !(aR (fun i=> !cq s (aQ (bB s u v t) i).t) (bB s u v t).length 0).isNone;cases aR (fun i=> !cq s (aQ (bB s u v t) i).t) (bB s u v t).length 0<;>rfl
theorem qO6(b:k<Q.length)(g:t.inner<=1099511627776)(h:0<cnt t v):
 aj XV 267 [.ptr k 0,aa v,.d (t.enc .sub),.d (bf others),.d (binds .sub u),aa next] Q=some (.d (.tup []),Q):=by
 rw[aK 267 oA rfl];have hc:=Gy t g v;have a:0<IntKind.i64.wrap (T.sum (wC v) t):=h;generalize IntKind.i64.wrap (T.sum (wC v) t)=c at*
 obtain⟨n,m,o⟩:=t;have e:k<Q.length+1:=by omega
 have j:k<Q.length+2:=by omega
 have l:¬(Q.length+2<=Q.length):=by omega
 have i:¬(Q.length+2<=k):=by omega
 simp[oA,H6,hc,a,b,e,j,l,i,get_at,jb,splice]
theorem qKT(l:SgOk s)(g:Q[k]?=some (some (uB s S)))(e:SubFit s u v t)(x:¬0<cnt t v)(j:ez s (bB s u v t)=false):
 aj XV 267 [.ptr k 0,aa v,.d (t.enc .sub),.d (bf others),.d (binds .sub u),aa next] Q=some (.d (.tup []),Q.set k (some (uB s S.bad))):=by
 rw[aK 267 oA rfl];have n:=q_len g;have hc:=Gy t e.ti v;have h:¬0<IntKind.i64.wrap (T.sum (wC v) t):=x;have i:=LF s l.len u v t e.len e.b e.ti e.f;have q:=F7 s u v t;have C:=e.len;have a:=Mf (bB s u v t) 287 [.ptr Q.length 0] (Q++[some [.ptr k 0],some [aa t.f,aa t.v,.d (ao .sub t.kids)]]) (fun b=> !cq s b.t) (by omega) (by simp[AV.safe.safes,AV.safe]) (by simp) (by simp)
  (fun b j=>Nw k S _ l Q.length b (e.o b j) (by simp) (dv g _))
 rw[Lh v t u _ j]at a;generalize bB s u v t=u2 at*
 generalize IntKind.i64.wrap (T.sum (wC v) t)=c at*
 obtain⟨G,F,H⟩:=t;have y:k<Q.length+1:=by omega
 have D:k<Q.length+2:=by omega
 have w:¬(Q.length+2<=Q.length):=by omega
 have z:¬(Q.length+2<=k):=by omega
 have r:=BR s S;have m:uB s S=[.d (sg s),.d (dI S.told),aa S.work,au S.over]:=rfl;rw[<-r,m];rw[m]at g;simp only[binds,T.qaP,T.qbz,T.qav]at a;simp[oA,H6,hc,h,n,y,D,w,z,get_at,jb,splice,i,a,dv g,gN g,gn g]
theorem VJ(r:SgOk s)(i:Q[k]?=some (some (uB s S)))(g:SubFit s u v t)(C:¬0<cnt t v)(n:ez s (bB s u v t)=true)(w:Q'.length=Q.length)
 (h:∀e,aj XV 263 [.ptr k 0,.d (bf others),.d (binds .sub (bB s u v t)),aa next] (Q++e)=some (.d (.tup []),Q'++e)):
 aj XV 267 [.ptr k 0,aa v,.d (t.enc .sub),.d (bf others),.d (binds .sub u),aa next] Q=some (.d (.tup []),Q'):=by
 rw[aK 267 oA rfl];have x:=q_len i;have hc:=Gy t g.ti v;have j:¬0<IntKind.i64.wrap (T.sum (wC v) t):=C;have l:=LF s r.len u v t g.len g.b g.ti g.f;have y:=F7 s u v t;have H:=g.len;have a:=Mf (bB s u v t) 287 [.ptr Q.length 0] (Q++[some [.ptr k 0],some [aa t.f,aa t.v,.d (ao .sub t.kids)]]) (fun b=> !cq s b.t) (by omega) (by simp[AV.safe.safes,AV.safe]) (by simp) (by simp)
  (fun b n=>Nw k S _ r Q.length b (g.o b n) (by simp) (dv i _))
 rw[Lh v t u _ n]at a;have q:=h [some [.ptr k 0],some [aa t.f,aa t.v,.d (ao .sub t.kids)]];generalize bB s u v t=u2 at*
 generalize IntKind.i64.wrap (T.sum (wC v) t)=c at*
 obtain⟨M,K,O⟩:=t;have D:k<Q.length+1:=by omega
 have I:k<Q.length+2:=by omega
 have z:¬(Q.length+2<=Q.length):=by omega
 have F:¬(Q.length+2<=k):=by omega
 have G:uB s S=[.d (sg s),.d (dI S.told),aa S.work,au S.over]:=rfl;have J:Q'.take Q.length=Q':=dD (by omega);have m:∀e,(Q'++e).take Q.length=Q':=fun e=>by rw[<-w];simp
 rw[G]at i;simp only[binds,T.qaP,T.qbz,T.qav]at q a;simp[oA,H6,hc,j,x,D,I,z,F,get_at,jb,splice,l,a,q,dv i,gN i,w,m]
end
def cntF(a:ah×ax)(t:T):ah×ax:=
 match aR (dM a.1 t) a.1.length 0 with
 |some j=>(a.1,a.2.set j (aE a.2 j+1))
 |none=>(a.1++[t],a.2++[1])
def bz(l:ah):ah×ax:=l.foldl cntF ([],[])
theorem Jv{a:aw}(b:a.all (dc .i64)=true)(g:Tag)(l:ah)(h:DV.xrests a (l.map (T.enc g))=true):DV.xrest a (.sl g (l.map (T.enc g)))=true:=by
 cases l with
 |nil=>simp[DV.xrest,DV.xrests]
 |cons t l=>
  have d:(a.all fun r=> !(ao g t.kids).like r)=true:=by
   rw[cm]at b⊢
   intro r c;have:=b r c;cases r<;>first|rfl|(simp[dc]at this;done)
  have e:((t::l).map (T.enc g)).flatMap DV.cells= .int .i64 t.f:: .int .i64 t.v::ao g t.kids::(l.map (T.enc g)).flatMap DV.cells:=by simp
  simp only[DV.xrest,h,uk];rw[e];simp only[List.any_cons,d,E1,DG]
mutual
theorem ZT{a:aw}(b:a.all (dc .i64)=true)(g:Tag):∀t:T,DV.xrest a (t.enc g)=true
 | .node f v ks=>by have:=Jv b g ks (tJ b g ks);rw[T.qb8];simp only[T.qaP,T.qbz,T.qav,ao,DV.xrest,DV.xrests,uk,eE];simpa only[DV.xrest]using this
theorem tJ{b:aw}(a:b.all (dc .i64)=true)(g:Tag):∀l:ah,DV.xrests b (l.map (T.enc g))=true
 | []=>by simp[DV.xrests]
 |t::l=>by simp only[bF,DV.xrests,ZT a g t,tJ a g l,eE]
end
theorem w_(l:ax):(l.map (DV.int .i64)).all (dc .i64)=true:=by
 rw[cm];intro x hx
 obtain⟨n,_,rfl⟩:=cC.1 hx;simp[dc]
@[simp] theorem qWi(c:ax)(g:Tag)(l:ah):DV.xrest (c.map (DV.int .i64)) (.sl g (l.map (T.enc g)))=true:=Jv (w_ c) g l (tJ (w_ c) g l)
@[simp] theorem qWh(c:ax)(l:ah):DV.xrest (c.map (DV.int .i64)) (.sl U (l.map (T.enc .sub)))=true:=by have:=tJ (w_ c) .sub l;simp only[DV.xrest,this,uk,decide_true,DG]
theorem SE(l:ah)(a:ah×ax)(h:a.2.length=a.1.length):(l.foldl cntF a).2.length=(l.foldl cntF a).1.length:=by
 induction l generalizing a with
 |nil=>exact h
 |cons t l b=>refine b _ ?_;unfold cntF;split<;>simp[h]
theorem N2(a:ax)(n:Int)(h:a.length<=1099511627776):bU 1 8 (.sl U (a.map (.int .i64))) (.sl U [.int .i64 n])=some (.sl U ((a++[n]).map (.int .i64))):=by
 have b:(a.map (DV.int .i64)).all (fun e=>decide (e.cells.length=1))=true:=by
  rw[cm];intro y hy
  obtain⟨z,_,rfl⟩:=cC.1 hy;rfl
 unfold bU;simp only;rw[ay (by simp[DV.cells,DV.isCell])];simp only[ge,bg,if_false];rw[ay ⟨by simp;omega,trivial,b⟩];simp
theorem qKv(x:T)(f v:Int)(ks:ah)(hx:x.inner<=1099511627776)(a:(T.node f v ks).inner<=1099511627776):
 aj XV 280 [.d (x.enc .sub),.ptr 0 0] [some [aa f,aa v,.d (ao .sub ks)]]=some (au (T.cmp x (.node f v ks)==0),[some [aa f,aa v,.d (ao .sub ks)]]):=by
 rw[aK 280 El rfl];have h:=same_eq x (.node f v ks) hx a;obtain⟨c,v',b⟩:=x;simp[El,h]
theorem Lp(l:ax)(j m:Nat)(v:Int):aE (l.set j v) m=if j=m/\j<l.length then v else aE l m:=by
 unfold aE;rw[List.getElem?_set]
 by_cases h:j=m
 ·subst h
  by_cases a:j<l.length
  ·simp[a]
  ·simp[a,jm (show l.length<=j by omega)]
 ·simp[h]
theorem LD(l:ax)(m:Nat)(v:Int):aE (l++[v]) m=if m<l.length then aE l m else if m=l.length then v else 0:=by
 unfold aE
 by_cases h:m<l.length
 ·rw[ay h,d8 h]
 ·rw[aC h,dx (by omega)]
  by_cases a:m=l.length
  ·simp[a]
  ·rw[aC a,jm (by simp;omega)];rfl
theorem OR(x:ah)(hx:x.length<=1099511627776)(bx:∀t,t∈x->t.inner<=1099511627776):
 aj XV 271 [.d (ao .sub x)] []=some (.d (.tup [.sl U ((bz x).1.map (T.enc .sub)),ints U (bz x).2]),[]):=by
 rw[I_ XV _ _ _ tc rfl VM rfl (m:=0) (by kernel_rfl) rfl];have h:=dW (X:=XV) (T:=XV.lin 271) (L:=0) (live:=[4,5,11,12,13]) (b:=xh) (n:=x.length) (γ:=Unit) (R:=fun _=>(.ret,⟨[],[]⟩)) (step:=fun a i=> .inl (cntF a (ai x i)))
  (st:=fun a i=>⟨[(4,.d (.sl U (a.1.map (T.enc .sub)))),(5,.d (.sl U (a.2.map (.int .i64)))),(11,.d (ao .sub x)),(12,aa x.length),(13,aa i)],[]⟩) 0 14
  (fun a i=>a.1.length<=i/\a.2.length=a.1.length/\(∀t,t∈a.1->t.inner<=1099511627776)/\∀j,0<=aE a.2 j/\aE a.2 j<=i) ([],[])
  (fun a _=>by simp[xh,rE,sA,sw,uQ,uM,um,tt,uP,sH,rZ,tK,ub])
  (fun a i hi z=>by
   obtain⟨i1,O,G,M⟩:=z;have P:=aV (n:=i) (by omega);have V:=bx _ (bM hi);have w:=aZ hi;have H:=y8 a.1 (ai x i) (by omega);have y:=N2 a.2 1 (by omega);obtain⟨c,C⟩:=a;simp only[cntF]at*
   generalize ai x i=t at*
   obtain⟨e,l,g⟩:=t;have hc:=My c 280 [.ptr 0 0] [some [aa e,aa l,.d (ao .sub g)]] (fun x=>T.cmp x (.node e l g)==0) (by omega) (by simp) (by simp) (by simp) (fun x hx=>qKv x e l g (G x hx) V);have F:(fun j=>T.cmp (ai c j) (.node e l g)==0)=dM c (.node e l g):=rfl;rw[F]at hc;cases hf:aR (dM c (.node e l g)) c.length 0 with
   |some j=>
    rw[hf]at hc;obtain⟨_,hj,_⟩:=dy _ _ _ _ hf;have o:j<C.length:=by omega
    have D:¬((j:Int)<0):=by omega
    have I:=bR o;have Z:=M j;have J:IntKind.i64.wrap (aE C j+1)=aE C j+1:=wrap_i64 (by omega) (by omega);have Y:=w_ C;have K:=tJ Y .sub c;refine⟨⟨_,by simp[xh,rE,sA,sw,uQ,uM,um,tt,uP,sH,rZ,tK,ub,Om,rq,hi,P,cut,w,hc,bC,splice,D,o,I,J,Y,K];rfl,by simp[aA,aB]⟩,fun a' h=> ?_⟩;simp only[j5]at h;subst h;refine⟨by simp only;omega,by simp only[rB];exact O,G,fun m=> ?_⟩;have:=M m;simp only[Lp];split<;>omega
   |none=>
    rw[hf]at hc;refine⟨⟨_,by simp[xh,rE,sA,sw,uQ,uM,um,tt,uP,sH,rZ,tK,ub,hi,P,cut,w,hc,bC,H,y,splice];rfl,by simp[aA,aB]⟩,fun a' h=> ?_⟩;simp only[j5]at h;subst h;refine⟨by simp;omega,by simp;exact O,fun q r=> ?_,fun m=> ?_⟩
    ·rcases bw.1 r with r|r
     ·exact G q r
     ·rw[fS.1 r];exact V
    ·have:=M m
     simp only[LD];split<;>(try split)<;>omega)
  ⟨by simp,rfl,by simp,by simp[aE]⟩ (by simp[aA,aB])
 rw[xm]at h;simp only[VN,bT,dC]at h;simp[tc,rE,sA,sw,uQ,uM,um,tt,uP,sH,rZ,tK,ub];rw[h];simp[tc,rE,sA,sw,uQ,uM,um,tt,uP,sH,rZ,tK,ub,bz]
abbrev W(x:Int):Int:=IntKind.i64.wrap x
theorem FK(x:Int):IntKind.i64.wrap x=if x%18446744073709551616>=9223372036854775808 then x%18446744073709551616-18446744073709551616 else x%18446744073709551616:=by simp[IntKind.wrap,IntKind.bits,IntKind.signed]
theorem XM(x y:Int):W (W x+W y)=W (x+y):=by simp only[W,FK];split<;>split<;>split<;>split<;>omega
theorem q6N(x y:Int):W (W x-W y)=W (x-y):=by simp only[W,FK];split<;>split<;>split<;>split<;>omega
theorem Vq(x y:Int):(W x==W y)=(W (x-y)==0):=by
 have:(W x=W y)↔(W (x-y)=0):=by simp only[W,FK];split<;>split<;>split<;>omega
 rw[pY];simpa using this
def bS(a x:ax)(o:Nat):Nat->Nat->Int
 |_,0=>0
 |i,k+1=>aE a i*aE x (o+i)+bS a x o (i+1) k
def DI(a x:ax)(o:Nat)(t:Int)(i:Nat):Int⊕Unit:= .inl (W (t+W (aE a i*aE x (o+i))))
def Gv(a x:ax)(o:Nat)(t:Int)(i:Nat):Int⊕Unit:= .inl (W (t-W (aE a i*aE x (o+i))))
theorem ED(a x:ax)(o:Nat):∀(k i:Nat) (d:Int),runN (DI a x o) k (W d) i= .inl (W (d+bS a x o i k))
 |0,i,d=>by simp[runN,bS]
 |k+1,i,d=>by
  simp only[runN,DI,XM,bS];rw[ED a x o k (i+1) _]
  congr 2;omega
theorem L5(a x:ax)(o:Nat):∀(k i:Nat) (d:Int),runN (Gv a x o) k (W d) i= .inl (W (d-bS a x o i k))
 |0,i,d=>by simp[runN,bS]
 |k+1,i,d=>by
  simp only[runN,Gv,q6N,bS];rw[L5 a x o k (i+1) _]
  congr 2;omega
theorem Jr:W 0=0:=rfl
theorem KF(a x:ax)(o:Nat)(r:a.length<=1099511627776)(hx:x.length<=2199023255552)(h:o+a.length<=x.length):aj XV 48 [.d (is a),.d (is x),aa o] []=some (aa (W (bS a x o 0 a.length)),[]):=by
 rw[aK 48 BW rfl];have c:=bG (X:=XV) (T:=[]) (L:=0) (live:=[0,1,2,7,8]) (b:=Co) (n:=a.length) (γ:=Unit) (st:=fun(t:Int) i=>⟨[(0,.d (is a)),(1,.d (is x)),(2,aa o),(7,aa t),(8,aa i)],[]⟩) (step:=DI a x o)
  (F:=fun t=>(.exit 0,⟨[(0,.d (is a)),(1,.d (is x)),(2,aa o),(7,aa t),(8,aa a.length),(12,au false)],[]⟩)) (R:=fun _=>(.ret,⟨[],[]⟩))
  (fun _=>⟨by simp,by simp[Co]⟩)
  (fun t i hi=>by
   have q:=aV (n:=i) (by omega);have g:IntKind.i64.wrap ((o:Int)+i)=(o:Int)+i:=wrap_i64 (by omega) (by omega);have m:(0:Int)<=(o:Int)+i:=by omega
   have l:((o:Int)+i).toNat=o+i:=by omega
   have e:o+i<x.length:=by omega
   exact⟨_,by simp[Co,Qf,hi,q,g,m,l,e,cut,bR hi,bR e];rfl,by simp[aA,aB]⟩)
  a.length 0 0 ⟨[(0,.d (is a)),(1,.d (is x)),(2,aa o),(7,aa 0),(8,aa 0)],[]⟩ (by omega) (by simp[aA,aB])
 have j:=ED a x o a.length 0 0;rw[Jr,Cs]at j;rw[j]at c;simp[BW];rw[c];simp
def kZ(x:ax)(i:Nat):Bool:=decide (aE x i<0)
def rX(a b x:ax):Bool:=decide (x.length=a.length+b.length)&&((aR (kZ x) x.length 0).isNone&&(W (bS a x 0 0 a.length)==W (bS b x a.length 0 b.length)))
theorem Tk(n:Int):aj XV 46 [aa n] []=some (au (decide (n<0)),[]):=by rw[aK 46 v46 rfl];simp[v46]
theorem Vn(l:ax)(e:l.length<=1099511627776):aj XV 47 [.d (is l),.fn 46 []] []=some (aa (bC (aR (kZ l) l.length 0)),[]):=by
 rw[aK 47 l_ rfl];have h:=bG (X:=XV) (T:=XV.lin 47) (L:=0) (live:=[0,1,7,8]) (b:=i7) (n:=l.length) (γ:=Nat) (st:=fun(_:Unit) i=>⟨[(0,.d (is l)),(1,.fn 46 []),(7,aa l.length),(8,aa i)],[]⟩) (step:=bH (kZ l))
  (F:=fun _=>(.exit 0,⟨[(0,.d (is l)),(1,.fn 46 []),(7,aa l.length),(8,aa l.length),(9,au false)],[]⟩)) (R:=fun(j:Nat)=>(.ret,⟨[(4,aa j)],[]⟩))
  (fun _=>⟨by simp,by simp[i7]⟩)
  (fun _ i hi=>by
   have c:=aV (n:=i) (by omega);have hc:=Tk (aE l i);unfold bH kZ
   by_cases a:aE l i<0
   ·simp only[a,decide_true,if_true]at hc⊢
    exact⟨by simp,by simp[i7,hi,cut,bR hi,hc]⟩
   ·simp only[a,decide_false]at hc⊢
    exact⟨_,by simp[i7,hi,c,cut,bR hi,hc];rfl,by simp[aA,aB]⟩)
  l.length () 0 ⟨[(0,.d (is l)),(1,.fn 46 []),(7,aa l.length),(8,aa 0)],[]⟩ (by omega) (by simp[aA,aB])
 rw[cU]at h;simp only[KL]at h;simp[l_];rw[h];cases hq:aR (kZ l) l.length 0<;>simp[bC]
theorem ZF(l:ax)(a:l.length<=1099511627776):aj XV 45 [.d (is l),.fn 46 []] []=some (au (!(aR (kZ l) l.length 0).isNone),[]):=by
 rw[aK 45 og rfl];have h:=Vn l a;cases hq:aR (kZ l) l.length 0 with
 |none=>rw[hq]at h;simp[og,h,bC]
 |some j=>rw[hq]at h;simp[og,h,bC]
theorem QM(a b x:ax)(y:a.length<=1099511627776)(z:b.length<=1099511627776)(hx:x.length<=1099511627776):aj XV 43 [.d (is a),.d (is b),.d (is x)] []=some (au (rX a b x),[]):=by
 rw[aK 43 sq rfl];have g:IntKind.i64.wrap ((a.length:Int)+b.length)=(a.length:Int)+b.length:=wrap_i64 (by omega) (by omega);unfold rX
 by_cases c:x.length=a.length+b.length
 case neg=>
  have c':((x.length:Int) !=(a.length:Int)+b.length)=true:=by simp;omega
  simp[sq,Bb,Ct,g,c,c']
 have c':((x.length:Int) !=(a.length:Int)+b.length)=false:=by simp;omega
 have h:=ZF x hx;cases hq:aR (kZ x) x.length 0 with
 |some j=>rw[hq]at h;simp[sq,Bb,Ct,g,c,h]
 |none=>
  rw[hq]at h;have o:=bG (X:=XV) (T:=XV.lin 43) (L:=0) (live:=[0,1,2,7,24,25,26]) (b:=AC) (n:=a.length) (γ:=Unit) (st:=fun(t:Int) i=>⟨[(0,.d (is a)),(1,.d (is b)),(2,.d (is x)),(7,aa t),(24,.d (is a)),(25,aa a.length),(26,aa i)],[]⟩) (step:=DI a x 0)
   (F:=fun t=>(.exit 0,⟨[(0,.d (is a)),(1,.d (is b)),(2,.d (is x)),(7,aa t),(24,.d (is a)),(25,aa a.length),(26,aa a.length),(27,au false)],[]⟩)) (R:=fun _=>(.ret,⟨[],[]⟩))
   (fun _=>⟨by simp,by simp[AC]⟩)
   (fun t i hi=>by
    have g:=aV (n:=i) (by omega);have e:i<x.length:=by omega
    exact⟨_,by simp[AC,hi,g,e,cut,bR hi,bR e];rfl,by simp[aA,aB]⟩)
   a.length 0 0 ⟨[(0,.d (is a)),(1,.d (is b)),(2,.d (is x)),(7,aa 0),(24,.d (is a)),(25,aa a.length),(26,aa 0)],[]⟩ (by omega) (by simp[aA,aB])
  have q:=ED a x 0 a.length 0 0;rw[Jr,Cs]at q;rw[q]at o;have m:=bG (X:=XV) (T:=XV.lin 43) (L:=0) (live:=[0,2,7,40,41,42]) (b:=AB) (n:=b.length) (γ:=Unit) (st:=fun(t:Int) i=>⟨[(0,.d (is a)),(2,.d (is x)),(7,aa t),(40,.d (is b)),(41,aa b.length),(42,aa i)],[]⟩) (step:=Gv b x a.length)
   (F:=fun t=>(.exit 2,⟨[(0,.d (is a)),(2,.d (is x)),(7,aa t),(40,.d (is b)),(41,aa b.length),(42,aa b.length),(43,au false)],[]⟩)) (R:=fun _=>(.ret,⟨[],[]⟩))
   (fun _=>⟨by simp,by simp[AB]⟩)
   (fun t i hi=>by
    have g:=aV (n:=i) (by omega);have l:IntKind.i64.wrap ((a.length:Int)+i)=(a.length:Int)+i:=wrap_i64 (by omega) (by omega);have w:(0:Int)<=(a.length:Int)+i:=by omega
    have r:((a.length:Int)+i).toNat=a.length+i:=by omega
    have e:a.length+i<x.length:=by omega
    exact⟨_,by simp[AB,hi,g,l,w,r,e,cut,bR hi,bR e];rfl,by simp[aA,aB]⟩)
   b.length (W (bS a x 0 0 a.length)) 0 ⟨[(0,.d (is a)),(2,.d (is x)),(7,aa (W (bS a x 0 0 a.length))),(40,.d (is b)),(41,aa b.length),(42,aa 0)],[]⟩ (by omega) (by simp[aA,aB])
  rw[L5]at m;simp only[QG]at o m;rw[Vq];simp[sq,g,c',h];rw[o];simp[Bb,Ct];rw[m];simp[c]
theorem K7(m:Nat)(ps:List ax)(j i:Nat)(hi:i<m):aE (cu m ps (j+1)) i=if i<(aP ps j).length then IntKind.i64.wrap (aE (cu m ps j) i+aE (aP ps j) i)else aE (cu m ps j) i:=by rw[cu,q0 _ _ _ (by rw[qp];exact hi)]
theorem QP(l:ax)(i:Nat)(h:i<l.length):l.take (i+1)=l.take i++[aE l i]:=by rw[pW,fp h,bR h];rfl
theorem qFa(m:Nat)(n:Int)(ps:List ax)(acc:DV)(i:Nat)(hi:i<m)(o:ps.length<=4398046511104):
 bq XV [4,5,9,41,43,44,45] 0 [0,1,5,6,7,8] rI ⟨[(0,.d (aH .sub ps)),(1,aa n),(5,.d acc),(6,aa i),(7,aa 0),(8,aa 0)],[]⟩
 =some (.exit 2,⟨[(0,.d (aH .sub ps)),(1,aa n),(5,.d acc),(6,aa i),(7,aa (aE (cu m ps ps.length) i)),(8,aa ps.length),(22,au false)],[]⟩):=by
 have h:=bG (X:=XV) (T:=[4,5,9,41,43,44,45]) (L:=0) (live:=[0,1,5,6,7,8]) (b:=rI) (n:=ps.length) (γ:=Unit) (st:=fun(_:Unit) j=>⟨[(0,.d (aH .sub ps)),(1,aa n),(5,.d acc),(6,aa i),(7,aa (aE (cu m ps j) i)),(8,aa j)],[]⟩) (step:=fun _ _=> .inl ())
  (F:=fun _=>(.exit 2,⟨[(0,.d (aH .sub ps)),(1,aa n),(5,.d acc),(6,aa i),(7,aa (aE (cu m ps ps.length) i)),(8,aa ps.length),(22,au false)],[]⟩)) (R:=fun _=>(.ret,⟨[],[]⟩))
  (fun _=>⟨by simp,by simp[rI]⟩)
  (fun _ j e=>by
   have g:=aV (n:=j) (by omega);have c:=K7 m ps j i hi;generalize hx:aE (cu m ps j) i=x at c⊢
   by_cases a:i<(aP ps j).length
   ·rw[ay a]at c
    exact⟨_,by simp[rI,e,g,cut,cQ e,a,bR a];rfl,by simp[aA,aB,c]⟩
   ·rw[aC a]at c
    exact⟨_,by simp[rI,e,g,cut,cQ e,a];rfl,by simp[aA,aB,c]⟩)
  ps.length () 0 ⟨[(0,.d (aH .sub ps)),(1,aa n),(5,.d acc),(6,aa i),(7,aa (aE (cu m ps 0) i)),(8,aa 0)],[]⟩ (by omega) (by simp[aA,aB])
 rw[dB]at h;have l:aE (cu m ps 0) i=0:=by simp[cu,aE,hi]
 rw[l]at h;exact h
theorem Yf(ps:List ax)(n:Int)(z:ps.length<=1099511627776):aj XV 213 [.d (aH .sub ps),aa n] []=some (.d (ints U (dQ ps n)),[]):=by
 rw[aK 213 wZ rfl]
 by_cases r:1<=n/\n<=1000
 ·have l:dQ ps n=cu n.toNat ps ps.length:=by unfold dQ;rw[ay r]
  rw[l];obtain⟨m,rfl⟩:∃m:Nat,n=m:=⟨n.toNat,by omega⟩;simp only[tI];have j:(m:Int)<=1000:=by omega
  have h:=qp m ps ps.length;have a:=bG (X:=XV) (T:=[4,5,9,41,43,44,45]) (L:=0) (live:=[0,1,5,6]) (b:=qw) (n:=m) (γ:=Unit) (st:=fun(_:Unit) i=>⟨[(0,.d (aH .sub ps)),(1,aa m),(5,.d (.sl U (((cu m ps ps.length).take i).map (.int .i64)))),(6,aa i)],[]⟩) (step:=fun _ _=> .inl ())
   (F:=fun _=>(.exit 0,⟨[(0,.d (aH .sub ps)),(1,aa m),(5,.d (.sl U (((cu m ps ps.length).take m).map (.int .i64)))),(6,aa m),(16,au false)],[]⟩)) (R:=fun _=>(.ret,⟨[],[]⟩))
   (fun _=>⟨by simp,by simp[qw]⟩)
   (fun _ i hi=>by
    have w:=aV (n:=i) (by omega);have e:=qFa m m ps (.sl U (((cu m ps ps.length).take i).map (.int .i64))) i hi (by omega);have c:=qI ((cu m ps ps.length).take i) [aE (cu m ps ps.length) i] U (by simp;omega);rw[<-QP _ _ (by omega)]at c;generalize cu m ps ps.length=g at e c h⊢
    simp only[bF,bT]at c;generalize hx:aE g i=x at e c;generalize o:(g.take i).map (DV.int .i64)=l1 at e c⊢
    generalize y:(g.take (i+1)).map (DV.int .i64)=l2 at c;exact⟨⟨[(0,.d (aH .sub ps)),(1,aa m),(5,.d (.sl U l2)),(6,aa (i+1:Nat))],[]⟩,by
     simp[qw,hi,j];rw[e];simp[c,w],by simp[aA,aB,y]⟩)
   m () 0 ⟨[(0,.d (aH .sub ps)),(1,aa m),(5,.d (.sl U [])),(6,aa 0)],[]⟩ (by omega) (by simp[aA,aB])
  rw[dB,dD (by omega)]at a;generalize cu m ps ps.length=g at a⊢
  simp[wZ];rw[a];simp
 ·have l:dQ ps n=[]:=by unfold dQ;rw[aC r]
  rw[l];have a:=bG (X:=XV) (T:=[4,5,9,41,43,44,45]) (L:=0) (live:=[0,1,5,6]) (b:=qw) (n:=0) (γ:=Unit) (st:=fun(_:Unit) i=>⟨[(0,.d (aH .sub ps)),(1,aa n),(5,.d (.sl U [])),(6,aa i)],[]⟩) (step:=fun _ _=> .inl ())
   (F:=fun _=>(.exit 0,⟨[(0,.d (aH .sub ps)),(1,aa n),(5,.d (.sl U [])),(6,aa 0),(16,au false)],[]⟩)) (R:=fun _=>(.ret,⟨[],[]⟩))
   (fun _=>⟨by simp,by
    by_cases q:(0:Int)<n
    ·have o:¬n<=1000:=by omega
     simp[qw,q,o]
    ·simp[qw,q]⟩)
   (fun _ i hi=>by omega)
   0 () 0 ⟨[(0,.d (aH .sub ps)),(1,aa n),(5,.d (.sl U [])),(6,aa 0)],[]⟩ (by omega) (by simp[aA,aB])
  rw[dB]at a;simp[wZ];rw[a];simp
def Cz(l:ax)(m:Int)(i:Nat):Int⊕Unit:= .inl (if aE l i>m then aE l i else m)
def jf(l:ax):Nat->Nat->Int->Int
 |_,0,m=>m
 |i,k+1,m=>jf l (i+1) k (if aE l i>m then aE l i else m)
theorem Ga(l:ax):∀(k i:Nat) (m:Int),runN (Cz l) k m i= .inl (jf l i k m)
 |0,i,m=>rfl
 |k+1,i,m=>by simp only[runN,Cz,jf];exact Ga l k (i+1) _
def di(l:ax):Int:=jf l 1 (l.length-1) (aE l 0)
def Bp(l:ax):Int:=jf l 0 l.length 0
theorem GQ(l:ax)(g:l.length<=1099511627776)(a:0<l.length):aj XV 223 [.d (is l)] []=some (aa (di l),[]):=by
 rw[aK 223 Ci rfl];have h:=bG (X:=XV) (T:=XV.lin 223) (L:=0) (live:=[0,3,4]) (b:=Al) (n:=l.length) (γ:=Unit) (st:=fun(m:Int) i=>⟨[(0,.d (is l)),(3,aa m),(4,aa i)],[]⟩) (step:=Cz l)
  (F:=fun m=>(.exit 0,⟨[(0,.d (is l)),(3,aa m),(4,aa l.length),(15,au false)],[]⟩)) (R:=fun _=>(.ret,⟨[],[]⟩))
  (fun _=>⟨by simp,by simp[Al]⟩)
  (fun m i hi=>by have e:=aV (n:=i) (by omega);exact⟨_,by simp[Al,hi,e,cut,bR hi];rfl,by simp[aA,aB]⟩)
  (l.length-1) (aE l 0) 1 ⟨[(0,.d (is l)),(3,aa (aE l 0)),(4,aa 1)],[]⟩ (by omega) (by simp[aA,aB])
 rw[Ga]at h;simp only[QV]at h;have c:¬((l.length:Int)<1):=by omega
 simp[Ci,c,a,cut,bR a];rw[h];simp[di]
theorem JZ(x y:Int):aj XV 221 [aa x,aa y] []=some (aa (if y>x then y else x),[]):=by
 rw[aK 221 xy rfl]
 by_cases h:x>y
 ·rw[aC (by omega)]
  have:y<x:=h;simp[xy,this]
 ·have h':¬y<x:=h
  simp[xy,h'];intro;omega
theorem M5(l:ax)(c:l.length<=1099511627776):aj XV 219 [.d (is l)] []=some (aa (Bp l),[]):=by
 rw[aK 219 Ch rfl];have h:=bG (X:=XV) (T:=XV.lin 219) (L:=0) (live:=[0,3,4]) (b:=Cd) (n:=l.length) (γ:=Unit) (st:=fun(m:Int) i=>⟨[(0,.d (is l)),(3,aa m),(4,aa i)],[]⟩) (step:=Cz l)
  (F:=fun m=>(.exit 0,⟨[(0,.d (is l)),(3,aa m),(4,aa l.length),(8,au false)],[]⟩)) (R:=fun _=>(.ret,⟨[],[]⟩))
  (fun _=>⟨by simp,by simp[Cd]⟩)
  (fun m i hi=>by have a:=aV (n:=i) (by omega);have hc:=JZ m (aE l i);exact⟨_,by simp[Cd,hi,a,cut,bR hi,hc];rfl,by simp[aA,aB]⟩)
  l.length 0 0 ⟨[(0,.d (is l)),(3,aa 0),(4,aa 0)],[]⟩ (by omega) (by simp[aA,aB])
 rw[Ga]at h;simp only[qU0]at h;simp[Ch];rw[h];simp[Bp]
def lj(l:ax)(i:Nat):Bool:= !b4 (aE l i) 1 4
def b_(l:ax):Bool:=(aR (lj l) l.length 0).isNone&&b4 l.length 1 5
theorem qUs(n:Int):aj XV 230 [aa n] []=some (au (!b4 n 1 4),[]):=by rw[aK 230 Cv rfl];have h:=pj n 1 4;simp[Cv,h]
theorem UC(l:ax)(c:l.length<=1099511627776):aj XV 47 [.d (is l),.fn 230 []] []=some (aa (bC (aR (lj l) l.length 0)),[]):=by
 rw[aK 47 l_ rfl];have h:=bG (X:=XV) (T:=XV.lin 47) (L:=0) (live:=[0,1,7,8]) (b:=i7) (n:=l.length) (γ:=Nat) (st:=fun(_:Unit) i=>⟨[(0,.d (is l)),(1,.fn 230 []),(7,aa l.length),(8,aa i)],[]⟩) (step:=bH (lj l))
  (F:=fun _=>(.exit 0,⟨[(0,.d (is l)),(1,.fn 230 []),(7,aa l.length),(8,aa l.length),(9,au false)],[]⟩)) (R:=fun(j:Nat)=>(.ret,⟨[(4,aa j)],[]⟩))
  (fun _=>⟨by simp,by simp[i7]⟩)
  (fun _ i hi=>by
   have a:=aV (n:=i) (by omega);have hc:=qUs (aE l i);unfold bH lj;cases hn:b4 (aE l i) 1 4 with
   |false=>
    rw[hn]at hc;simp only[kX,if_true]at hc⊢
    exact⟨by simp,by simp[i7,hi,cut,bR hi,hc]⟩
   |true=>
    rw[hn]at hc;simp only[lR]at hc⊢
    exact⟨_,by simp[i7,hi,a,cut,bR hi,hc];rfl,by simp[aA,aB]⟩)
  l.length () 0 ⟨[(0,.d (is l)),(1,.fn 230 []),(7,aa l.length),(8,aa 0)],[]⟩ (by omega) (by simp[aA,aB])
 rw[cU]at h;simp only[KL]at h;simp[l_];rw[h];cases hq:aR (lj l) l.length 0<;>simp[bC]
theorem qoj(l:ax)(a:l.length<=1099511627776):aj XV 45 [.d (is l),.fn 230 []] []=some (au (!(aR (lj l) l.length 0).isNone),[]):=by
 rw[aK 45 og rfl];have h:=UC l a;cases hq:aR (lj l) l.length 0 with
 |none=>rw[hq]at h;simp[og,h,bC]
 |some j=>rw[hq]at h;simp[og,h,bC]
theorem Kk(l:ax)(c:l.length<=1099511627776):aj XV 222 [.d (is l)] []=some (au (b_ l),[]):=by
 rw[aK 222 wv rfl];have a:=pj (l.length:Int) 1 5;have b:=qoj l c;unfold b_;cases hq:b4 (l.length:Int) 1 5 with
 |false=>rw[hq]at a;simp[wv,a]
 |true=>rw[hq]at a;simp[wv,a,b]
theorem NI(l:ax)(e:l.length<=1099511627776):aj XV 217 [.d (is l)] []=some (au (b_ l),[]):=by
 rw[aK 217 yZ rfl];have h:=bG (X:=XV) (T:=XV.lin 217) (L:=0) (live:=[0,3]) (b:=vH) (n:=l.length) (γ:=Nat) (st:=fun(_:Unit) i=>⟨[(0,.d (is l)),(3,aa i)],[]⟩) (step:=bH (lj l))
  (F:=fun _=>(.exit 0,⟨[(0,.d (is l)),(3,aa l.length),(7,au false)],[]⟩)) (R:=fun(j:Nat)=>(.ret,⟨[(2,au false)],[]⟩))
  (fun _=>⟨by simp,by simp[vH]⟩)
  (fun _ i hi=>by
   have a:=aV (n:=i) (by omega);have hc:=lT (aE l i) 1 4;unfold bH lj;cases hn:b4 (aE l i) 1 4 with
   |false=>rw[hn]at hc;simp only[kX,if_true];exact⟨by simp,by simp[vH,hi,cut,bR hi,hc]⟩
   |true=>rw[hn]at hc;simp only[lR];exact⟨_,by simp[vH,hi,a,cut,bR hi,hc];rfl,by simp[aA,aB]⟩)
  l.length () 0 ⟨[(0,.d (is l)),(3,aa 0)],[]⟩ (by omega) (by simp[aA,aB])
 rw[cU]at h;simp only[U8]at h;have c:=lT (l.length:Int) 1 5;unfold b_;simp[yZ];rw[h];cases hq:aR (lj l) l.length 0<;>simp[c]
def ways:Nat->Nat->List ax
 |0,_=>[[]]
 |n+1,m=>(List.range (m+1)).flatMap fun k=>(ways n (m-k)).map fun r=>(k:Int)::r
def em(n m k:Nat):List ax:=(List.range k).flatMap fun j=>(ways n (m-j)).map fun r=>(j:Int)::r
theorem CK(n m k:Nat):em n m (k+1)=em n m k++(ways n (m-k)).map fun r=>(k:Int)::r:=by unfold em;rw[List.range_succ,FU];simp
theorem ul(L:List ax)(h g t:Tag)(r:ax)(c:(L.length+1)*24<=140737488355328):bU 1 24 (.sl U (L.map (ints h))) (.sl t [ints g r])=some (.sl U (L.map (ints h)++[ints g r])):=by
 have d:∀x:DV,x∈L.map (ints h)->x.cells.length=1:=fun x hx=>(Vk h L x hx).1
 have a:(ints g r).cells=[ints g r]:=rfl;have b:(ints g r).isCell=true:=rfl;simp only[bU,fX,List.all_nil,a,b,cT,c7,lE];simp[c]
theorem LB(k:Int)(r:ax)(g:Tag)(c:r.length<=1099511627776):bU 1 8 (.sl U [.int .i64 k]) (.sl g (r.map (.int .i64)))=some (.sl U ((k::r).map (.int .i64))):=by
 have h:(1+r.length)*8<=140737488355328:=by omega
 simp only[bU,cT,c7,lE];cases r with
 |nil=>simp
 |cons a b=>simp[t_,aY];simp at h;omega
theorem kL:∀n m,n<=5->m<=4->(ways n m).length<=126:=by
 have:∀n,n<6->∀m,m<5->(ways n m).length<=126:=by decide+kernel
 intro n m a b;exact this n (by omega) m (by omega)
theorem m9:∀(n m:Nat) (r:ax),r∈ways n m->r.length=n
 |0,m,r,h=>by simp[ways]at h;subst h;rfl
 |n+1,m,r,h=>by simp only[ways,tX,cC]at h;obtain⟨k,_,a,h',rfl⟩:=h;simp[m9 n _ a h']
theorem J4(n m k:Nat)(d:n<=4)(c:m<=4)(b:k<=m+1):(em n m k).length<=126*k:=by
 induction k with
 |zero=>simp[em]
 |succ k a=>rw[CK,cG,cT];have:=a (by omega);have:=kL n (m-k) (by omega) (by omega);omega
def tM(k:Int)(rows:List ax)(acc:List ax)(i:Nat):List ax⊕Unit:= .inl (acc++[k::aP rows i])
theorem H4(k:Int)(rows:List ax):∀(j:Nat) (acc:List ax),j<=rows.length->runN (tM k rows) j acc (rows.length-j)= .inl (acc++(rows.drop (rows.length-j)).map fun r=>k::r)
 |0,acc,_=>by simp[runN]
 |j+1,acc,h=>by
  simp only[runN,tM];have hi:rows.length-(j+1)<rows.length:=by omega
  rw[show rows.length-(j+1)+1=rows.length-j by omega,H4 k rows j _ (by omega),dS hi,cQ hi];rw[show rows.length-(j+1)+1=rows.length-j by omega];simp
def uf(n m:Nat)(acc:List ax)(k:Nat):List ax⊕Unit:= .inl (acc++(ways n (m-k)).map fun r=>(k:Int)::r)
theorem E0(n m:Nat):∀(j k:Nat),runN (uf n m) j (em n m k) k= .inl (em n m (k+j))
 |0,k=>rfl
 |j+1,k=>by
  simp only[runN,uf];rw[<-CK,E0 n m j (k+1)]
  congr 2;omega
theorem qE5(n m k:Nat)(rows acc:List ax)(q:rows.length<=1000)(o:acc.length<=1000000)(c:∀i,i<rows.length->(aP rows i).length<=1000):
 bq XV (XV.lin 224) 0 [0,1,5,6,24,25,26] xQ ⟨[(0,aa n),(1,aa m),(5,.d (aH U acc)),(6,aa k),(24,.d (aH .sub rows)),(25,aa rows.length),(26,aa 0)],[]⟩=
  some (.exit 2,⟨[(0,aa n),(1,aa m),(5,.d (aH U (acc++rows.map fun r=>(k:Int)::r))),(6,aa k),(24,.d (aH .sub rows)),(25,aa rows.length),(26,aa rows.length),(27,au false)],[]⟩):=by
 have h:=ey (X:=XV) (T:=XV.lin 224) (L:=0) (live:=[0,1,5,6,24,25,26]) (b:=xQ) (n:=rows.length) (γ:=Unit) (st:=fun(A:List ax) i=>⟨[(0,aa n),(1,aa m),(5,.d (aH U A)),(6,aa k),(24,.d (aH .sub rows)),(25,aa rows.length),(26,aa i)],[]⟩) (step:=tM k rows)
  (F:=fun A=>(.exit 2,⟨[(0,aa n),(1,aa m),(5,.d (aH U A)),(6,aa k),(24,.d (aH .sub rows)),(25,aa rows.length),(26,aa rows.length),(27,au false)],[]⟩)) (R:=fun _=>(.ret,⟨[],[]⟩))
  (fun A i=>A.length<=1000000+i)
  (fun A _=>⟨by simp,by simp[xQ]⟩)
  (fun A i hi e=>by
   have j:=aV (n:=i) (by omega);have g:=LB k (aP rows i) .sub (by have:=c i hi;omega);have l:bU 1 24 (aH U A) (.sl U [.sl U (.int .i64 (k:Int)::(aP rows i).map (.int .i64))])=some (aH U (A++[(k:Int)::aP rows i])):=by have:=ul A U U U ((k:Int)::aP rows i) (by omega);rw[show aH U (A++[(k:Int)::aP rows i])= .sl U (A.map (ints U)++[ints U ((k:Int)::aP rows i)])by simp[aH]];exact this
   refine⟨⟨_,by simp[xQ,hi,j,cut,cQ hi,g,l];rfl,by simp[aA,aB]⟩,fun a' h=>by simp[tM]at h;subst h;simp;omega⟩)
  rows.length acc 0 ⟨[(0,aa n),(1,aa m),(5,.d (aH U acc)),(6,aa k),(24,.d (aH .sub rows)),(25,aa rows.length),(26,aa 0)],[]⟩ (by omega) (by omega) (by simp[aA,aB])
 have a:=H4 k rows rows.length acc (bI _);rw[mO]at a;rw[a]at h;simpa using h
end Go.Proofs.YtpcoohnjllclnaaGreat.VS
