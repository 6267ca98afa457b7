/- Contracts of the program's functions on the evaluator without names, and plain lemmas: part 4. -/
import Derived.Test.YtbcbkiaineacpaaGreatXP3
set_option linter.unusedSimpArgs false
set_option linter.unusedVariables false
namespace Go.Proofs.YtbcbkiaineacpaaGreat.VS
def mst(k:Nat)(s:ByteArray)(B:qam):XS:=⟨[(0,.d (.int .i64 k)),(3,.d (.str s))],B⟩
theorem qOX(k:Nat)(hk:k≠0)(hk2:k<=4611686018427387904)(s:ByteArray)(hs:s.size<=100)(B:qam):
 ∃s',qau XV [] qnn (mst k s B)=some (.normal,s')/\qad B.length [0,3] s'=some (mst (k/10) (dgt (k%10)++s) B):=by
 have hw:IntKind.i64.wrap (48+((k%10:Nat):Int))=48+((k%10:Nat):Int):=wrap_i64 (by omega) (by omega);have hw2:IntKind.u8.wrap (48+((k%10:Nat):Int))=48+((k%10:Nat):Int):=wrap_u8' (by omega) (by omega);have hb:=qFa (k:=k%10) (by omega);have ha:qeG .add (.str ⟨#[dgb (k%10)]⟩) (.str s)=some (.str (dgt (k%10)++s)):=qqZ (a:=dgt (k%10)) (by rw[qhS];omega);have c0:((0:Int)<(k:Int)):=by omega
 have hq:(k:Int).tdiv 10=((k/10:Nat):Int):=rfl;have hr:(k:Int).tmod 10=((k%10:Nat):Int):=rfl;have hwq:IntKind.i64.wrap ((k/10:Nat):Int)=((k/10:Nat):Int):=wrap_i64 (by omega) (by omega);unfold mst;generalize ((k:Nat):Int)=kk at*
 generalize ((k/10:Nat):Int)=q at*
 generalize ((k%10:Nat):Int)=r at*
 refine⟨⟨[(0,.d (.int .i64 q)),(3,.d (.str (dgt (k%10)++s)))],B⟩,by simp[qnn,qu0,qJy,qJx,c0,hq,hr,qtG,qtF,hw,hw2,hwq,hb,ha,qaV,List.replicate],qaY (e:=[]) (by simp) (by simp[qab]) rfl (by simp)⟩
theorem qNn(B:qam):∀(j k:Nat) (s:ByteArray),k<10^j->k<=4611686018427387904->s.size+j<=100->
 ∀s0,qad B.length [0,3] s0=some (mst k s B)->qbu XV [] B.length [0,3] qnn s0=some (.exit 0,⟨[(0,.d (.int .i64 0)),(3,.d (.str (qq6 k++s))),(7,.d (.bool false))],B⟩):=by
 intro j
 induction j with
 |zero=>
  intro k s hk hk2 hs s0 h0;obtain rfl:k=0:=by simpa using hk
  refine qa5 h0 ?_ (by simp);simp[mst,qnn,qu0,qq6,ByteArray.empty_append]
 |succ j ih=>
  intro k s hk hk2 hs s0 h0
  by_cases hz:k=0
  ·subst hz
   refine qa5 h0 ?_ (by simp);simp[mst,qnn,qu0,qq6,ByteArray.empty_append]
  ·obtain⟨s',hb,hh⟩:=qOX k hz hk2 s (by omega) B
   rw[qbB h0 hb];have:=ih (k/10) (dgt (k%10)++s) (by rw[Nat.pow_succ]at hk;omega) (by omega) (by rw[ByteArray.size_append,qhS];omega) s' hh;rw[this,qyW hz]
def qDu(k:Nat):ByteArray:=⟨#[109]⟩++qzC k
theorem qtg(k:Nat)(h0:0<k)(hk:k<=4611686018427387904)(B:qam):qac XV 294 [.d (.int .i64 k)] B=some (.d (.str (qDu k)),B):=by
 rw[qah XV _ _ _ qP7 rfl qAc rfl];have hl:=qNn B 20 k ByteArray.empty (by omega) hk (by decide) ⟨[(0,.d (.int .i64 k)),(3,.d (.str ByteArray.empty))],B⟩ (qaY (e:=[]) (by simp) (by simp[qab]) rfl (by simp));have hd:qq6 k++ByteArray.empty=qzC k:=by unfold qq6;rw[if_neg (by omega),ByteArray.append_empty]
 rw[hd]at hl;have hs:=qtM (n:=k) (by omega);have ha:qeG .add (.str ⟨#[109]⟩) (.str (qzC k))=some (.str (qDu k)):=qqZ (a:=⟨#[109]⟩) (by rw[show(⟨#[109]⟩:ByteArray).size=1 from rfl];omega);have c0:¬((k:Int)<=0):=by omega
 generalize ((k:Nat):Int)=kk at*
 simp[qP7,qJB,qJA,qJz,c0];simp only[show(⟨#[]⟩:ByteArray)=ByteArray.empty from rfl,hl];simp[qJw,ha]
def qbK:List SymL->List AV
 | []=>[]
 |x::r=> .d (.str x.name):: .d (.int .i64 x.arity):: .d (.bool x.ac)::qbK r
def tSy(b:Nat)(l:List SymL):AV:=if l=[]then .d (sg [])else .tsl true b 3 l.length
def bSy(l:List SymL):qam:=if l=[]then []else [some (qbK l)]
theorem qmr:∀l:List SymL,(qbK l).length=3*l.length
 | []=>rfl
 |x::r=>by simp[qbK,qmr r];omega
theorem qdN:∀a c:List SymL,qbK (a++c)=qbK a++qbK c
 | [],c=>rfl
 |x::r,c=>by simp[qbK,qdN r c]
theorem qpm(b:Nat):∀l:List SymL,qfG b (l.map SymL.enc)=(qbK l,[])
 | []=>rfl
 |x::r=>by
  rw[List.map_cons];simp only[qfG];have h:thw b x.enc=([.d (.str x.name),.d (.int .i64 x.arity),.d (.bool x.ac)],[]):=rfl;rw[h];simp only[List.length_nil,Nat.add_zero,qpm b r];rfl
theorem qA1(b:Nat)(l:List SymL):(sg l).thaw b=(tSy b l,bSy l):=by
 cases l with
 |nil=>rfl
 |cons x r=>
  have h:=qpm b (x::r);simp only[List.map_cons]at h;show qaT b (.sl .sub (x.enc::r.map SymL.enc))=_;simp only[qaT,thw,h,tSy,bSy];have ha:qyH x.enc=true:=rfl;simp[ha]
theorem qqM(f:AV->Option DV)(hf:∀v,f (.d v)=some v):∀l:List SymL,qji f (qbK l)=some (flat (l.map SymL.enc))
 | []=>rfl
 |x::r=>by
  have h:=qqM f hf r;simp only[qbK,qf3,hf,h,qf2,List.map_cons];rfl
theorem qN6(l:List SymL)(P Q:qam):AV.frz (P++bSy l++Q) (tSy P.length l)=some (sg l):=by
 by_cases hp:l=[]
 ·subst hp;simp[tSy,bSy,AV.frz,qlq]
 ·have hb:P++bSy l++Q=P++(some (qbK l)::Q):=by simp[bSy,hp]
  have hg:qcx (P++(some (qbK l)::Q)) P.length=some (qbK l):=by
   unfold qcx;rw[get_at]
  rw[hb];unfold tSy;rw[if_neg hp];obtain⟨m,hm⟩:∃m,(P++(some (qbK l)::Q)).length=m+1:=⟨P.length+Q.length,by simp;omega⟩;simp only[AV.frz];rw[hm];simp only[AV.frzC];rw[hg,Option.bind_some,qqM _ (fun v=>qlq _ _ v),Option.bind_some];have hok:=qii l;have hfl:(flat (l.map SymL.enc)).length=l.length*3:=by rw[qcj (fun x hx=>(hok x hx).1)];simp
  rw[if_pos hfl];have hch:=qc9 (l.map SymL.enc) hok;rw[List.length_map]at hch;rw[hch];rfl
theorem qOP(b:Nat)(l:List SymL):(tSy b l).clr=tSy b l:=by
 unfold tSy;split
 ·simp[AV.clr,DV.clr,DV.clrs]
 ·simp only[AV.clr]
def qNl(k:Nat):SymL:=⟨qDu k,((k+1:Nat):Int),((((k+2:Nat):Int).tmod 3)==0)⟩
def qor:Nat->Nat->List SymL
 |0,_=>[]
 |n+1,k=>qNl k::qor n (k+3)
theorem qjF:∀n k:Nat,(qor n k).length=n
 |0,k=>rfl
 |n+1,k=>by simp[qor,qjF n]
theorem qqt:∀n k:Nat,qor (n+1) k=qor n k++[qNl (k+3*n)]
 |0,k=>rfl
 |n+1,k=>by
  rw[qor,qqt n (k+3),qor];simp only[List.cons_append];rw[show k+3+3*n=k+3*(n+1)by omega]
def qGD(l:List SymL)(k i:Nat):List SymL:=qor i k++l.drop i
theorem qMc(l:List SymL)(k i:Nat)(hi:i<l.length):qbK (qGD l k i)=qbK (qor i k)++ .d (.str (qav l i).name):: .d (.int .i64 (qav l i).arity):: .d (.bool (qav l i).ac)::qbK (l.drop (i+1)):=by
 unfold qGD;rw[List.drop_eq_getElem_cons hi,qaq hi,qdN];rfl
theorem qAV(l:List SymL)(k i:Nat):qbK (qGD l k (i+1))=qbK (qor i k)++ .d (.str (qDu (k+3*i))):: .d (.int .i64 ((k+3*i+1:Nat):Int)):: .d (.bool ((((k+3*i+2:Nat):Int).tmod 3)==0))::qbK (l.drop (i+1)):=by
 unfold qGD;rw[qqt,qdN,qdN];simp[qbK,qNl]
theorem rp2(C1 C2:List AV)(f v w x:AV)(i:Nat)(h:C1.length=i*3):splice (C1++f::v::w::C2) (i*3+2) [x]=C1++f::v::x::C2:=by
 have:=spA (C1++[f,v]) C2 w x;simp only[yg_,List.length_cons,List.length_nil,yh_,List.cons_append,List.nil_append,Nat.zero_add]at this;rw[<-h];exact this
theorem qyO(k:IntKind)(x:Int):qdJ .rem k x 3=some (.int k (x.tmod 3)):=rfl
theorem qDs(S B1:qam)(ix n i k:Nat)(C1 C2:List AV)(f v w:AV)(hS:S.length=ix)(hi:i<n)(hn:n<=1099511627776)(hC:C1.length=i*3)(h0:0<k)(hk:k+3<=4611686018427387904):
 qau XV [] qlR ⟨[(0,.tsl true ix 3 n),(1,.d (.int .i64 (k:Int))),(5,.d (.int .i64 (i:Int)))],S++some (C1++f::v::w::C2)::B1⟩=
  some (.normal,⟨[(0,.tsl true ix 3 n),(1,.d (.int .i64 ((k+3:Nat):Int))),(5,.d (.int .i64 ((i+1:Nat):Int)))],S++some (C1++ .d (.str (qDu k)):: .d (.int .i64 ((k+1:Nat):Int)):: .d (.bool ((((k+2:Nat):Int).tmod 3)==0))::C2)::B1⟩):=by
 have hw:=qaf (n:=i) (by omega);have hw1:=qaf (n:=k) (by omega);have hw2:=qaf (n:=k+1) (by omega);have hw3:=qaf (n:=k+2) (by omega);have hget:∀(c:List AV) (r:qam),(S++some c::r)[ix]?=some (some c):=fun c r=>by rw[<-hS];exact get_at S (some c) r
 have hset:∀(c d:List AV) (r:qam),(S++some c::r).set ix (some d)=S++some d::r:=fun c d r=>by rw[<-hS];exact qBi S (some c) (some d) r
 have s0:=fun x=>sp0 C1 (v::w::C2) f x i hC
 have s1:=fun a x=>sp1 C1 (w::C2) a v x i hC
 have s2:=fun a b x=>rp2 C1 C2 a b w x i hC
 have le0:i*3+1<=C1.length+(C2.length+1+1+1):=by omega
 have le1:i*3+1+1<=C1.length+(C2.length+1+1+1):=by omega
 have le2:i*3+2+1<=C1.length+(C2.length+1+1+1):=by omega
 have hm:=fun B=>qtg k h0 (by omega) B
 generalize ((k:Nat):Int)=K0 at*
 generalize ((k+1:Nat):Int)=K1 at*
 generalize ((k+2:Nat):Int)=K2 at*
 generalize ((k+2+1:Nat):Int)=K3 at*
 simp[qlR,qv7,qv5,qv4,qv3,qv2,qv1,qv0,qv6,hi,hw,hw1,hw2,hw3,hget,hset,s0,s1,s2,le0,le1,le2,hm,qyO]
theorem qti(l:List SymL)(hl:l.length<=1099511627776)(k:Nat)(h0:0<k)(hk:k+3*l.length<=4611686018427387904)(B0 B1:qam):
 qac XV 243 [tSy B0.length l,.d (.int .i64 (k:Int))] (B0++bSy l++B1)=some (.d (.int .i64 ((k+3*l.length:Nat):Int)),B0++bSy (qor l.length k)++B1):=by
 rw[qah XV _ _ _ qPf rfl qAv rfl]
 by_cases hne:l=[]
 ·subst hne
  have h:=qag (X:=XV) (T:=[]) (L:=(B0++B1).length) (live:=[0,1,5]) (b:=qlR) (n:=0) (β:=Unit) (γ:=Unit) (st:=fun _ i=>⟨[(0,.d (.sl .sub [])),(1,.d (.int .i64 k)),(5,.d (.int .i64 i))],B0++B1⟩) (step:=fun _ _=> .inl ())
   (F:=fun _=>(.exit 0,⟨[(0,.d (.sl .sub [])),(1,.d (.int .i64 k)),(5,.d (.int .i64 0)),(9,.d (.bool false))],B0++B1⟩)) (R:=fun _=>(.ret,⟨[],[]⟩)) (fun a=>⟨by simp,by simp[qlR,qv7,qv5,qv4,qv3,qv2,qv1,qv0,qv6]⟩) (fun a i hi=>by omega) 0 () 0 ⟨[(0,.d (.sl .sub [])),(1,.d (.int .i64 k)),(5,.d (.int .i64 0))],B0++B1⟩ rfl (qaY (e:=[]) (by simp) (by simp[qab]) rfl (by simp))
  simp only[runN,yg_]at h;have htk:List.take (B0.length+B1.length) (B0++B1)=B0++B1:=List.take_of_length_le (by simp);simp[tSy,bSy,qor,sg,qPf,qCu,qCt,qsQ];rw[h];simp[htk]
 ·have hmn:qor l.length k≠[]:=fun h=>by
   have:=qjF l.length k;rw[h]at this;exact hne (List.length_eq_zero_iff.1 this.symm)
  have h:=qag (X:=XV) (T:=[]) (L:=B0.length+(B1.length+1)) (live:=[0,1,5]) (b:=qlR) (n:=l.length) (γ:=Unit) (st:=fun(_:Unit) i=>⟨[(0,.tsl true B0.length 3 l.length),(1,.d (.int .i64 ((k+3*i:Nat):Int))),(5,.d (.int .i64 i))],B0++some (qbK (qGD l k i))::B1⟩) (step:=fun _ _=> .inl ())
   (F:=fun _=>(.exit 0,⟨[(0,.tsl true B0.length 3 l.length),(1,.d (.int .i64 ((k+3*l.length:Nat):Int))),(5,.d (.int .i64 l.length)),(9,.d (.bool false))],B0++some (qbK (qGD l k l.length))::B1⟩)) (R:=fun _=>(.ret,⟨[],[]⟩))
   (fun _=>⟨by simp,by generalize ((k+3*l.length:Nat):Int)=K;simp[qlR,qv7,qv5,qv4,qv3,qv2,qv1,qv0,qv6]⟩)
   (fun _ i hi=>by
    have hst:=qDs B0 B1 B0.length l.length i (k+3*i) (qbK (qor i k)) (qbK (l.drop (i+1))) (.d (.str (qav l i).name)) (.d (.int .i64 (qav l i).arity)) (.d (.bool (qav l i).ac)) rfl hi hl (by rw[qmr,qjF];omega) (by omega) (by omega);rw[<-qMc l k i hi,<-qAV l k i,show k+3*i+3=k+3*(i+1)by omega]at hst;exact⟨_,hst,qaY (e:=[]) (by simp) (by simp[qab,qaK]) (by simp) (by simp)⟩)
   l.length () 0 ⟨[(0,.tsl true B0.length 3 l.length),(1,.d (.int .i64 (k:Int))),(5,.d (.int .i64 0))],B0++some (qbK l)::B1⟩ (by omega) (qaY (e:=[]) (by simp) (by simp[qab,qaK]) (by simp) (by simp[qGD,qor]))
  rw[qef]at h;have hall:qGD l k l.length=qor l.length k:=by simp[qGD]
  rw[hall]at h;have htk:∀c:List AV,List.take (B0.length+(B1.length+1)) (B0++some c::B1)=B0++some c::B1:=fun c=>List.take_of_length_le (by simp)
  generalize ((k+3*l.length:Nat):Int)=Kn at h⊢
  simp[tSy,bSy,hne,qPf,qCu,qCt,qsQ];rw[h];simp[hmn,htk]
theorem qUv(l:List SymL)(k:Nat):(bSy (qor l.length k)).length=(bSy l).length:=by
 unfold bSy;have:=qjF l.length k
 by_cases h:l=[]
 ·subst h;rfl
 ·have h2:qor l.length k≠[]:=fun h2=>by rw[h2]at this;exact h (List.length_eq_zero_iff.1 this.symm)
  simp[h,h2]
theorem qnu:∀l:List SymL,DV.allUs (l.map SymL.enc)=true
 | []=>rfl
 |x::r=>by
  have h2:DV.allUs ((x::r).map SymL.enc)=(x.enc.allU&&DV.allUs (r.map SymL.enc)):=rfl;rw[h2,qnu r];rfl
theorem qzw(l:List SymL):(DV.sl U (l.map SymL.enc)).allUT=true:=by
 cases l with
 |nil=>rfl
 |cons x r=>
  have h2:(DV.sl U ((x::r).map SymL.enc)).allUT=(decide (U=U)&&DV.allUs ((x::r).map SymL.enc)):=rfl;rw[h2,qnu];simp
theorem qa0(C1 C2:List AV)(f:AV)(i:Nat)(h:C1.length=i*4):(C1++f::C2)[i*4]?=some f:=by rw[<-h];simp
theorem qa1(C1 C2:List AV)(f v:AV)(i:Nat)(h:C1.length=i*4):(C1++f::v::C2)[i*4+1]?=some v:=by
 rw[<-h,yd_ (by omega)];simp
theorem qa2(C1 C2:List AV)(f v w:AV)(i:Nat)(h:C1.length=i*4):(C1++f::v::w::C2)[i*4+1+1]?=some w:=by
 rw[<-h,yd_ (by omega),show C1.length+1+1-C1.length=2 by omega];rfl
theorem qDV(S B1:qam)(ix n i:Nat)(K0 K1 K2 K3 Kn:Int)(C1 C2:List AV)(row:AV)(hS:S.length=ix)(hi:i<n)(hn:n<=1099511627776)(hC:C1.length=i*4)(hw1:IntKind.i64.wrap (K0+1)=K1)(hw2:IntKind.i64.wrap (K1+1)=K2)(hw3:IntKind.i64.wrap (K2+1)=K3)(hrow:row.clr=row)(hKn:¬Kn<0)
 (hcall:qac XV 292 [row,.d (.int .i64 K3)] (S++some (C1++ .d (.int .i64 K0):: .d (.int .i64 K1):: .d (.int .i64 K2)::row::C2)::B1)=some (.d (.int .i64 Kn),S++some (C1++ .d (.int .i64 K0):: .d (.int .i64 K1):: .d (.int .i64 K2)::row::C2)::B1)):
 qau XV (XV.lin 291) qlP ⟨[(0,.tsl true ix 4 n),(1,.d (.int .i64 K0)),(5,.d (.int .i64 (i:Int)))],S++some (C1++ .d (.int .i64 K0):: .d (.int .i64 K1):: .d (.int .i64 K2)::row::C2)::B1⟩=
  some (.normal,⟨[(0,.tsl true ix 4 n),(1,.d (.int .i64 Kn)),(5,.d (.int .i64 ((i+1:Nat):Int)))],S++some (C1++ .d (.int .i64 K0):: .d (.int .i64 K1):: .d (.int .i64 K2)::row::C2)::B1⟩):=by
 have hw:=qaf (n:=i) (by omega);have hget:∀(c:List AV) (r:qam),(S++some c::r)[ix]?=some (some c):=fun c r=>by rw[<-hS];exact get_at S (some c) r
 have g0:=fun a=>qa0 C1 (.d (.int .i64 K1):: .d (.int .i64 K2)::row::C2) a i hC
 have g1:=fun a b=>qa1 C1 (.d (.int .i64 K2)::row::C2) a b i hC
 have g2:=fun a b c=>qa2 C1 (row::C2) a b c i hC
 have g3:=fun a b c=>qa3 C1 C2 a b c row i hC
 simp[qlP,qvo,qvm,qvl,qvk,qvj,qvi,qvh,qn7,qn6,qn5,qn4,qn3,qn2,qvn,hi,hw,hw1,hw2,hw3,hget,g0,g1,g2,g3,hrow,hKn,hcall]
theorem qmX:∀(a c:List Bd) (k:Nat),mkB (a++c) k=mkB a k++mkB c (k+qb1 a)
 | [],c,k=>by simp[mkB,qb1]
 |t::r,c,k=>by
  simp only[List.cons_append,mkB,qmX r,qb1]
  congr 3;omega
theorem qqH(l:List Bd)(hl:l.length<=1099511627776)(hb:∀i,i<l.length->(bAt l i).t.inner<=1099511627776)(k:Nat)(hk:k+qb1 l<=4611686018427387904)(B0 B1:qam):
 qac XV 291 [tBs B0.length l,.d (.int .i64 (k:Int))] (B0++bBs B0.length (mkB l k)++B1)=some (.d (.int .i64 ((k+qb1 l:Nat):Int)),B0++bBs B0.length (mkB l k)++B1):=by
 rw[qah XV _ _ _ qPa rfl qAf rfl]
 by_cases hne:l=[]
 ·subst hne
  have h:=qag (X:=XV) (T:=XV.lin 291) (L:=(B0++B1).length) (live:=[0,1,5]) (b:=qlP) (n:=0) (β:=Unit) (γ:=Unit) (st:=fun _ i=>⟨[(0,.d (.sl .sub [])),(1,.d (.int .i64 k)),(5,.d (.int .i64 i))],B0++B1⟩) (step:=fun _ _=> .inl ())
   (F:=fun _=>(.exit 0,⟨[(0,.d (.sl .sub [])),(1,.d (.int .i64 k)),(5,.d (.int .i64 0)),(9,.d (.bool false))],B0++B1⟩)) (R:=fun _=>(.ret,⟨[],[]⟩)) (fun a=>⟨by simp,by simp[qlP,qvo,qvm,qvl,qvk,qvj,qvi,qvh,qn7,qn6,qn5,qn4,qn3,qn2,qvn]⟩) (fun a i hi=>by omega) 0 () 0 ⟨[(0,.d (.sl .sub [])),(1,.d (.int .i64 k)),(5,.d (.int .i64 0))],B0++B1⟩ rfl (qaY (e:=[]) (by simp) (by simp[qab]) rfl (by simp))
  simp only[runN,yg_,qDB]at h;have htk:List.take (B0.length+B1.length) (B0++B1)=B0++B1:=List.take_of_length_le (by simp);simp[tBs,bBs,mkB,qb1,binds,qPa,qB5,qB4,qsO];rw[h];simp[htk]
 ·have hmn:mkB l k≠[]:=fun h=>hne (by have:=qiv l k;rw[h]at this;exact List.length_eq_zero_iff.1 this.symm)
  simp only[tBs,bBs,if_neg hne,if_neg hmn];have hlen:(B0++T.bxs B0.length (ts (mkB l k))).length=B0.length+T.nbs (ts l):=by rw[yg_,qbi,qiu]
  have h:=qag (X:=XV) (T:=XV.lin 291) (L:=B0.length+T.nbs (ts l)+(B1.length+1)) (live:=[0,1,5]) (b:=qlP) (n:=l.length) (γ:=Unit) (st:=fun(_:Unit) i=>⟨[(0,.tsl true (B0.length+T.nbs (ts l)) 4 l.length),(1,.d (.int .i64 ((k+qb1 (l.take i):Nat):Int))),(5,.d (.int .i64 i))],(B0++T.bxs B0.length (ts (mkB l k)))++some (qaP B0.length (mkB l k))::B1⟩) (step:=fun _ _=> .inl ())
   (F:=fun _=>(.exit 0,⟨[(0,.tsl true (B0.length+T.nbs (ts l)) 4 l.length),(1,.d (.int .i64 ((k+qb1 l:Nat):Int))),(5,.d (.int .i64 l.length)),(9,.d (.bool false))],(B0++T.bxs B0.length (ts (mkB l k)))++some (qaP B0.length (mkB l k))::B1⟩)) (R:=fun _=>(.ret,⟨[],[]⟩))
   (fun _=>⟨by simp,by rw[List.take_length];generalize ((k+qb1 l:Nat):Int)=K;simp[qlP,qvo,qvm,qvl,qvk,qvj,qvi,qvh,qn7,qn6,qn5,qn4,qn3,qn2,qvn]⟩)
   (fun _ i hi=>by
    have hkt:k+qb1 (l.take (i+1))<=4611686018427387904:=by have:=qET l (i+1);omega
    have hct:=qrd l i hi;have hin:=hb i hi;have hsp:mkB l k=mkB (l.take i) k++qqu (bAt l i) (k+qb1 (l.take i))::mkB (l.drop (i+1)) (k+qb1 (l.take (i+1))):=by
     have:l=l.take (i+1)++l.drop (i+1):=(List.take_append_drop _ _).symm;rw[this,qmX,qIN l i hi,qos];rw[<-qIN l i hi,<-this];simp
    have hr:=qm3 (bAt l i).t.kids (by rw[qba];exact hin) (k+qb1 (l.take i)+3) (by rw[qba];omega) (B0++T.bxs B0.length (ts (mkB (l.take i) k))) (T.bxs (B0.length+T.nbs (ts (mkB (l.take i) k))+qes (bAt l i).t.kids) (ts (mkB (l.drop (i+1)) (k+qb1 (l.take (i+1)))))++some (qaP B0.length (mkB l k))::B1);rw[qba]at hr;have hl0:(B0++T.bxs B0.length (ts (mkB (l.take i) k))).length=B0.length+T.nbs (ts (mkB (l.take i) k)):=by rw[yg_,qbi]
    rw[hl0]at hr;have c2:=qiI (mkB (l.take i) k) (mkB (l.drop (i+1)) (k+qb1 (l.take (i+1)))) (qqu (bAt l i) (k+qb1 (l.take i))) B0.length;have b2:=qr7 (mkB (l.take i) k) (mkB (l.drop (i+1)) (k+qb1 (l.take (i+1)))) (qqu (bAt l i) (k+qb1 (l.take i))) B0.length;have mf:∀x k,(qqu x k).v=(k:Int)/\(qqu x k).t.f=((k+1:Nat):Int)/\(qqu x k).t.v=((k+2:Nat):Int)/\(qqu x k).t.kids=T.marks (k+3) x.t.kids:=fun x k=>⟨rfl,rfl,rfl,rfl⟩
    rw[(mf _ _).2.2.2,qbL,<-hsp]at b2;rw[(mf _ _).1,(mf _ _).2.1,(mf _ _).2.2.1,(mf _ _).2.2.2,qbL,qgf,<-hsp]at c2;have hS':(B0++T.bxs B0.length (ts (mkB (l.take i) k)))++qdK (B0.length+T.nbs (ts (mkB (l.take i) k))) (T.marks (k+qb1 (l.take i)+3) (bAt l i).t.kids)++(T.bxs (B0.length+T.nbs (ts (mkB (l.take i) k))+qes (bAt l i).t.kids) (ts (mkB (l.drop (i+1)) (k+qb1 (l.take (i+1)))))++some (qaP B0.length (mkB l k))::B1)=(B0++T.bxs B0.length (ts (mkB l k)))++some (qaP B0.length (mkB l k))::B1:=by rw[b2];simp only[yh_]
    rw[hS']at hr;rw[show k+qb1 (l.take i)+3+2*(bAt l i).t.inner=k+qb1 (l.take (i+1))by omega]at hr;rw[c2]at hr;have hst:=qDV (B0++T.bxs B0.length (ts (mkB l k))) B1 (B0.length+T.nbs (ts l)) l.length i ((k+qb1 (l.take i):Nat):Int) ((k+qb1 (l.take i)+1:Nat):Int) ((k+qb1 (l.take i)+2:Nat):Int) ((k+qb1 (l.take i)+3:Nat):Int) ((k+qb1 (l.take (i+1)):Nat):Int)
     (qaP B0.length (mkB (l.take i) k)) (qaP (B0.length+T.nbs (ts (mkB (l.take i) k))+qes (bAt l i).t.kids) (mkB (l.drop (i+1)) (k+qb1 (l.take (i+1))))) (qd3 (B0.length+T.nbs (ts (mkB (l.take i) k))) (bAt l i).t.kids) hlen hi hl
     (by rw[qiJ,qiv,List.length_take];omega) (qaf (by omega)) (qaf (by omega)) (qaf (by omega)) (qfo _ _) (by omega) hr
    rw[<-c2]at hst;exact⟨_,hst,qaY (e:=[]) (by simp) (by simp[qab,qaK]) (by rw[yg_,hlen];simp) (by simp)⟩)
   l.length () 0 ⟨[(0,.tsl true (B0.length+T.nbs (ts l)) 4 l.length),(1,.d (.int .i64 (k:Int))),(5,.d (.int .i64 0))],(B0++T.bxs B0.length (ts (mkB l k)))++some (qaP B0.length (mkB l k))::B1⟩ (by omega) (qaY (e:=[]) (by simp[qb1]) (by simp[qab,qaK]) (by rw[yg_,hlen];simp) (by simp))
  rw[qef]at h;simp only[qDB]at h;have hap:∀(X:qam) (c:List AV),B0++(X++[some c])++B1=(B0++X)++some c::B1:=fun X c=>by simp
  rw[hap];have hln3:((B0++T.bxs B0.length (ts (mkB l k)))++some (qaP B0.length (mkB l k))::B1).length=B0.length+T.nbs (ts l)+(B1.length+1):=by
   have:=qiu l k;simp only[yg_,qbi,List.length_cons,this]
  generalize hQ':(B0++T.bxs B0.length (ts (mkB l k)))++some (qaP B0.length (mkB l k))::B1=Q' at h hln3⊢
  generalize ((k+qb1 l:Nat):Int)=Kn at h⊢
  rw[<-hln3]at h;simp[qPa,qB5,qB4,qsO];rw[h];simp
theorem qYR(a b:Nat):(a+(b+1)<=a)=False:=by simp
structure ThS(l:List SymL)(b:Nat)(y:AV)(R R':qam)(k K:Nat):Prop where
 th:(sg l).thaw b=(y,R)
 cl:y.clr=y
 sf:∀m,b+R.length<=m->y.safe m=true
 ic:y.isCell=true
 len:R'.length=R.length
 frz:∀P Q:qam,P.length=b->AV.frz (P++(R++Q)) y=some (sg l)
 mark:∀P Q:qam,P.length=b->qac XV 243 [y,.d (.int .i64 (k:Int))] (P++(R++Q))=some (.d (.int .i64 (K:Int)),P++(R'++Q))
theorem qG1(b m:Nat)(l:List SymL)(h:b+(bSy l).length<=m):(tSy b l).safe m=true:=by
 unfold tSy
 by_cases hl:l=[]
 ·simp[hl]
 ·simp only[hl,if_false];simp[bSy,hl]at h;simp[qaK];omega
theorem qyE(b:Nat)(l:List SymL):(tSy b l).isCell=true:=by unfold tSy;split<;>rfl
theorem qQz(l:List SymL)(hl:l.length<=1099511627776)(b k:Nat)(h0:0<k)(hk:k<=1000000000000):∃y R R',ThS l b y R R' k (k+3*l.length):=
 ⟨tSy b l,bSy l,bSy (qor l.length k),qA1 b l,qOP b l,fun m h=>qG1 b m l h,qyE b l,qUv l k,
  fun P Q hP=>by subst hP;rw[<-yh_];exact qN6 l P Q,
  fun P Q hP=>by subst hP;rw[<-yh_,<-yh_];exact qti l hl k h0 (by omega) P Q⟩
structure ThT(t:T)(b:Nat)(row y:AV)(R R':qam)(k K:Nat):Prop where
 th:(t.enc .sub).thaw b=(.ag false [.d (.int .i64 t.f),.d (.int .i64 t.v),row],R)
 cl:row.clr=row
 cly:y.clr=y
 sf:∀m,b+R.length<=m->row.safe m=true
 ic:row.isCell=true
 pl:row.plainT=true
 len:R'.length=R.length
 ag:qiG [.d (.int .i64 t.f),.d (.int .i64 t.v),row] (qtR (.int .i64 t.f) (qtR (.int .i64 t.v) (qaF [row])))=some y
 frz:∀P Q:qam,P.length=b->AV.frz (P++(R++Q)) y=some (t.enc .sub)
 mark:∀P Q:qam,P.length=b->qac XV 308 [y,.d (.int .i64 (k:Int))] (P++(R++Q))=some (.d (.int .i64 (K:Int)),P++(R'++Q))
theorem qI2(t:T)(ht:t.inner<=1099511627776)(b k:Nat)(hk:k<=1000000000000):∃row y R R',ThT t b row y R R' k (k+2*t.inner):=
 ⟨qd3 b t.kids,tAg b t,qdK b t.kids,qdK b (T.marks k t.kids),qA0 t b,qfo b t.kids,qA4 b t,fun m h=>qpz m b t.kids (by rw[qem]at h;exact h),qlo b t.kids,qyd b t.kids,
  by rw[qem,qem,qbL],qQB b t,
  fun P Q hP=>by subst hP;rw[<-yh_];exact qN8 t P Q,
  fun P Q hP=>by subst hP;rw[<-yh_,<-yh_];exact qth t ht k hk P Q⟩
structure ThB(l:List Bd)(b:Nat)(y:AV)(R R':qam)(k K:Nat):Prop where
 th:(binds .sub l).thaw b=(y,R)
 cl:y.clr=y
 sf:∀m,b+R.length<=m->y.safe m=true
 ic:y.isCell=true
 len:R'.length=R.length
 frz:∀P Q:qam,P.length=b->AV.frz (P++(R++Q)) y=some (binds .sub l)
 mark:∀P Q:qam,P.length=b->qac XV 293 [y,.d (.int .i64 (k:Int))] (P++(R++Q))=some (.d (.int .i64 (K:Int)),P++(R'++Q))
theorem qt3(b:Nat)(l:List Bd):(bBs b l).length=if l=[]then 0 else T.nbs (ts l)+1:=by
 unfold bBs;split<;>simp[qbi]
theorem qG2(b m:Nat)(l:List Bd)(h:b+(bBs b l).length<=m):(tBs b l).safe m=true:=by
 rw[qt3]at h;unfold tBs
 by_cases hl:l=[]
 ·simp[hl]
 ·simp only[hl,if_false]at h⊢;simp[qaK];omega
theorem qNm(l:List Bd)(b k:Nat):(bBs b (mkB l k)).length=(bBs b l).length:=by
 rw[qt3,qt3,qiu];have:=qiv l k
 by_cases hl:l=[]
 ·subst hl;rfl
 ·rw[if_neg hl,if_neg (fun h=>hl (by rw[h]at this;exact List.length_eq_zero_iff.1 this.symm))]
theorem qMh(l:List Bd)(hl:l.length<=1099511627776)(hb:∀i,i<l.length->(bAt l i).t.inner<=1099511627776)(b k:Nat)(hk:k+qb1 l<=4611686018427387904):∃y R R',ThB l b y R R' k (k+qb1 l)/\∀P Q:qam,P.length=b->qac XV 291 [y,.d (.int .i64 (k:Int))] (P++(R'++Q))=some (.d (.int .i64 ((k+qb1 l:Nat):Int)),P++(R'++Q)):=
 have hmk:∀B0:Nat,(if l=[]then([]:qam)else T.bxs B0 (ts (mkB l k))++[some (qaP B0 (mkB l k))])=bBs B0 (mkB l k):=fun B0=>by
  unfold bBs;have:=qiv l k
  by_cases hl:l=[]
  ·subst hl;rfl
  ·rw[if_neg hl,if_neg (fun h=>hl (by rw[h]at this;exact List.length_eq_zero_iff.1 this.symm))]
 ⟨tBs b l,bBs b l,bBs b (mkB l k),⟨qxN b l,qOQ b l,fun m h=>qG2 b m l h,by unfold tBs;split<;>rfl,
  qNm l b k,
  fun P Q hP=>by subst hP;rw[<-yh_];exact qN7 l P Q,
  fun P Q hP=>by subst hP;rw[<-yh_,<-yh_];have:=qqv l hl hb k hk P Q;rw[hmk]at this;exact this⟩,fun P Q hP=>by subst hP;rw[<-yh_];exact qqH l hl hb k hk P Q⟩
def IsV(d:DV)(a:T):Prop:=∃(g:Tag) (X:List DV),d= .agg [.int .i64 a.f,.int .i64 a.v,.sl g X]/\X.map DV.clr=a.kids.map (T.enc .sub)
theorem qDQ(s:List SymL)(t:T):IsV (nM s t) (t.norm s):=⟨U,qzz s t,by rw[qqs,qDp,qDo],qw5 s t⟩
theorem qDR(g:Tag)(t:T):IsV (t.enc g) t:=⟨g,t.kids.map (T.enc g),by rw[T.qbD],qd5 g _⟩
theorem qDM(ks:List T)(hl:qaQ ks<=1099511627776):qac XV 197 [.d (qaa .sub ks)] []=some (.d (qaa U ks),[]):=by
 have hlen:=qdg ks;have hc:∀t,t∈ks->qac XV 146 [.d (t.enc .sub)] []=some (.d (t.enc U),[]):=fun t ht=>qf0 t (by have:=qbA ht;omega)
 rw[qah XV _ _ _ qQj rfl qAw rfl];have hloop:=qag (X:=XV) (T:=XV.lin 197) (L:=0) (live:=[0,3,4]) (b:=qxi) (n:=ks.length) (γ:=Unit) (st:=fun(_:Unit) i=>⟨[(0,.d (qaa .sub ks)),(3,.d (.sl U ((ks.take i).map (T.enc U)))),(4,.d (.int .i64 i))],[]⟩) (step:=fun _ _=> .inl ())
  (F:=fun _=>(.exit 0,⟨[(0,.d (qaa .sub ks)),(3,.d (.sl U ((ks.take ks.length).map (T.enc U)))),(4,.d (.int .i64 ks.length)),(9,.d (.bool false))],[]⟩)) (R:=fun _=>(.ret,⟨[],[]⟩))
  (fun _=>⟨by simp,by simp[qxi,qCx,qCv,qCw]⟩)
  (fun _ i hi=>by
   have hw:=qaf (n:=i) (by omega);have hc':=hc _ (qaw hi);have ha:=qoW ks i hi (by omega);generalize hl2:(ks.take (i+1)).map (T.enc U)=l2 at ha;generalize (ks.take i).map (T.enc U)=l1 at ha⊢
   exact⟨⟨[(0,.d (qaa .sub ks)),(3,.d (.sl U l2)),(4,.d (.int .i64 (i+1:Nat)))],[]⟩,by simp[qxi,qCx,qCv,qCw,hi,hw,cut,qap hi,hc',ha,qae,qai],by simp[qad,qab,<-hl2]⟩)
  ks.length () 0 ⟨[(0,.d (qaa .sub ks)),(3,.d (.sl U [])),(4,.d (.int .i64 0))],[]⟩ (by omega) (by simp[qad,qab])
 rw[qef,List.take_length]at hloop;simp only[qNM]at hloop;simp[qQj,qKb,qKa,qJ9];rw[hloop];simp[qJ8]
theorem qNV(f:Int)(ks:List T):qac XV 164 [.d (.int .i64 f),.d (qaa .sub ks)] []=some (.d ((T.node f 0 ks).enc .sub),[]):=by
 rw[qah XV _ _ _ qQm rfl qAB rfl];simp[qQm,qKq,qKp,splice,qae,qai,qal,qaC,qak]
def qcR(s:List SymL)(f:Int)(ks:List T):T:=
 if qaM s f=true/\ks.length=0 then .node 0 0 []
 else if qaM s f=true/\ks.length=1 then(tAt ks 0).norm s
 else if qdz s f=true then(T.node f 0 ks).norm s else .node f 0 ks
theorem qlh(s:List SymL)(f:Int)(ks:List T):(qcR s f ks).inner<=qaQ ks:=by
 unfold qcR;split
 ·simp[T.inner,T.inners]
 ·split
  ·rename_i h
   have h1:=qeE s (tAt ks 0);have h2:=qbA (qaw (l:=ks) (i:=0) (by omega));omega
  ·split
   ·have:=qeE s (T.node f 0 ks);rw[T.qdc]at this;exact this
   ·rw[T.qdc];omega
theorem qo8(g:Tag):(T.node 0 0 []).enc g= .agg [.int .i64 0,.int .i64 0,.sl g []]:=by rw[T.qbD];rfl
theorem qtt(s:List SymL)(hs:s.length<=1099511627776)(f:Int)(ks:List T)(hl:qaQ ks<=1099511627776):qac XV 192 [.d (sg s),.d (.int .i64 f),.d (qaa .sub ks)] []=some (.d ((qcR s f ks).enc U),[]):=by
 have hsy:=qox s hs f;have hcp:=qrb ks hl;have hn:=qgN s hs (T.node f 0 ks) (by rw[T.qdc];exact hl);rw[qah XV _ _ _ qGz rfl qAy rfl];unfold qcR
 by_cases c1:qdz s f=true
 ·obtain⟨g1,g2⟩:=qed c1
  have hsa:=qaq g2;have hbl:qaM s f=(qav s f.toNat).ac:=by unfold qaM;rw[c1];rfl
  rw[hbl];cases c2:(qav s f.toNat).ac with
  |false=>
   simp only[Bool.false_eq_true,false_and,if_false,c1,if_true];generalize (T.node f 0 ks).norm s=a at*
   simp[qGz,qmT,qmS,qmR,qmQ,qmP,qmO,qmN,qmM,hsy,c1,c2,g1,g2,hsa,cut,hn,splice,qae,qai,qal,qaC,qak]
  |true=>
   simp only[true_and]
   by_cases c3:ks.length=0
   ·rw[if_pos c3]
    have c3':(ks.length:Int)=0:=by omega
    generalize hm:(ks.length:Int)=m at*
    rw[qo8];simp[qGz,qmT,qmS,qmR,qmQ,qmP,qmO,qmN,qmM,hsy,c1,c2,g1,g2,hsa,hm,c3',cut,splice,qae,qai,qal,qaC,qak]
   ·rw[if_neg c3]
    by_cases c4:ks.length=1
    ·rw[if_pos c4]
     have h0:0<ks.length:=by omega
     have hn2:=qgN s hs (tAt ks 0) (by have:=qbA (qaw h0);omega);have h6:ks[0]=tAt ks 0:=qap h0;have c4':(ks.length:Int)=1:=by omega
     generalize (tAt ks 0).norm s=a at*
     generalize hm:(ks.length:Int)=m at*
     simp[qGz,qmT,qmS,qmR,qmQ,qmP,qmO,qmN,qmM,hsy,c1,c2,g1,g2,hsa,hm,c4',h0,cut,hn2,h6,splice,qae,qai,qal,qaC,qak]
    ·rw[if_neg c4,if_pos c1]
     have e3:((ks.length:Int)==0)=false:=beq_false_of_ne (by omega);have e4:((ks.length:Int)==1)=false:=beq_false_of_ne (by omega);generalize (T.node f 0 ks).norm s=a at*
     generalize hm:(ks.length:Int)=m at*
     simp[qGz,qmT,qmS,qmR,qmQ,qmP,qmO,qmN,qmM,hsy,c1,c2,g1,g2,hsa,hm,e3,e4,cut,hn,splice,qae,qai,qal,qaC,qak]
 ·have hbl:qaM s f=false:=by unfold qaM;simp[c1]
  have c1':qdz s f=false:=by simpa using c1
  simp only[hbl,Bool.false_eq_true,false_and,if_false,c1'];simp only[qaa]at*
  rw[T.qbD];simp[qGz,qmT,qmS,qmR,qmQ,qmP,qmO,qmN,qmM,hsy,c1',hcp,splice,qae,qai,qal,qaC,qak]
theorem IsV.clr{d:DV}{a:T}(h:IsV d a):d.clr=a.enc .sub:=by
 obtain⟨g,X,rfl,hX⟩:=h;simp only[DV.clr,DV.clrs];rw[DV.qaA,hX,T.qbD]
theorem qsg(s:List SymL)(hs:s.length<=1099511627776)(f:Int)(ks:List T)(hl:qaQ ks<=1099511627776):∃d,qac XV 193 [.d (sg s),.d (.int .i64 f),.d (qaa .sub ks)] []=some (.d d,[])/\IsV d (qcR s f ks):=by
 have hb:=qee s hs f;have hin:=qgM f 0 (s.length-1);have hcp:=qDM ks hl;have ho:=qNV f ks;have hn:=qgE s hs (T.node f 0 ks) (by rw[T.qdc];exact hl);have hw:IntKind.i64.wrap ((s.length:Int)-1)=s.length-1:=wrap_i64 (by omega) (by omega);rw[qah XV _ _ _ qGy rfl qAx rfl];unfold qcR;cases c2:qaM s f with
 |false=>
  simp only[Bool.false_eq_true,false_and,if_false];cases c1:qdz s f with
  |true=>
   simp only[if_true];refine⟨_,?_,qDQ s _⟩;rw[qqs]at hn⊢
   generalize qzz s (T.node f 0 ks)=X at*
   rw[show inB f 0 (s.length-1)=true from c1]at hin;simp[qGy,qmL,qmK,qmJ,qmI,qmH,qmG,qmF,qmE,hb,c2,hw,hin,ho,hn,splice,qae,qai,qal,qaC,qak]
  |false=>
   simp only[Bool.false_eq_true,if_false];refine⟨_,?_,qDR .sub _⟩;rw[show inB f 0 (s.length-1)=false from c1]at hin;simp[qGy,qmL,qmK,qmJ,qmI,qmH,qmG,qmF,qmE,hb,c2,hw,hin,ho,hcp,splice,qae,qai,qal,qaC,qak]
 |true=>
  have c1:qdz s f=true:=by unfold qaM at c2;simp only[Bool.and_eq_true]at c2;exact c2.1
  simp only[true_and]
  by_cases c3:ks.length=0
  ·rw[if_pos c3]
   have c3':(ks.length:Int)=0:=by omega
   generalize hm:(ks.length:Int)=m at*
   refine⟨_,?_,qDR U _⟩;rw[qo8];simp[qGy,qmL,qmK,qmJ,qmI,qmH,qmG,qmF,qmE,hb,c2,hm,c3',splice,qae,qai,qal,qaC,qak]
  ·rw[if_neg c3]
   by_cases c4:ks.length=1
   ·rw[if_pos c4]
    have h0:0<ks.length:=by omega
    have hn2:=qgE s hs (tAt ks 0) (by have:=qbA (qaw h0);omega);have h6:ks[0]=tAt ks 0:=qap h0;have c4':(ks.length:Int)=1:=by omega
    refine⟨_,?_,qDQ s _⟩;rw[qqs]at hn2⊢
    generalize qzz s (tAt ks 0)=X at*
    generalize hm:(ks.length:Int)=m at*
    simp[qGy,qmL,qmK,qmJ,qmI,qmH,qmG,qmF,qmE,hb,c2,hm,c4',h0,cut,hn2,h6,splice,qae,qai,qal,qaC,qak]
   ·rw[if_neg c4,if_pos c1]
    have e3:((ks.length:Int)==0)=false:=beq_false_of_ne (by omega);have e4:((ks.length:Int)==1)=false:=beq_false_of_ne (by omega);refine⟨_,?_,qDQ s _⟩;rw[qqs]at hn⊢
    generalize qzz s (T.node f 0 ks)=X at*
    rw[show inB f 0 (s.length-1)=true from c1]at hin;generalize hm:(ks.length:Int)=m at*
    simp[qGy,qmL,qmK,qmJ,qmI,qmH,qmG,qmF,qmE,hb,c2,hw,hin,ho,hn,hm,e3,e4,splice,qae,qai,qal,qaC,qak]
mutual
def qTL(u:List Bd):T->T
 | .node f v ks=>if f= -1/\ks.length=0 then qou u v else .node f v (qLc u ks)
def qLc(u:List Bd):List T->List T
 | []=>[]
 |t::r=>qTL u t::qLc u r
end
theorem qrF(a:List Bd)(x:Bd)(h:(a.length+1)*48<=140737488355328):qa7 4 48 (.sl U (a.map (Bd.enc U))) (.sl U [x.enc U])=some (.sl U ((a++[x]).map (Bd.enc U))):=by
 unfold qa7;simp only;rw[if_pos (by simp[qae,qai])];simp only[List.isEmpty_cons,Bool.false_eq_true,if_false];rw[if_pos ⟨by simpa using h,trivial,by simp⟩];simp
theorem qif(u:List Bd)(i:Nat)(h:i<u.length):u.take (i+1)=u.take i++[bAt u i]:=by
 rw[List.take_add_one,List.getElem?_eq_getElem h,qbR h];rfl
def qcm(_:Unit)(i:Nat):Unit⊕Nat:= .inl ()
theorem qj6:∀(k i:Nat),runN qcm k () i= .inl ()
 |0,i=>rfl
 |k+1,i=>by simp only[runN,qcm];exact qj6 k (i+1)
theorem qyZ(u:List Bd)(hu:small u):qac XV 266 [.d (binds .sub u)] []=some (.d (binds U u),[]):=by
 rw[qah XV _ _ _ qQd rfl qAn rfl];obtain⟨hu,bu⟩:=hu;have h:=qag (X:=XV) (T:=XV.lin 266) (L:=0) (live:=[3,7,8,9]) (b:=qxg) (n:=u.length) (γ:=Nat) (st:=fun(_:Unit) i=>⟨[(3,.d (.sl U ((u.take i).map (Bd.enc U)))),(7,.d (binds .sub u)),(8,.d (.int .i64 u.length)),(9,.d (.int .i64 i))],[]⟩) (step:=qcm)
  (F:=fun _=>(.exit 0,⟨[(3,.d (.sl U ((u.take u.length).map (Bd.enc U)))),(7,.d (binds .sub u)),(8,.d (.int .i64 u.length)),(9,.d (.int .i64 u.length)),(10,.d (.bool false))],[]⟩)) (R:=fun _=>(.ret,⟨[],[]⟩))
  (fun a=>⟨by simp,by simp[qxg,qCf,qCe,qCc]⟩)
  (fun a i hi=>by
   have hw:=qaf (n:=i) (by omega);have hc:=qgQ (bAt u i).t (bu i hi);have ht:=qbR hi;have a1:=qrF (u.take i) (bAt u i) (by simp;omega);have hsn:=qif u i hi;rw[<-hsn]at a1;generalize hR2:(u.take (i+1)).map (Bd.enc U)=R2 at a1;generalize (u.take i).map (Bd.enc U)=R1 at*
   generalize bAt u i=b at*
   unfold qcm;exact⟨_,by simp[qxg,qCf,qCe,qUc,qCc,hi,hw,cut,ht,hc,a1,splice,qae,qai,qal,qaC,qak];rfl,by simp[qad,qab,<-hR2]⟩)
  u.length () 0 ⟨[(3,.d (.sl U ((u.take 0).map (Bd.enc U)))),(7,.d (binds .sub u)),(8,.d (.int .i64 u.length)),(9,.d (.int .i64 0))],[]⟩ (by omega) (by simp[qad,qab])
 rw[qj6,List.take_length,List.take_zero]at h;simp only[qNH,List.map_nil]at h;simp[qQd,qJS,qJR,qJQ,qJP];rw[h];simp
theorem qDK(u:List Bd)(hu:small u):qac XV 250 [.d (binds .sub u)] []=some (.d (binds U u),[]):=by
 rw[qah XV _ _ _ qQh rfl qAs rfl];obtain⟨hu,bu⟩:=hu;have h:=qag (X:=XV) (T:=XV.lin 250) (L:=0) (live:=[0,3,4]) (b:=qxh) (n:=u.length) (γ:=Nat) (st:=fun(_:Unit) i=>⟨[(0,.d (binds .sub u)),(3,.d (.sl U ((u.take i).map (Bd.enc U)))),(4,.d (.int .i64 i))],[]⟩) (step:=qcm)
  (F:=fun _=>(.exit 0,⟨[(0,.d (binds .sub u)),(3,.d (.sl U ((u.take u.length).map (Bd.enc U)))),(4,.d (.int .i64 u.length)),(9,.d (.bool false))],[]⟩)) (R:=fun _=>(.ret,⟨[],[]⟩))
  (fun a=>⟨by simp,by simp[qxh,qCp,qCo]⟩)
  (fun a i hi=>by
   have hw:=qaf (n:=i) (by omega);have hc:=qf0 (bAt u i).t (bu i hi);have ht:=qbR hi;have a1:=qrF (u.take i) (bAt u i) (by simp;omega);have hsn:=qif u i hi;rw[<-hsn]at a1;generalize hR2:(u.take (i+1)).map (Bd.enc U)=R2 at a1;generalize (u.take i).map (Bd.enc U)=R1 at*
   generalize bAt u i=b at*
   unfold qcm;exact⟨_,by simp[qxh,qCp,qUd,qCo,hi,hw,cut,ht,hc,a1,splice,qae,qai];rfl,by simp[qad,qab,<-hR2]⟩)
  u.length () 0 ⟨[(0,.d (binds .sub u)),(3,.d (.sl U ((u.take 0).map (Bd.enc U)))),(4,.d (.int .i64 0))],[]⟩ (by omega) (by simp[qad,qab])
 rw[qj6,List.take_length,List.take_zero]at h;simp only[qNK,List.map_nil]at h;simp[qQh,qJ4,qJ3,qJ2,qJ1];rw[h];simp
theorem qoX(xs:List DV)(x:DV)(g:Tag)(h:(xs.length+1)*48<=140737488355328)(h2:∀y,y∈xs->y.cells.length=4)(hx:x.cells.length=4)(hc:x.cells.all DV.isCell=true):qa7 4 48 (.sl U xs) (.sl g [x])=some (.sl U (xs++[x])):=by
 have h1:xs.all (fun e=>decide (e.cells.length=4))=true:=by
  rw[List.all_eq_true];intro y hy;simpa using h2 y hy
 unfold qa7;simp only;rw[if_pos (by simp[hx];simpa using hc)];simp only[List.isEmpty_cons,Bool.false_eq_true,if_false];rw[if_pos ⟨by simpa using h,trivial,h1⟩]
def qHR(u:List Bd)(b:Bd)(k i:Nat):List DV:=if i=k then [b.enc U]else []
def qjr(u:List Bd)(b:Bd)(k:Nat):Nat->List DV
 |0=>[]
 |i+1=>(qjr u b k i++qHR u b k i)++[(bAt u i).enc .sub]
theorem qo1(u:List Bd)(b:Bd)(k:Nat):∀i,(qjr u b k i).length<=2*i
 |0=>Nat.le_refl _
 |i+1=>by
  have:=qo1 u b k i;unfold qjr qHR;split<;>simp<;>omega
theorem qiM(u:List Bd)(b:Bd)(k:Nat):∀i y,y∈qjr u b k i->y.cells.length=4
 |0,y,h=>by simp[qjr]at h
 |i+1,y,h=>by
  unfold qjr qHR at h;simp only[List.mem_append,List.mem_singleton]at h;rcases h with(h|h)|h
  ·exact qiM u b k i y h
  ·split at h
   ·simp at h;subst h;rfl
   ·simp at h
  ·subst h;rfl
theorem qxt(u:List Bd)(b:Bd)(k:Nat):∀i,i<=u.length->(qjr u b k i).map DV.clr=(if k<i then u.take k++b::(u.take i).drop k else u.take i).map (Bd.enc .sub)
 |0,_=>by simp[qjr]
 |i+1,hi=>by
  have ih:=qxt u b k i (by omega);have hs:=qif u i (by omega);unfold qjr qHR;rw[List.map_append,List.map_append,ih]
  by_cases c1:i=k
  ·subst c1
   rw[if_neg (Nat.lt_irrefl i),if_pos rfl,if_pos (Nat.lt_succ_self i),hs];have:(List.take i u++[bAt u i]).drop i=[bAt u i]:=by
    rw[List.drop_append_of_le_length (by simp;omega),List.drop_of_length_le (by simp;omega)];rfl
   rw[this];simp
  ·rw[if_neg c1]
   by_cases c2:k<i
   ·rw[if_pos c2,if_pos (by omega),hs,List.drop_append_of_le_length (by simp;omega)]
    simp
   ·rw[if_neg c2,if_neg (by omega),hs]
    simp
theorem qIL(u:List Bd)(v:Int)(i:Nat)(hi:i<u.length)(h:i<qlM u v):¬(bAt u i).v>v:=by
 unfold qlM at h;have:=List.not_of_lt_findIdx h;rw[qbR hi]at this;simpa using this
theorem qIM(u:List Bd)(v:Int)(h:qlM u v<u.length):(bAt u (qlM u v)).v>v:=by
 unfold qlM at h⊢
 have:=List.findIdx_getElem (w:=h);rw[qbR h]at this;simpa using this
theorem qwL(u:List Bd)(v:Int)(t:T)(hu:u.length<=549755813888)(ht:t.inner<=1099511627776):
 ∃xs,xs.map DV.clr=(qgj u v t).map (Bd.enc .sub)/\qac XV 313 [.d (binds .sub u),.d (.int .i64 v),.d (t.enc .sub)] []=some (.d (.sl U xs),[]):=by
 have hcp:=qf0 t ht;obtain⟨f,w,ks⟩:=t;obtain⟨k,hk⟩:∃k,k=qlM u v:=⟨_,rfl⟩;refine⟨qjr u ⟨v,.node f w ks⟩ k u.length++qHR u ⟨v,.node f w ks⟩ k u.length,?_,?_⟩
 ·have hkl:k<=u.length:=by rw[hk];exact List.findIdx_le_length
  rw[List.map_append,qxt u _ k u.length (Nat.le_refl _)];unfold qgj qHR;rw[<-hk,List.take_length]
  by_cases c:k<u.length
  ·rw[if_pos c,if_neg (by omega)];simp
  ·have:k=u.length:=by omega
   subst this;rw[if_neg c,if_pos rfl];simp
 rw[qah XV _ _ _ qP3 rfl qz6 rfl];have h:=qag (X:=XV) (T:=XV.lin 313) (L:=1) (live:=[0,1,5,7,8,9]) (b:=qnm) (n:=u.length) (γ:=Nat) (st:=fun(_:Unit) i=>⟨[(0,.d (binds .sub u)),(1,.d (.int .i64 v)),(5,.ptr 0 0),(7,.d (.sl U (qjr u ⟨v,.node f w ks⟩ k i))),(8,.d (.bool (decide (k<i)))),(9,.d (.int .i64 i))],[some [.d (.int .i64 f),.d (.int .i64 w),.d (qaa .sub ks)]]⟩) (step:=qcm)
  (F:=fun _=>(.exit 0,⟨[(0,.d (binds .sub u)),(1,.d (.int .i64 v)),(5,.ptr 0 0),(7,.d (.sl U (qjr u ⟨v,.node f w ks⟩ k u.length))),(8,.d (.bool (decide (k<u.length)))),(9,.d (.int .i64 u.length)),(14,.d (.bool false))],[some [.d (.int .i64 f),.d (.int .i64 w),.d (qaa .sub ks)]]⟩)) (R:=fun _=>(.ret,⟨[],[]⟩))
  (fun a=>⟨by simp,by simp[qnm,qp7,qp5,qp4,qp3,qpZ,qp6]⟩)
  (fun a i hi=>by
   have hw:=qaf (n:=i) (by omega);have hb:=qbR hi;have hln:=qo1 u ⟨v,.node f w ks⟩ k i;have hce:=qiM u ⟨v,.node f w ks⟩ k i;have a1:=qoX (qjr u ⟨v,.node f w ks⟩ k i) ((bAt u i).enc .sub) U (by omega) hce rfl (by simp[qae,qai]);have a2:qa7 4 48 (.sl U (qjr u ⟨v,.node f w ks⟩ k i)) (.sl U [.agg [.int .i64 v,.int .i64 f,.int .i64 w,qaa U ks]])=some (.sl U (qjr u ⟨v,.node f w ks⟩ k i++[(⟨v,.node f w ks⟩:Bd).enc U])):=qoX (qjr u ⟨v,.node f w ks⟩ k i) ((⟨v,.node f w ks⟩:Bd).enc U) U (by omega) hce rfl (by simp[qae,qai]);have a3:=qoX (qjr u ⟨v,.node f w ks⟩ k i++[(⟨v,.node f w ks⟩:Bd).enc U]) ((bAt u i).enc .sub) U (by simp;omega) (fun y hy=>by
    rcases List.mem_append.1 hy with h|h
    ·exact hce y h
    ·simp at h;subst h;rfl) rfl (by simp[qae,qai])
   have hnx:qjr u ⟨v,.node f w ks⟩ k (i+1)=(qjr u ⟨v,.node f w ks⟩ k i++qHR u ⟨v,.node f w ks⟩ k i)++[(bAt u i).enc .sub]:=rfl;unfold qHR at hnx;generalize hX2:qjr u ⟨v,.node f w ks⟩ k (i+1)=X2 at*
   generalize qjr u ⟨v,.node f w ks⟩ k i=X1 at*
   unfold qcm
   by_cases c1:k<i
   ·have c2:¬i=k:=by omega
    have c3:k<i+1:=by omega
    rw[if_neg c2,List.append_nil]at hnx;rw[<-hnx]at a1;exact⟨_,by simp[qnm,qp7,qp5,qp4,qp3,qpZ,qp6,hi,hw,cut,hb,c1,a1];rfl,by simp[qad,qab,hX2,c3]⟩
   ·by_cases c2:i=k
    ·have hgt:(bAt u i).v>v:=by rw[c2,hk];exact qIM u v (by omega)
     rw[if_pos c2]at hnx;rw[<-hnx]at a3;have c3:k<i+1:=by omega
     exact⟨_,by simp[qnm,qp7,qp5,qp4,qp3,qpZ,qp6,hi,hw,cut,hb,c1,hgt,hcp,a2,a3,splice];rfl,by simp[qad,qab,hX2,c3]⟩
    ·have hle:=qIL u v i hi (by omega)
     rw[if_neg c2,List.append_nil]at hnx;rw[<-hnx]at a1;have c3:¬k<i+1:=by omega
     exact⟨_,by simp[qnm,qp7,qp5,qp4,qp3,qpZ,qp6,hi,hw,cut,hb,c1,hle,a1];rfl,by simp[qad,qab,hX2,c3]⟩)
  u.length () 0 ⟨[(0,.d (binds .sub u)),(1,.d (.int .i64 v)),(5,.ptr 0 0),(7,.d (.sl U [])),(8,.d (.bool false)),(9,.d (.int .i64 0))],[some [.d (.int .i64 f),.d (.int .i64 w),.d (qaa .sub ks)]]⟩ (by omega) (by simp[qad,qab,qjr])
 rw[qj6]at h;simp only[qNz]at h;have hln:=qo1 u ⟨v,.node f w ks⟩ k u.length;have a2:qa7 4 48 (.sl U (qjr u ⟨v,.node f w ks⟩ k u.length)) (.sl U [.agg [.int .i64 v,.int .i64 f,.int .i64 w,qaa U ks]])=some (.sl U (qjr u ⟨v,.node f w ks⟩ k u.length++[(⟨v,.node f w ks⟩:Bd).enc U])):=qoX (qjr u ⟨v,.node f w ks⟩ k u.length) ((⟨v,.node f w ks⟩:Bd).enc U) U (by omega) (qiM u ⟨v,.node f w ks⟩ k u.length) rfl (by simp[qae,qai]);have hkl:k<=u.length:=by rw[hk];exact List.findIdx_le_length
 simp[qP3,qJm,qJl,qJk,qJj,qBV,qBU,qBT];rw[h];unfold qHR;generalize qjr u ⟨v,.node f w ks⟩ k u.length=X1 at*
 by_cases c:k<u.length
 ·have c2:¬u.length=k:=by omega
  simp[c,c2]
 ·have c2:u.length=k:=by omega
  simp[c2,hcp,a2,splice]
def qxL(t:T)(b:Bool):Bool:=b||decide (12<t.kids.length)
mutual
def qdy:T->Bool
 | .node f v ks=>decide (12<ks.length)||qiV ks
def qiV:List T->Bool
 | []=>false
 |t::ts=>qdy t||qiV ts
end
mutual
theorem qqS:∀(t:T) (b:Bool),T.fold qxL t b=(b||qdy t)
 | .node f v ks,b=>by
  simp only[T.fold,qdy,qm5 ks,qxL,T.kids];rw[Bool.or_assoc];rfl
theorem qm5:∀(ts:List T) (b:Bool),T.folds qxL ts b=(b||qiV ts)
 | [],b=>by simp[T.folds,qiV]
 |t::ts,b=>by
  simp only[T.folds,qiV,qqS t,qm5 ts];rw[Bool.or_assoc]
end
theorem qtr(t:T)(ht:t.inner<=1099511627776):qac XV 317 [.d (t.enc .sub)] []=some (.d (.bool (qdy t)),[]):=by
 rw[qah XV _ _ _ qP0 rfl qz2 rfl];have key:∀(b:Bool),qac XV 25 [.d (t.enc .sub),.fn 330 [.ptr 1 0]] ([some [.d (.int .i64 t.f),.d (.int .i64 t.v),.d (qaa .sub t.kids)],some [.d (.bool b)]]++[])=some (.d (.tup []),[some [.d (.int .i64 t.f),.d (.int .i64 t.v),.d (qaa .sub t.kids)],some [.d (.bool (T.fold qxL t b))]]++[]):=fun b=>
  qtJ (fun b:Bool=>[some [.d (.int .i64 t.f),.d (.int .i64 t.v),.d (qaa .sub t.kids)],some [.d (.bool b)]]) qxL 330 [.ptr 1 0] 2 (fun _=>rfl) (fun n hn=>by simp;omega) rfl (by simp) (fun x b r=>by
   rw[qah XV _ _ _ qL7 rfl qzY rfl];obtain⟨xf,xv,xk⟩:=x;unfold qxL;cases b
   ·by_cases h1:12<xk.length
    ·have h2:(12:Int)<xk.length:=by omega
     simp[qL7,quG,quF,h1,h2,splice]
    ·have h2:¬(12:Int)<xk.length:=by omega
     simp[qL7,quG,quF,h1,h2,splice]
   ·simp[qL7,quG,quF,splice]) t ht b []
 have h:=key false;rw[qqS,Bool.false_or]at h;simp only[List.append_nil]at h;obtain⟨f,v,ks⟩:=t;simp only[T.qbe,T.qdM,T.qbc]at h;simp[qP0,qJa,qI9,qI8,qI7,h,splice]
theorem qid:∀ks:List T,qiV ks=ks.any qdy
 | []=>rfl
 |t::ts=>by simp only[qiV,List.any_cons,qid ts]
theorem qhK(q:Nat->Bool)(k i:Nat):(qax q k i).isSome=true↔∃j,i<=j/\j<i+k/\q j=true:=by
 constructor
 ·intro h
  obtain⟨j,hj⟩:=Option.isSome_iff_exists.1 h;exact⟨j,qcd q k i j hj⟩
 ·induction k generalizing i with
  |zero=>rintro⟨j,h1,h2,_⟩;omega
  |succ k ih=>
   rintro⟨j,h1,h2,h3⟩
   simp only[qax];split
   ·rfl
   ·rename_i hq
    refine ih (i+1) ⟨j,?_,by omega,h3⟩;rcases Nat.eq_or_lt_of_le h1 with rfl|h
    ·exact absurd h3 hq
    ·exact h
theorem qAT(ks:List T):(qax (fun i=>qdy (tAt ks i)) ks.length 0).isSome=qiV ks:=by
 rw[qid,Bool.eq_iff_iff,qhK,List.any_eq_true];constructor
 ·rintro⟨j,_,h2,h3⟩
  exact⟨_,qaw (by omega),h3⟩
 ·rintro⟨x,hx,h⟩
  obtain⟨j,hj,rfl⟩:=List.getElem_of_mem hx;exact⟨j,Nat.zero_le _,by omega,by rw[<-qap hj];exact h⟩
theorem qDI(f v:Int)(ks:List T)(hl:ks.length<=1099511627776)(hrec:∀t,t∈ks->qac XV 309 [.d (t.enc .sub)] []=some (.d (.bool (qdy t)),[])):
 qac XV 309 [.d ((T.node f v ks).enc .sub)] []=some (.d (.bool (qdy (.node f v ks))),[]):=by
 rw[qah XV _ _ _ qP5 rfl qz8 rfl];have h:=qag (X:=XV) (T:=XV.lin 309) (L:=1) (live:=[1,3]) (b:=qro) (n:=ks.length) (γ:=Nat) (st:=fun(_:Unit) i=>⟨[(1,.ptr 0 0),(3,.d (.int .i64 i))],[some [.d (.int .i64 f),.d (.int .i64 v),.d (qaa .sub ks)]]⟩) (step:=qb3 fun i=>qdy (tAt ks i))
  (F:=fun _=>(.exit 0,⟨[(1,.ptr 0 0),(3,.d (.int .i64 ks.length)),(8,.d (.bool false))],[some [.d (.int .i64 f),.d (.int .i64 v),.d (qaa .sub ks)]]⟩)) (R:=fun _=>(.ret,⟨[(2,.d (.bool true))],[some [.d (.int .i64 f),.d (.int .i64 v),.d (qaa .sub ks)]]⟩))
  (fun a=>⟨by simp,by simp[qro,quZ,quX,quW,quY]⟩)
  (fun a i hi=>by
   have hw:=qaf (n:=i) (by omega);have hc:=hrec _ (qaw hi);unfold qb3
   by_cases hq:qdy (tAt ks i)=true
   ·rw[if_pos hq];rw[hq]at hc
    exact⟨by simp,by simp[qro,quZ,quX,quW,quY,hi,cut,qap hi,hc]⟩
   ·rw[if_neg hq]
    have hq':qdy (tAt ks i)=false:=by simpa using hq
    rw[hq']at hc;exact⟨_,by simp[qro,quZ,quX,quW,quY,hi,hw,cut,qap hi,hc];rfl,by simp[qad,qab]⟩)
  ks.length () 0 ⟨[(1,.ptr 0 0),(3,.d (.int .i64 0))],[some [.d (.int .i64 f),.d (.int .i64 v),.d (qaa .sub ks)]]⟩ (by omega) (by simp[qad,qab])
 rw[qo5]at h;simp only[qNC]at h;have hwf:=qAT ks;simp[qP5,qJs,qJr,qJq];rw[h];simp only[qdy];cases hq:qax (fun i=>qdy (tAt ks i)) ks.length 0 with
 |some j=>
  rw[hq]at hwf;rw[<-hwf];simp
 |none=>
  rw[hq]at hwf;rw[<-hwf]
  by_cases h1:12<ks.length
  ·have h2:(12:Int)<ks.length:=by omega
   simp[h1,h2]
  ·have h2:¬(12:Int)<ks.length:=by omega
   simp[h1,h2]
theorem qqx(t:T)(ht:t.inner<=1099511627776):qac XV 309 [.d (t.enc .sub)] []=some (.d (.bool (qdy t)),[]):=by
 match t,ht with
 | .node f v ks,ht=>
  simp only[T.inner]at ht;exact qDI f v ks (by omega) fun s hs=>qqx s (by have:=T.qay hs;omega)
termination_by t
decreasing_by
 simp_wf
 have:=List.sizeOf_lt_of_mem hs;omega
theorem qBf(m i:Nat)(hi:i<64):qdJ .shr .i64 (m:Int) (i:Int)=some (.int .i64 ((m/2^i:Nat):Int)):=by
 unfold qdJ;have h0:¬((i:Int)<0):=by omega
 have hb:IntKind.i64.bits=64:=rfl;have hm:min i 64=i:=by omega
 simp only[if_neg h0,Int.toNat_natCast,hb,hm,Option.some.injEq,DV.int.injEq,true_and];rw[Int.fdiv_eq_ediv_of_nonneg _ (by exact Int.pow_nonneg (by omega)),Int.natCast_ediv,Int.natCast_pow];rfl
theorem and_one(a:Nat)(ha:a<4611686018427387904):qdJ .and .i64 (a:Int) 1=some (.int .i64 ((a%2:Nat):Int)):=by
 unfold qdJ bits;have h1:BitVec.ofInt IntKind.i64.bits (a:Int)=BitVec.ofNat 64 a:=BitVec.ofInt_natCast 64 a;have h2:BitVec.ofInt IntKind.i64.bits 1=BitVec.ofNat 64 1:=BitVec.ofInt_natCast 64 1;have h3:(BitVec.ofNat 64 a&&&BitVec.ofNat 64 1).toNat=a%2:=by
  rw[BitVec.toNat_and,BitVec.toNat_ofNat,BitVec.toNat_ofNat,Nat.mod_eq_of_lt (by omega),Nat.mod_eq_of_lt (by omega),Nat.and_one_is_mod]
 simp only[Option.map_some,Option.some.injEq,DV.int.injEq,true_and];rw[h1,h2];show IntKind.i64.wrap (((BitVec.ofNat 64 a&&&BitVec.ofNat 64 1).toNat:Nat):Int)=_;rw[h3,IntKind.wrap_i64];omega
theorem qFe(m i:Nat):((((m/2^i%2:Nat):Int)==1)=m.testBit i):=by
 rw[Nat.testBit_eq_decide_div_mod_eq,Bool.eq_iff_iff,beq_iff_eq,decide_eq_true_eq];generalize m/2^i%2=r;omega
def onB(l:List T)(m:Nat):Nat->List T
 |0=>[]
 |i+1=>if m.testBit i then onB l m i++[tAt l i]else onB l m i
def qeK(l:List T)(m:Nat):Nat->List T
 |0=>[]
 |i+1=>if m.testBit i then qeK l m i else qeK l m i++[tAt l i]
theorem qta(l:List T)(m:Nat):∀i,(onB l m i).length<=i
 |0=>Nat.le_refl _
 |i+1=>by have:=qta l m i;unfold onB;split<;>simp<;>omega
theorem qoq(l:List T)(m:Nat):∀i,(qeK l m i).length<=i
 |0=>Nat.le_refl _
 |i+1=>by have:=qoq l m i;unfold qeK;split<;>simp<;>omega
theorem qDL(l:List T)(m:Nat)(hl:l.length<=30)(hm:m<1099511627776):
 qac XV 315 [.d (qaa .sub l),.d (.int .i64 m)] []=some (.d (.tup [.sl U ((onB l m l.length).map (T.enc .sub)),.sl U ((qeK l m l.length).map (T.enc .sub))]),[]):=by
 rw[qah XV _ _ _ qP2 rfl qz4 rfl];have h:=qag (X:=XV) (T:=XV.lin 315) (L:=0) (live:=[0,1,6,7,8]) (b:=qrm) (n:=l.length) (γ:=Nat) (st:=fun(_:Unit) i=>⟨[(0,.d (qaa .sub l)),(1,.d (.int .i64 m)),(6,.d (.sl U ((onB l m i).map (T.enc .sub)))),(7,.d (.sl U ((qeK l m i).map (T.enc .sub)))),(8,.d (.int .i64 i))],[]⟩) (step:=qcm)
  (F:=fun _=>(.exit 0,⟨[(0,.d (qaa .sub l)),(1,.d (.int .i64 m)),(6,.d (.sl U ((onB l m l.length).map (T.enc .sub)))),(7,.d (.sl U ((qeK l m l.length).map (T.enc .sub)))),(8,.d (.int .i64 l.length)),(14,.d (.bool false))],[]⟩)) (R:=fun _=>(.ret,⟨[],[]⟩))
  (fun a=>⟨by simp,by simp[qrm,quR,quP,quO,quN,quQ]⟩)
  (fun a i hi=>by
   have hw:=qaf (n:=i) (by omega);have h1:=qta l m i;have h2:=qoq l m i;have a1:=qgt (onB l m i) [tAt l i] U (by simp;omega);have a2:=qgt (qeK l m i) [tAt l i] U (by simp;omega);simp only[List.map_cons,List.map_nil,List.map_append]at a1 a2;have hs1:=qBf m i (by omega);have hdm:m/2^i<4611686018427387904:=Nat.lt_of_le_of_lt (Nat.div_le_self _ _) (by omega);have hs2:=and_one (m/2^i) hdm;have hs3:=qFe m i;generalize m/2^i=q at hs1 hs2 hs3;generalize q%2=r at hs2 hs3;unfold qcm
   by_cases hb:m.testBit i=true
   ·exact⟨_,by simp[qrm,quR,quP,quO,quN,quQ,hi,hw,cut,qap hi,a1,hs1,hs2,hs3,hb];rfl,by simp[qad,qab,onB,qeK,hb]⟩
   ·exact⟨_,by simp[qrm,quR,quP,quO,quN,quQ,hi,hw,cut,qap hi,a2,hs1,hs2,hs3,hb];rfl,by simp[qad,qab,onB,qeK,hb]⟩)
  l.length () 0 ⟨[(0,.d (qaa .sub l)),(1,.d (.int .i64 m)),(6,.d (.sl U [])),(7,.d (.sl U [])),(8,.d (.int .i64 0))],[]⟩ (by omega) (by simp[qad,qab,onB,qeK])
 rw[qj6]at h;simp only[qNy]at h;simp[qP2,qJi,qJh,qJg,qJf];rw[h];simp
def qbY(p t:T):Gl:=⟨false,0,[p],[t]⟩
def qbk(f:Int)(ps ts:List T):Gl:=⟨true,f,ps,ts⟩
def partsOf(f:Int)(t:T):List T:=if t.f=f then t.kids else [t]
def evs(s:List SymL):Nat->List Gl->List Bd->List (Option (List Bd))
 |0,_,_=>[]
 |n+1,[],u=>[none,some u]
 |n+1,⟨true,f,ps,ts⟩::rest,u=>none::(match ps with
  | []=>if ts.length=0 then evs s n rest u else []
  |p::ps=>if p.f= -1 then(match qbP u p.v with
   |some j=>(match takeN ts (partsOf f (bAt u j).t)with
    | .inl r=>evs s n (qbk f ps r::rest) u
    | .inr _=>[])
   |none=>(List.range (2^ts.length-1)).flatMap fun m=>evs s n (qbk f ps (qeK ts (m+1) ts.length)::rest) (qgj u p.v (qcR s f (onB ts (m+1) ts.length))))
   else(List.range ts.length).flatMap fun i=>evs s n (qbY p (tAt ts i)::qbk f ps (qbp ts i)::rest) u)
 |n+1,⟨false,f,ps,ts⟩::rest,u=>none::(if(tAt ps 0).f= -1 then(match qbP u (tAt ps 0).v with
  |none=>evs s n rest (qgj u (tAt ps 0).v (tAt ts 0))
  |some j=>if T.cmp (bAt u j).t (tAt ts 0)==0 then evs s n rest u else [])
  else if(tAt ps 0).f≠(tAt ts 0).f then []
  else if qaM s (tAt ps 0).f=true then evs s n (qbk (tAt ps 0).f (tAt ps 0).kids (tAt ts 0).kids::rest) u
  else if(tAt ps 0).kids.length≠(tAt ts 0).kids.length then []
  else evs s n ((List.range (tAt ps 0).kids.length).map (fun i=>qbY (tAt (tAt ps 0).kids i) (tAt (tAt ts 0).kids i))++rest) u)
def glW(g:Gl):Nat:=if g.many then 1+3*qaQ g.ps else 3*(tAt g.ps 0).inner+2
def qds(l:List Gl):Nat:=(l.map glW).sum
structure MS where
 ways:List (List Bd)
 steps:Nat
 over:Bool
def MS.done(S:MS):Bool:=S.over||decide (60<S.ways.length)
def MS.ev(S:MS)(e:Option (List Bd)):MS:=
 if S.done then S else match e with
 |none=>{S with steps:=S.steps+1,over:=decide (20000<S.steps+1)}
 |some u=>if qwP S.ways u then S else{S with ways:=S.ways++[u]}
def MS.run(S:MS)(es:List (Option (List Bd))):MS:=es.foldl MS.ev S
theorem MS.qft(S:MS)(h:S.done=true):∀es,S.run es=S
 | []=>rfl
 |e::es=>by
  have:S.ev e=S:=by unfold MS.ev;rw[if_pos h]
  show MS.run (S.ev e) es=S;rw[this];exact MS.qft S h es
theorem MS.qgu(S:MS)(a b:List (Option (List Bd))):S.run (a++b)=(S.run a).run b:=List.foldl_append
theorem MS.qen(S:MS)(e:Option (List Bd))(b:List (Option (List Bd))):S.run (e::b)=(S.ev e).run b:=rfl
theorem MS.qUC(S:MS)(e:Option (List Bd))(h:S.ways.length<=61):(S.ev e).ways.length<=61:=by
 unfold MS.ev;split
 ·exact h
 ·rename_i hd
  cases e with
  |none=>exact h
  |some u=>
   simp only;split
   ·exact h
   ·unfold MS.done at hd
    simp only[Bool.or_eq_true,decide_eq_true_eq,not_or]at hd;simp;omega
abbrev qbJ(ws:List (List Bd)):DV:= .sl U (ws.map (binds U))
def mB(s:List SymL)(S:MS):List AV:=qyr (sg s) (qbJ S.ways) 60 S.steps 20000 S.over
theorem qgP(s:List SymL)(S:MS)(pre r:qam):qac XV 319 [.ptr pre.length 0] (pre++some (mB s S)::r)=some (.d (.bool S.done),pre++some (mB s S)::r):=by
 have h:=qOs pre r (sg s) U (S.ways.map (binds U)) 60 S.steps 20000 S.over;have e:decide (((S.ways.map (binds U)).length:Int)>60)=decide (60<S.ways.length):=by
  rw[List.length_map,Bool.eq_iff_iff,decide_eq_true_eq,decide_eq_true_eq];omega
 rw[e]at h;exact h
theorem qcW(pre:qam)(x:Option (List AV))(r e:qam):(pre++x::(r++e)).take (pre.length+(r.length+1))=pre++x::r:=by
 rw[show pre++x::(r++e)=(pre++x::r)++e by simp,List.take_left' (by simp)]
theorem qEf(s:List SymL)(S:MS)(gl:List Gl)(u:List Bd)(pre r:qam)(hd:S.done=true):
 qac XV 318 [.ptr pre.length 0,.d (qaS .sub gl),.d (binds .sub u)] (pre++some (mB s S)::r)=some (.d (.tup []),pre++some (mB s S)::r):=by
 rw[qah XV _ _ _ quh rfl qfK rfl];have h:=qgP s S pre (r++[some [.d (binds .sub u)]]);rw[hd]at h;simp[quh,qkN,qkM,qkL,qkK,qkJ,qkI,qkH,qgI,h,qcW]
def MS.step(S:MS):MS:={S with steps:=S.steps+1,over:=decide (20000<S.steps+1)}
theorem MS.qgc(S:MS)(h:S.done=false):S.ev none=S.step:=by unfold MS.ev;rw[h];rfl
theorem MS.qua(S:MS)(h:S.done=false)(u:List Bd):S.ev (some u)=if qwP S.ways u then S else{S with ways:=S.ways++[u]}:=by unfold MS.ev;rw[h];rfl
theorem qEd(s:List SymL)(S:MS)(gl:List Gl)(u:List Bd)(pre r:qam)(hd:S.done=false)(ho:20000<S.steps+1)(hst:S.steps<=20001):
 qac XV 318 [.ptr pre.length 0,.d (qaS .sub gl),.d (binds .sub u)] (pre++some (mB s S)::r)=some (.d (.tup []),pre++some (mB s S.step)::r):=by
 rw[qah XV _ _ _ quh rfl qfK rfl];have h:=qgP s S pre (r++[some [.d (binds .sub u)]]);rw[hd]at h;have hn2:¬(pre.length+(r.length+1+1)<=pre.length):=by omega
 have hw:IntKind.i64.wrap ((S.steps:Int)+1)=((S.steps+1:Nat):Int):=by rw[IntKind.wrap_i64];omega
 have hg:(20000:Int)<((S.steps+1:Nat):Int):=by omega
 have e:mB s S=[.d (sg s),.d (qbJ S.ways),.d (.int .i64 60),.d (.int .i64 S.steps),.d (.int .i64 20000),.d (.bool S.over)]:=rfl;have e2:mB s S.step=[.d (sg s),.d (qbJ S.ways),.d (.int .i64 60),.d (.int .i64 (S.steps+1:Nat)),.d (.int .i64 20000),.d (.bool true)]:=by
  unfold mB qyr MS.step;simp[ho]
 rw[e]at h;rw[e,e2];generalize ((S.steps+1:Nat):Int)=m at*
 simp[quh,qkN,qkM,qkL,qra,qkK,qkJ,qkI,qkH,qgI,h,qcW,splice,hw,hg,hn2]
@[simp] theorem qE1:DV.clr∘binds U=binds .sub:=funext fun w=>by simp[binds]
theorem qxn(L:List (List Bd))(t:Tag)(u:List Bd)(hl:(L.length+1)*24<=140737488355328):qa7 1 24 (.sl U (L.map (binds U))) (.sl t [binds U u])=some (.sl U ((L++[u]).map (binds U))):=by
 have h1:(L.map (binds U)).all (fun e=>decide (e.cells.length=1))=true:=by
  rw[List.all_eq_true];intro y hy;obtain⟨z,_,rfl⟩:=List.mem_map.1 hy;rfl
 unfold qa7;simp only;rw[if_pos (by rfl)];simp only[List.isEmpty_cons,Bool.false_eq_true,if_false];rw[if_pos ⟨by simpa using hl,trivial,h1⟩];simp
theorem qIh(s:List SymL)(S:MS)(u:List Bd)(pre r:qam)(hd:S.done=false)(ho:S.steps+1<=20000)(hw:∀w,w∈S.ways->small w)(hu:small u):
 qac XV 318 [.ptr pre.length 0,.d (qaS .sub []),.d (binds .sub u)] (pre++some (mB s S)::r)=some (.d (.tup []),pre++some (mB s (if qwP S.ways u then S.step else{S.step with ways:=S.ways++[u]}))::r):=by
 rw[qah XV _ _ _ quh rfl qfK rfl];have h:=qgP s S pre (r++[some [.d (binds .sub u)]]);rw[hd]at h;have hln:S.ways.length<=60:=by
  unfold MS.done at hd;simp only[Bool.or_eq_false_iff,decide_eq_false_iff_not]at hd;omega
 have hl2:pre.length<pre.length+(r.length+1+1):=by omega
 have hn2:¬(pre.length+(r.length+1+1)<=pre.length):=by omega
 have hn3:¬(r.length+1<=r.length):=by omega
 have hwr:IntKind.i64.wrap ((S.steps:Int)+1)=((S.steps+1:Nat):Int):=by rw[IntKind.wrap_i64];omega
 have hg:¬(20000:Int)<((S.steps+1:Nat):Int):=by omega
 have hdo:decide (20000<S.steps+1)=false:=by simp;omega
 have hov:S.over=false:=by unfold MS.done at hd;simp only[Bool.or_eq_false_iff]at hd;exact hd.1
 have e:mB s S=[.d (sg s),.d (qbJ S.ways),.d (.int .i64 60),.d (.int .i64 S.steps),.d (.int .i64 20000),.d (.bool false)]:=by unfold mB qyr;rw[hov]
 have e2:mB s S.step=[.d (sg s),.d (qbJ S.ways),.d (.int .i64 60),.d (.int .i64 (S.steps+1:Nat)),.d (.int .i64 20000),.d (.bool false)]:=by
  unfold mB qyr MS.step;rw[hdo]
 have e3:mB s {S.step with ways:=S.ways++[u]}=[.d (sg s),.d (qbJ (S.ways++[u])),.d (.int .i64 60),.d (.int .i64 (S.steps+1:Nat)),.d (.int .i64 20000),.d (.bool false)]:=by
  unfold mB qyr MS.step;rw[hdo]
 have hcon:=qtQ S.ways u (pre++some (mB s S.step)::r) [] (by omega) hw hu;have hcp:=qyZ u hu;have hap:=qxn S.ways U u (by omega);simp only[yg_,List.length_cons,yh_,List.cons_append]at hcon;rw[e2]at hcon;rw[e]at h;rw[e];cases hh:qwP S.ways u with
 |true=>
  rw[hh]at hcon;simp only[if_true];rw[e2];generalize ((S.steps+1:Nat):Int)=m at*
  simp[quh,qkN,qkM,qkL,qra,qkK,qkJ,qkI,qkH,qgI,h,hl2,qcW,splice,hwr,hg,hn2,hcon]
 |false=>
  rw[hh]at hcon;simp only[Bool.false_eq_true,if_false];rw[e3];generalize ((S.steps+1:Nat):Int)=m at*
  simp[quh,qkN,qkM,qkL,qra,qkK,qkJ,qkI,qUa,qkH,qgI,h,hl2,qcW,splice,hwr,hg,hn2,hn3,hcon,hcp,hap]
theorem qLb(b:Bool)(f:Int)(ps ts:List T):DV.agg [.bool b,.int .i64 f,qaa .sub ps,qaa .sub ts]=(Gl.mk b f ps ts).enc .sub:=rfl
@[simp] theorem Gl.qeJ(g:Tag)(x:Gl):(x.enc g).cells=[.bool x.many,.int .i64 x.f,qaa g x.ps,qaa g x.ts]:=rfl
@[simp] theorem Gl.qiS(g:Tag)(x:Gl):(AV.d (x.enc g)).cells=[.d (.bool x.many),.d (.int .i64 x.f),.d (qaa g x.ps),.d (qaa g x.ts)]:=rfl
@[simp] theorem Gl.qiQ(g:Tag)(x:Gl):(x.enc g).isCell=false:=rfl
@[simp] theorem Gl.qd8(x:Gl):(x.enc .sub).clr=x.enc .sub:=by simp[Gl.enc]
@[simp] theorem qtX:DV.clr∘Gl.enc .sub=Gl.enc .sub:=funext fun w=>by simp
theorem qEe(s:List SymL)(S S':MS)(f:Int)(ps ts:List T)(rest:List Gl)(u:List Bd)(pre r:qam)(hd:S.done=false)(ho:S.steps+1<=20000)
 (hrec:∀r',qac XV 321 [.ptr pre.length 0,.d ((Gl.mk true f ps ts).enc .sub),.d (qaS .sub rest),.d (binds .sub u)] (pre++some (mB s S.step)::r')=some (.d (.tup []),pre++some (mB s S')::r')):
 qac XV 318 [.ptr pre.length 0,.d (qaS .sub (⟨true,f,ps,ts⟩::rest)),.d (binds .sub u)] (pre++some (mB s S)::r)=some (.d (.tup []),pre++some (mB s S')::r):=by
 rw[qah XV _ _ _ quh rfl qfK rfl];have h:=qgP s S pre (r++[some [.d (binds .sub u)]]);rw[hd]at h;have hl2:pre.length<pre.length+(r.length+1+1):=by omega
 have hn2:¬(pre.length+(r.length+1+1)<=pre.length):=by omega
 have hwr:IntKind.i64.wrap ((S.steps:Int)+1)=((S.steps+1:Nat):Int):=by rw[IntKind.wrap_i64];omega
 have hg:¬(20000:Int)<((S.steps+1:Nat):Int):=by omega
 have hdo:decide (20000<S.steps+1)=false:=by simp;omega
 have hov:S.over=false:=by unfold MS.done at hd;simp only[Bool.or_eq_false_iff]at hd;exact hd.1
 have e:mB s S=[.d (sg s),.d (qbJ S.ways),.d (.int .i64 60),.d (.int .i64 S.steps),.d (.int .i64 20000),.d (.bool false)]:=by unfold mB qyr;rw[hov]
 have e2:mB s S.step=[.d (sg s),.d (qbJ S.ways),.d (.int .i64 60),.d (.int .i64 (S.steps+1:Nat)),.d (.int .i64 20000),.d (.bool false)]:=by
  unfold mB qyr MS.step;rw[hdo]
 have hr:=hrec (r++[some [.d (binds .sub u)],some [.d (.bool true),.d (.int .i64 f),.d (qaa .sub ps),.d (qaa .sub ts)]]);rw[e2]at hr;rw[e]at h;rw[e];have hz3:(((rest.length:Int)+1)==0)=false:=by simp;omega
 have ht1:List.take rest.length (rest.map (Gl.enc .sub))=rest.map (Gl.enc .sub):=List.take_of_length_le (by simp);generalize ((S.steps+1:Nat):Int)=m at*
 generalize mB s S'=X at*
 simp[quh,qkN,qkM,qkL,qra,qkK,qkJ,qkI,qLi,qkH,qgI,h,hl2,qcW,splice,hwr,hg,hn2,hz3,cut,ht1,qLb,hr]
theorem qEc(s:List SymL)(S S':MS)(f:Int)(p t:T)(rest:List Gl)(u:List Bd)(pre r:qam)(hd:S.done=false)(ho:S.steps+1<=20000)
 (hrec:∀r',qac XV 322 [.ptr pre.length 0,.d (p.enc .sub),.d (t.enc .sub),.d (qaS .sub rest),.d (binds .sub u)] (pre++some (mB s S.step)::r')=some (.d (.tup []),pre++some (mB s S')::r')):
 qac XV 318 [.ptr pre.length 0,.d (qaS .sub (⟨false,f,[p],[t]⟩::rest)),.d (binds .sub u)] (pre++some (mB s S)::r)=some (.d (.tup []),pre++some (mB s S')::r):=by
 obtain⟨pf,pv,pk⟩:=p;obtain⟨tf,tv,tk⟩:=t;rw[qah XV _ _ _ quh rfl qfK rfl];have h:=qgP s S pre (r++[some [.d (binds .sub u)]]);rw[hd]at h;have hl2:pre.length<pre.length+(r.length+1+1):=by omega
 have hn2:¬(pre.length+(r.length+1+1)<=pre.length):=by omega
 have hn4:¬(r.length+2<=r.length):=by omega
 have hwr:IntKind.i64.wrap ((S.steps:Int)+1)=((S.steps+1:Nat):Int):=by rw[IntKind.wrap_i64];omega
 have hg:¬(20000:Int)<((S.steps+1:Nat):Int):=by omega
 have hdo:decide (20000<S.steps+1)=false:=by simp;omega
 have hov:S.over=false:=by unfold MS.done at hd;simp only[Bool.or_eq_false_iff]at hd;exact hd.1
 have e:mB s S=[.d (sg s),.d (qbJ S.ways),.d (.int .i64 60),.d (.int .i64 S.steps),.d (.int .i64 20000),.d (.bool false)]:=by unfold mB qyr;rw[hov]
 have e2:mB s S.step=[.d (sg s),.d (qbJ S.ways),.d (.int .i64 60),.d (.int .i64 (S.steps+1:Nat)),.d (.int .i64 20000),.d (.bool false)]:=by
  unfold mB qyr MS.step;rw[hdo]
 have hr:=hrec (r++[some [.d (binds .sub u)],some [.d (.bool false),.d (.int .i64 f),.d (.sl .sub [(T.node pf pv pk).enc .sub]),.d (.sl .sub [(T.node tf tv tk).enc .sub])]]);rw[e2]at hr;rw[e]at h;rw[e];have hz3:(((rest.length:Int)+1)==0)=false:=by simp;omega
 have ht1:List.take rest.length (rest.map (Gl.enc .sub))=rest.map (Gl.enc .sub):=List.take_of_length_le (by simp);generalize ((S.steps+1:Nat):Int)=m at*
 generalize mB s S'=X at*
 simp[quh,qkN,qkM,qkL,qra,qkK,qkJ,qkI,qLi,qkH,qgI,qOB,h,hl2,qcW,splice,hwr,hg,hn2,hn4,hz3,cut,ht1,hr]
section
variable (s:List SymL) (p t:T) (rest:List Gl) (u:List Bd) (k:Nat) (Q Q':qam)
theorem qDk(hs:s.length<=1099511627776)(hv:p.f= -1)(hb:qbP u p.v=none)(hu:u.length<=1099511627776)(hk:k<Q.length)(hQ:Q'.length=Q.length)
 (hrec:∀e,qac XV 318 [.ptr k 0,.d (qaS .sub rest),.d (binds .sub (qgj u p.v t))] (Q++e)=some (.d (.tup []),Q'++e)):
 qac XV 322 [.ptr k 0,.d (p.enc .sub),.d (t.enc .sub),.d (qaS .sub rest),.d (binds .sub u)] Q=some (.d (.tup []),Q'):=by
 obtain⟨pf,pv,pk⟩:=p;obtain⟨tf,tv,tk⟩:=t;simp only[T.qbe,T.qdM]at hv hb hrec;subst hv;rw[qah XV _ _ _ qrP rfl qet rfl];have h1:=qdh (.node (-1) pv pk);simp only[T.qbe,BEq.rfl]at h1;have h2:=qjM u pv hu;rw[hb]at h2;simp only at h2;have h3:=qDe .sub .sub (by simp) (by simp) u pv (.node tf tv tk) [] hu;have hr:=hrec [some [.d (.int .i64 (-1)),.d (.int .i64 pv),.d (qaa .sub pk)],some [.d (.int .i64 tf),.d (.int .i64 tv),.d (qaa .sub tk)],some [.d (.int .i64 0),.d (.int .i64 0),.d (qaa .sub [])]];generalize qgj u pv (.node tf tv tk)=u2 at*
 simp[qrP,qjc,qjb,qja,qi9,qi8,qi7,qi6,qi5,qi4,qfS,qfR,qfQ,qfP,h1,h2,h3,hr,hQ,splice]
theorem qyk(j:Nat)(hv:p.f= -1)(hb:qbP u p.v=some j)(hu:small u)(ht:t.inner<=1099511627776)(hk:k<Q.length)(hQ:Q'.length=Q.length)
 (hrec:(T.cmp (bAt u j).t t==0)=true->∀e,qac XV 318 [.ptr k 0,.d (qaS .sub rest),.d (binds .sub u)] (Q++e)=some (.d (.tup []),Q'++e)) (hno:(T.cmp (bAt u j).t t==0)=false->Q'=Q):
 qac XV 322 [.ptr k 0,.d (p.enc .sub),.d (t.enc .sub),.d (qaS .sub rest),.d (binds .sub u)] Q=some (.d (.tup []),Q'):=by
 obtain⟨pf,pv,pk⟩:=p;simp only[T.qbe,T.qdM]at hv hb hrec;subst hv;have hj:=(qcd _ _ _ _ (show qax (fun i=>(bAt u i).v==pv) u.length 0=some j from hb)).2.1;have h3:=same_eq (bAt u j).t t (hu.2 j (by omega)) ht;obtain⟨tf,tv,tk⟩:=t;rw[qah XV _ _ _ qrP rfl qet rfl];have h1:=qdh (.node (-1) pv pk);simp only[T.qbe,BEq.rfl]at h1;have h2:=qjM u pv hu.1;rw[hb]at h2;simp only at h2;generalize (bAt u j).t=w at*
 obtain⟨wf,wv,wk⟩:=w;cases hc:(T.cmp (.node wf wv wk) (.node tf tv tk)==0)with
 |true=>
  rw[hc]at h3;have hr:=hrec hc [some [.d (.int .i64 (-1)),.d (.int .i64 pv),.d (qaa .sub pk)],some [.d (.int .i64 tf),.d (.int .i64 tv),.d (qaa .sub tk)],some [.d (.int .i64 wf),.d (.int .i64 wv),.d (qaa .sub wk)]];simp[qrP,qjc,qjb,qja,qi9,qi8,qi7,qi6,qi5,qi4,qfS,qfR,qfQ,qfP,h1,h2,h3,hr,hQ,splice]
 |false=>
  rw[hc]at h3;rw[hno hc];simp[qrP,qjc,qjb,qja,qi9,qi8,qi7,qi6,qi5,qi4,qfS,qfR,qfQ,qfP,h1,h2,h3,splice]
end
theorem qt6(a:List DV)(c:List Gl)(g:Tag)(h2:∀y,y∈a->y.cells.length=4)(hl:(a.length+c.length)*64<=140737488355328):qa7 4 64 (.sl U a) (.sl g (c.map (Gl.enc .sub)))=some (.sl U (a++c.map (Gl.enc .sub))):=by
 have h0:(c.map (Gl.enc .sub)).all (fun e=>decide (e.cells.length=4/\e.cells.all DV.isCell=true))=true:=by
  rw[List.all_eq_true];intro y hy;obtain⟨z,_,rfl⟩:=List.mem_map.1 hy;simp[DV.isCell]
 have h1:a.all (fun e=>decide (e.cells.length=4))=true:=by
  rw[List.all_eq_true];intro y hy;simpa using h2 y hy
 unfold qa7;simp only;rw[if_pos h0];cases c with
 |nil=>simp
 |cons x r=>
  simp only[List.map_cons,List.isEmpty_cons,Bool.false_eq_true,if_false];rw[if_pos ⟨by simpa using hl,trivial,h1⟩]
section
variable (s:List SymL) (p t:T) (rest:List Gl) (u:List Bd) (k:Nat) (Q Q':qam)
theorem qyj(hv:p.f≠-1)(hd:p.f≠t.f)(hk:k<Q.length):
 qac XV 322 [.ptr k 0,.d (p.enc .sub),.d (t.enc .sub),.d (qaS .sub rest),.d (binds .sub u)] Q=some (.d (.tup []),Q):=by
 obtain⟨pf,pv,pk⟩:=p;obtain⟨tf,tv,tk⟩:=t;simp only[T.qbe]at hv hd;rw[qah XV _ _ _ qrP rfl qet rfl];have h1:=qdh (.node pf pv pk);have hb:(pf== -1)=false:=by simpa using hv
 simp only[T.qbe,hb]at h1;have hd2:(pf !=tf)=true:=by simpa using hd
 simp[qrP,qjc,qjb,qja,qi9,qi8,qi7,qi6,qi5,qi4,qfS,qfR,qfQ,qfP,h1,hd2]
theorem qyl(tl:List AV)(hs:s.length<=1099511627776)(hv:p.f≠-1)(hd:p.f=t.f)(hbl:qaM s p.f=true)(hk:k<Q.length)(hQ:Q'.length=Q.length)(hbx:Q[k]?=some (some (.d (sg s)::tl)))(hl:rest.length<=1000000000)
 (hrec:∀e,qac XV 318 [.ptr k 0,.d (qaS .sub (qbk p.f p.kids t.kids::rest)),.d (binds .sub u)] (Q++e)=some (.d (.tup []),Q'++e)):
 qac XV 322 [.ptr k 0,.d (p.enc .sub),.d (t.enc .sub),.d (qaS .sub rest),.d (binds .sub u)] Q=some (.d (.tup []),Q'):=by
 obtain⟨pf,pv,pk⟩:=p;obtain⟨tf,tv,tk⟩:=t;simp only[T.qbe,T.qbc]at hv hd hbl hrec;subst hd;rw[qah XV _ _ _ qrP rfl qet rfl];have h1:=qdh (.node pf pv pk);have hb:(pf== -1)=false:=by simpa using hv
 simp only[T.qbe,hb]at h1;have h2:=qdr s hs pf;rw[hbl]at h2;have hk1:k<Q.length+2:=by omega
 have hr:=hrec [some [.d (.int .i64 pf),.d (.int .i64 pv),.d (qaa .sub pk)],some [.d (.int .i64 pf),.d (.int .i64 tv),.d (qaa .sub tk)]];have hg:∀e,(Q++e)[k]?=some (some (.d (sg s)::tl)):=fun e=>by rw[ye_ hk];exact hbx
 have hx:Q[k]=some (.d (sg s)::tl):=by rw[List.getElem?_eq_getElem hk]at hbx;simpa using hbx
 have hn:¬(Q.length+2<=k):=by omega
 have hn2:¬(Q.length+2<=Q.length):=by omega
 have ha:=qt6 [(qbk pf pk tk).enc .sub] rest .sub (by simp) (by simp;omega);simp only[List.map_cons,qbk,qaS]at hr ha;simp[qrP,qjc,qjb,qja,qi9,qi8,qi7,qi6,qi5,qEG,qi4,qfS,qfR,qfQ,qfP,h1,h2,hk,hk1,hQ,hx,hn,hn2,ha,qLb,hr,splice]
end
theorem qK1(l:List T)(i:Nat)(h:i<l.length):List.drop i (List.take (i+1) (l.map (T.enc .sub)))=[(tAt l i).enc .sub]:=by
 have h1:i<(l.map (T.enc .sub)).length:=by simpa using h
 rw[List.drop_take,show i+1-i=1 by omega,List.drop_eq_getElem_cons h1];simp[qap h]
theorem qul{α:Type}(Q:List α)(x y:α):(Q++[x,y]).take (Q.length+2)=Q++[x,y]:=List.take_of_length_le (by simp)
def qbm(ps ts:List T)(n:Nat):List Gl:=(List.range n).map fun i=>qbY (tAt ps i) (tAt ts i)
theorem qlb(ps ts:List T)(n:Nat):qbm ps ts (n+1)=qbm ps ts n++[qbY (tAt ps n) (tAt ts n)]:=by
 unfold qbm;rw[List.range_succ,List.map_append];rfl
theorem qmV(ps ts:List T)(n:Nat):(qbm ps ts n).length=n:=by unfold qbm;simp
theorem qqJ(l:List Gl):∀y,y∈l.map (Gl.enc .sub)->y.cells.length=4:=fun y hy=>by
 obtain⟨z,_,rfl⟩:=List.mem_map.1 hy;rfl
section
variable (s:List SymL) (p t:T) (rest:List Gl) (u:List Bd) (k:Nat) (Q Q':qam)
theorem qDj(tl:List AV)(hs:s.length<=1099511627776)(hv:p.f≠-1)(hd:p.f=t.f)(hbl:qaM s p.f=false)(hk:k<Q.length)(hbx:Q[k]?=some (some (.d (sg s)::tl)))(hne:p.kids.length≠t.kids.length):
 qac XV 322 [.ptr k 0,.d (p.enc .sub),.d (t.enc .sub),.d (qaS .sub rest),.d (binds .sub u)] Q=some (.d (.tup []),Q):=by
 obtain⟨pf,pv,pk⟩:=p;obtain⟨tf,tv,tk⟩:=t;simp only[T.qbe,T.qbc]at hv hd hbl hne;subst hd;rw[qah XV _ _ _ qrP rfl qet rfl];have h1:=qdh (.node pf pv pk);have hb:(pf== -1)=false:=by simpa using hv
 simp only[T.qbe,hb]at h1;have h2:=qdr s hs pf;rw[hbl]at h2;have hk1:k<Q.length+2:=by omega
 have hx:Q[k]=some (.d (sg s)::tl):=by rw[List.getElem?_eq_getElem hk]at hbx;simpa using hbx
 have hn:¬(Q.length+2<=k):=by omega
 have hn2:¬(Q.length+2<=Q.length):=by omega
 have h5:((pk.length:Int) !=tk.length)=true:=by simp;omega
 simp[qrP,qjc,qjb,qja,qi9,qi8,qi7,qi6,qi5,qEG,qi4,qfS,qfR,qfQ,qfP,h1,h2,h5,hk,hk1,hx,hn,hn2]
theorem qDi(tl:List AV)(hs:s.length<=1099511627776)(hv:p.f≠-1)(hd:p.f=t.f)(hbl:qaM s p.f=false)(hk:k<Q.length)(hQ:Q'.length=Q.length)(hbx:Q[k]?=some (some (.d (sg s)::tl)))(he:p.kids.length=t.kids.length)
 (hl:rest.length<=1000000000) (hpl:p.kids.length<=1000000000)
 (hrec:∀e,qac XV 318 [.ptr k 0,.d (qaS .sub (qbm p.kids t.kids p.kids.length++rest)),.d (binds .sub u)] (Q++e)=some (.d (.tup []),Q'++e)):
 qac XV 322 [.ptr k 0,.d (p.enc .sub),.d (t.enc .sub),.d (qaS .sub rest),.d (binds .sub u)] Q=some (.d (.tup []),Q'):=by
 obtain⟨pf,pv,pk⟩:=p;obtain⟨tf,tv,tk⟩:=t;simp only[T.qbe,T.qbc]at hv hd hbl hrec he hpl;subst hd;rw[qah XV _ _ _ qrP rfl qet rfl];have h1:=qdh (.node pf pv pk);have hb:(pf== -1)=false:=by simpa using hv
 simp only[T.qbe,hb]at h1;have h2:=qdr s hs pf;rw[hbl]at h2;have hk1:k<Q.length+2:=by omega
 have hx:Q[k]=some (.d (sg s)::tl):=by rw[List.getElem?_eq_getElem hk]at hbx;simpa using hbx
 have hn:¬(Q.length+2<=k):=by omega
 have hn2:¬(Q.length+2<=Q.length):=by omega
 have h5:((pk.length:Int) !=tk.length)=false:=by simp;omega
 have hn3:¬(Q.length+2<=Q.length+1):=by omega
 have h:=qag (X:=XV) (T:=XV.lin 322) (L:=Q.length+2) (live:=[0,3,4,6,7,12,77,78]) (b:=qxb) (n:=pk.length) (γ:=Nat) (st:=fun(_:Unit) i=>⟨[(0,.ptr k 0),(3,.d (qaS .sub rest)),(4,.d (binds .sub u)),(6,.ptr Q.length 0),(7,.ptr (Q.length+1) 0),(12,.d (.sl U ((qbm pk tk i).map (Gl.enc .sub)))),(77,.d (.int .i64 pk.length)),(78,.d (.int .i64 i))],Q++[some [.d (.int .i64 pf),.d (.int .i64 pv),.d (qaa .sub pk)],some [.d (.int .i64 pf),.d (.int .i64 tv),.d (qaa .sub tk)]]⟩) (step:=qcm)
  (F:=fun _=>(.exit 1,⟨[(0,.ptr k 0),(3,.d (qaS .sub rest)),(4,.d (binds .sub u)),(6,.ptr Q.length 0),(7,.ptr (Q.length+1) 0),(12,.d (.sl U ((qbm pk tk pk.length).map (Gl.enc .sub)))),(77,.d (.int .i64 pk.length)),(78,.d (.int .i64 pk.length)),(79,.d (.bool false))],Q++[some [.d (.int .i64 pf),.d (.int .i64 pv),.d (qaa .sub pk)],some [.d (.int .i64 pf),.d (.int .i64 tv),.d (qaa .sub tk)]]⟩)) (R:=fun _=>(.ret,⟨[],[]⟩))
  (fun a=>⟨by simp,by simp[qxb,qsv,qsu,qss]⟩)
  (fun a i hi=>by
   have hw:=qaf (n:=i) (by omega);have hi':i<tk.length:=by omega
   have o1:=qK1 pk i hi;have o2:=qK1 tk i hi';have ha:=qt6 ((qbm pk tk i).map (Gl.enc .sub)) [qbY (tAt pk i) (tAt tk i)] U (qqJ _) (by rw[List.length_map,qmV];simp;omega);rw[<-List.map_append,<-qlb]at ha;generalize hR2:(qbm pk tk (i+1)).map (Gl.enc .sub)=R2 at ha;generalize (qbm pk tk i).map (Gl.enc .sub)=R1 at*
   have hb4:qa7 4 64 (.sl U R1) (.sl U [.agg [.bool false,.int .i64 0,.sl .sub [(tAt pk i).enc .sub],.sl .sub [(tAt tk i).enc .sub]]])=some (.sl U R2):=ha;have h4:i+1<=pk.length:=by omega
   have h6:i+1<=tk.length:=by omega
   have h7:(0:Int)<=(i:Int)+1:=by omega
   unfold qcm;exact⟨_,by simp[qxb,qsv,qsu,qOy,qss,hi,hw,o1,o2,hb4,splice,h4,h6,h7,hn2,hn3];rfl,by simp[qad,qab,qul,hk1,hR2]⟩)
  pk.length () 0 ⟨[(0,.ptr k 0),(3,.d (qaS .sub rest)),(4,.d (binds .sub u)),(6,.ptr Q.length 0),(7,.ptr (Q.length+1) 0),(12,.d (.sl U [])),(77,.d (.int .i64 pk.length)),(78,.d (.int .i64 0))],Q++[some [.d (.int .i64 pf),.d (.int .i64 pv),.d (qaa .sub pk)],some [.d (.int .i64 pf),.d (.int .i64 tv),.d (qaa .sub tk)]]⟩ (by omega) (by simp[qad,qab,qbm,hk1,qul])
 rw[qj6]at h;simp only[qNw]at h;have ha:=qt6 ((qbm pk tk pk.length).map (Gl.enc .sub)) rest .sub (qqJ _) (by rw[List.length_map,qmV];omega);have hr:=hrec [some [.d (.int .i64 pf),.d (.int .i64 pv),.d (qaa .sub pk)],some [.d (.int .i64 pf),.d (.int .i64 tv),.d (qaa .sub tk)]];simp only[qaS,List.map_append]at hr;have hcm:((qbm pk tk pk.length).map (Gl.enc .sub)).map DV.clr=(qbm pk tk pk.length).map (Gl.enc .sub):=by rw[List.map_map,qtX]
 generalize (qbm pk tk pk.length).map (Gl.enc .sub)=R1 at*
 simp[qrP,qjc,qjb,qja,qi9,qi8,qi7,qi6,qi5,qEG,qi4,qfS,qfR,qfQ,qfP,h1,h2,h5,hk,hk1,hx,hn,hn2];rw[h];simp[hQ,ha,hr,hcm]
end
theorem qN5(f:Int)(p:T)(ps ts r:List T)(more rest:List Gl)(u:List Bd)(k:Nat)(Q Q' e:qam)(hk:k<Q.length)(hQ:Q'.length=Q.length)(hl:more.length+1+rest.length<=1099511627776)(hp:ps.length<=1099511627776)
 (hrec:∀e,qac XV 318 [.ptr k 0,.d (qaS .sub (more++(qbk f ps r::rest))),.d (binds .sub u)] (Q++e)=some (.d (.tup []),Q'++e)):
 qac XV 327 [.d (qaa .sub r),.d (qaS .sub more),.d (binds .sub u),.ptr Q.length 0,.ptr (Q.length+1) 0,.ptr (Q.length+2) 0]
  (Q++some [.ptr k 0]::some [.d (.bool true),.d (.int .i64 f),.d (qaa .sub (p::ps)),.d (qaa .sub ts)]::some [.d (qaS .sub rest)]::e)=
 some (.d (.tup []),Q'++some [.ptr k 0]::some [.d (.bool true),.d (.int .i64 f),.d (qaa .sub (p::ps)),.d (qaa .sub ts)]::some [.d (qaS .sub rest)]::e):=by
 rw[qah XV _ _ _ qPY rfl qzZ rfl];have hr:=hrec (some [.ptr k 0]::some [.d (.bool true),.d (.int .i64 f),.d (qaa .sub (p::ps)),.d (qaa .sub ts)]::some [.d (qaS .sub rest)]::e);have hc:=qtu .sub .sub .sub .sub (by simp) (by simp) (by simp) more [qbk f ps r] rest [] (by simp) (by simp;omega);simp only[List.cons_append,List.nil_append]at hc;have ht:List.take ps.length (ps.map (T.enc .sub))=ps.map (T.enc .sub):=List.take_of_length_le (by simp);have hn1:¬(Q.length+(e.length+1+1+1)<=Q.length):=by omega
 have hn2:¬(Q.length+(e.length+1+1+1)<=Q.length+1):=by omega
 have hn3:¬(Q.length+(e.length+1+1+1)<=Q.length+2):=by omega
 simp only[qaS,List.map_cons,List.map_nil]at hc;simp only[qaS,List.map_append,List.map_cons]at hr;have hg:(qbk f ps r).enc .sub= .agg [.bool true,.int .i64 f,qaa .sub ps,qaa .sub r]:=rfl;rw[hg]at hc;simp[qPY,qT9,ht,hn1,hn2,hn3,hc,hr,splice];exact List.take_of_length_le (by simp;omega)
section
variable (s:List SymL) (f:Int) (ts:List T) (rest:List Gl) (u:List Bd) (k:Nat) (Q Q':qam)
theorem qDG(hk:k<Q.length)(hQ:Q'.length=Q.length)(hrec:ts.length=0->∀e,qac XV 318 [.ptr k 0,.d (qaS .sub rest),.d (binds .sub u)] (Q++e)=some (.d (.tup []),Q'++e))(hno:ts.length≠0->Q'=Q):
 qac XV 321 [.ptr k 0,.d ((Gl.mk true f [] ts).enc .sub),.d (qaS .sub rest),.d (binds .sub u)] Q=some (.d (.tup []),Q'):=by
 rw[qah XV _ _ _ qr4 rfl qgW rfl]
 by_cases c:ts.length=0
 ·have hc:ts=[]:=List.length_eq_zero_iff.1 c
  have hr:=hrec c [some [.ptr k 0],some [.d (.bool true),.d (.int .i64 f),.d (qaa .sub []),.d (qaa .sub [])],some [.d (qaS .sub rest)]];subst hc;simp[qr4,qhg,qhf,qhe,qhd,qhc,qhb,qha,qg9,qe5,qe4,qe3,qe2,qe1,qe0,qeZ,qeY,qeX,hr,hk,hQ]
 ·have hc:((ts.length:Int)==0)=false:=by simpa using c
  rw[hno c];simp[qr4,qhg,qhf,qhe,qhd,qhc,qhb,qha,qg9,qe5,qe4,qe3,qe2,qe1,qe0,qeZ,qeY,qeX,hc,hk]
theorem qyv(p:T)(ps:List T)(j:Nat)(hv:p.f= -1)(hb:qbP u p.v=some j)(hu:small u)(hk:k<Q.length)(hQ:Q'.length=Q.length)(hl:rest.length<=1000000000)(hp:ps.length<=1000000000)
 (htl:ts.length<=1099511627776) (hts:∀x,x∈ts->x.inner<=1099511627776)
 (hrec:∀r,takeN ts (partsOf f (bAt u j).t)= .inl r->∀e,qac XV 318 [.ptr k 0,.d (qaS .sub (qbk f ps r::rest)),.d (binds .sub u)] (Q++e)=some (.d (.tup []),Q'++e)) (hno:∀r,takeN ts (partsOf f (bAt u j).t)= .inr r->Q'=Q):
 qac XV 321 [.ptr k 0,.d ((Gl.mk true f (p::ps) ts).enc .sub),.d (qaS .sub rest),.d (binds .sub u)] Q=some (.d (.tup []),Q'):=by
 obtain⟨pf,pv,pk⟩:=p;simp only[T.qbe,T.qdM]at hv hb hrec;subst hv;have hj:=(qcd _ _ _ _ (show qax (fun i=>(bAt u i).v==pv) u.length 0=some j from hb)).2.1;rw[qah XV _ _ _ qr4 rfl qgW rfl];have h1:=qdh (.node (-1) pv pk);simp only[T.qbe,BEq.rfl]at h1;have h2:=qjM u pv hu.1;rw[hb]at h2;simp only at h2;have hw:=hu.2 j (by omega);generalize (bAt u j).t=w at*
 obtain⟨wf,wv,wk⟩:=w;have hwi:∀x,x∈partsOf f (.node wf wv wk)->x.inner<=1099511627776:=fun x hx=>by
  unfold partsOf at hx;split at hx
  ·simp only[T.inner]at hw
   simp only[T.qbc]at hx;have:=T.qay hx;omega
  ·simp at hx;subst hx;exact hw
 have hwl:(partsOf f (.node wf wv wk)).length<=1099511627776:=by
  unfold partsOf;split
  ·have h9:=T.qgv (.node wf wv wk)
   simp only[T.qbc]at h9⊢
   omega
  ·simp
 have htk:=qGK ts (partsOf f (.node wf wv wk)) htl hwl hts hwi;have hp1:(((ps.length:Int)+1)==0)=false:=by simp;omega
 cases hc:takeN ts (partsOf f (.node wf wv wk))with
 |inl r=>
  rw[hc]at htk;have hgo:=qN5 f (.node (-1) pv pk) ps ts r [] rest u k Q Q' [some [.d (.int .i64 (-1)),.d (.int .i64 pv),.d (qaa .sub pk)],some [.d (.int .i64 wf),.d (.int .i64 wv),.d (qaa .sub wk)]] hk hQ (by simp;omega) (by omega) (by simpa using hrec r hc);simp only[qaS,List.map_nil]at hgo
  by_cases c:wf=f
  ·have ep:partsOf f (.node wf wv wk)=wk:=by unfold partsOf;rw[if_pos (show(T.node wf wv wk).f=f from c)];rfl
   rw[ep]at htk;subst c;simp only at htk;simp[qr4,qhg,qhf,qhe,qhd,qhc,qhb,qha,qg9,qe5,qe4,qe3,qe2,qe1,qe0,qeZ,qeY,qeX,h1,h2,htk,hgo,hk,hQ,hp1,splice,cut]
  ·have ep:partsOf f (.node wf wv wk)=[.node wf wv wk]:=by unfold partsOf;rw[if_neg (show¬(T.node wf wv wk).f=f from c)]
   rw[ep]at htk;have c2:(wf==f)=false:=by simpa using c
   simp only[qaa,List.map_cons,List.map_nil]at htk;simp[qr4,qhg,qhf,qhe,qhd,qhc,qhb,qha,qg9,qe5,qe4,qe3,qe2,qe1,qe0,qeZ,qeY,qeX,h1,h2,c2,htk,hgo,hk,hQ,hp1,splice,cut]
 |inr r=>
  rw[hc]at htk;rw[hno r hc]
  by_cases c:wf=f
  ·have ep:partsOf f (.node wf wv wk)=wk:=by unfold partsOf;rw[if_pos (show(T.node wf wv wk).f=f from c)];rfl
   rw[ep]at htk;subst c;simp only at htk;simp[qr4,qhg,qhf,qhe,qhd,qhc,qhb,qha,qg9,qe5,qe4,qe3,qe2,qe1,qe0,qeZ,qeY,qeX,h1,h2,htk,hk,hp1,splice,cut]
  ·have ep:partsOf f (.node wf wv wk)=[.node wf wv wk]:=by unfold partsOf;rw[if_neg (show¬(T.node wf wv wk).f=f from c)]
   rw[ep]at htk;have c2:(wf==f)=false:=by simpa using c
   simp only[qaa,List.map_cons,List.map_nil]at htk;simp[qr4,qhg,qhf,qhe,qhd,qhc,qhb,qha,qg9,qe5,qe4,qe3,qe2,qe1,qe0,qeZ,qeY,qeX,h1,h2,c2,htk,hk,hp1,splice,cut]
end
theorem sA4{α:Type}{B:List α}{N:Nat}(h:B.length=N)(a b c d e v:α)(r:List α):(B++a::b::c::d::e::r).set (N+4) v=B++a::b::c::d::v::r:=by subst h;rw[List.set_append_right _ _ (by omega),show B.length+4-B.length=4 by omega];rfl
theorem tA4{α:Type}{B:List α}{N:Nat}(h:B.length=N)(a b c d:α)(r:List α):(B++a::b::c::d::r).take (N+4)=B++[a,b,c,d]:=by
 subst h;rw[show B++a::b::c::d::r=(B++[a,b,c,d])++r by simp,List.take_left' (by simp)]
theorem qyt(f:Int)(p:T)(ps ts:List T)(rest:List Gl)(u:List Bd)(k:Nat)(Qs:Nat->qam)(N:Nat)(hN:∀i,(Qs i).length=N)(hv:p.f≠-1)(hk:k<N)(hl:rest.length<=1000000000)(hp:ps.length<=1000000000)(htl:ts.length<=1000000000)
 (hrec:∀i,i<ts.length->∀e,qac XV 318 [.ptr k 0,.d (qaS .sub (qbY p (tAt ts i)::qbk f ps (qbp ts i)::rest)),.d (binds .sub u)] (Qs i++e)=some (.d (.tup []),Qs (i+1)++e)):
 qac XV 321 [.ptr k 0,.d ((Gl.mk true f (p::ps) ts).enc .sub),.d (qaS .sub rest),.d (binds .sub u)] (Qs 0)=some (.d (.tup []),Qs ts.length):=by
 obtain⟨pf,pv,pk⟩:=p;simp only[T.qbe]at hv;rw[qah XV _ _ _ qr4 rfl qgW rfl];have h1:=qdh (.node pf pv pk);have hb:(pf== -1)=false:=by simpa using hv
 simp only[T.qbe,hb]at h1;have h:=qag (X:=XV) (T:=XV.lin 321) (L:=N+4) (live:=[3,5,8,9,43,44,45]) (b:=qxc) (n:=ts.length) (γ:=Nat)
  (st:=fun(_:Unit) i=>⟨[(3,.d (binds .sub u)),(5,.ptr (N+1) 0),(8,.ptr (N+3) 0),(9,.fn 327 [.ptr N 0,.ptr (N+1) 0,.ptr (N+2) 0]),(43,.d (qaa .sub ts)),(44,.d (.int .i64 ts.length)),(45,.d (.int .i64 i))],
   Qs i++[some [.ptr k 0],some [.d (.bool true),.d (.int .i64 f),.d (qaa .sub (.node pf pv pk::ps)),.d (qaa .sub ts)],some [.d (qaS .sub rest)],some [.d (.int .i64 pf),.d (.int .i64 pv),.d (qaa .sub pk)]]⟩) (step:=qcm)
  (F:=fun _=>(.exit 0,⟨[(3,.d (binds .sub u)),(5,.ptr (N+1) 0),(8,.ptr (N+3) 0),(9,.fn 327 [.ptr N 0,.ptr (N+1) 0,.ptr (N+2) 0]),(43,.d (qaa .sub ts)),(44,.d (.int .i64 ts.length)),(45,.d (.int .i64 ts.length)),(46,.d (.bool false))],
   Qs ts.length++[some [.ptr k 0],some [.d (.bool true),.d (.int .i64 f),.d (qaa .sub (.node pf pv pk::ps)),.d (qaa .sub ts)],some [.d (qaS .sub rest)],some [.d (.int .i64 pf),.d (.int .i64 pv),.d (qaa .sub pk)]]⟩)) (R:=fun _=>(.ret,⟨[],[]⟩))
  (fun a=>⟨by simp,by simp[qxc,qBJ,qBI,qsx]⟩)
  (fun a i hi=>by
   have hw:=qaf (n:=i) (by omega);have hq:=hN i;have hq1:=hN (i+1);have hr:=hrec i hi;have hwo:=qmi .sub (by simp) ts i [] hi (by omega);have htt:=qap hi;generalize hti:tAt ts i=t at*
   obtain⟨tf,tv,tk⟩:=t;have hgo:=qN5 f (.node pf pv pk) ps ts (qbp ts i) [qbY (.node pf pv pk) (.node tf tv tk)] rest u k (Qs i) (Qs (i+1)) [some [.d (.int .i64 pf),.d (.int .i64 pv),.d (qaa .sub pk)],some [.d (.int .i64 tf),.d (.int .i64 tv),.d (qaa .sub tk)]] (by omega) (by omega) (by simp;omega) (by omega) hr;rw[hq]at hgo;have hpe:qaS .sub [qbY (.node pf pv pk) (.node tf tv tk)]= .sl .sub [.agg [.bool false,.int .i64 0,.sl .sub [(T.node pf pv pk).enc .sub],.sl .sub [(T.node tf tv tk).enc .sub]]]:=rfl;rw[hpe]at hgo;unfold qbp at hgo;simp only[qaa,List.map_append,List.map_take,List.map_drop]at hgo;unfold qcm;refine⟨_,by simp[qxc,qBJ,qBI,qOA,qsx,hi,hw,cut,htt,hwo,hgo,sA4 hq,hq,hq1,splice];rfl,?_⟩;simp[qad,qab,tA4 hq1,hq1])
  ts.length () 0 ⟨[(3,.d (binds .sub u)),(5,.ptr (N+1) 0),(8,.ptr (N+3) 0),(9,.fn 327 [.ptr N 0,.ptr (N+1) 0,.ptr (N+2) 0]),(43,.d (qaa .sub ts)),(44,.d (.int .i64 ts.length)),(45,.d (.int .i64 0))],
   Qs 0++[some [.ptr k 0],some [.d (.bool true),.d (.int .i64 f),.d (qaa .sub (.node pf pv pk::ps)),.d (qaa .sub ts)],some [.d (qaS .sub rest)],some [.d (.int .i64 pf),.d (.int .i64 pv),.d (qaa .sub pk)]]⟩ (by omega) (by simp[qad,qab,tA4 (hN 0),hN 0])
 rw[qj6]at h;simp only[qtk]at h;have hq:=hN 0;have hq2:=hN ts.length;have hp1:(((ps.length:Int)+1)==0)=false:=by simp;omega
 simp[qr4,qhg,qhf,qhe,qhd,qhc,qhb,qha,qg9,qe5,qe4,qe3,qe2,qe1,qe0,qeZ,qeY,qeX,h1,hp1,hk,hq,splice,cut];rw[h];simp[hq2]
theorem qFd(ts:List T)(m:Nat)(u:List Bd)(N:Nat)(Bx:qam)(hB:Bx.length=N+5)(hl:ts.length<=30)(hm:m<1099511627776):
 qbu XV (XV.lin 321) (N+5) [3,4,5,8,9,17,18,19,109,110,111] qnk ⟨[(3,.d (binds .sub u)),(4,.ptr N 0),(5,.ptr (N+1) 0),(8,.ptr (N+3) 0),(9,.fn 327 [.ptr N 0,.ptr (N+1) 0,.ptr (N+2) 0]),(17,.d (.int .i64 m)),(18,.d (.sl U [])),(19,.d (.sl U [])),(109,.d (qaa .sub ts)),(110,.d (.int .i64 ts.length)),(111,.d (.int .i64 0))],Bx⟩=
  some (.exit 4,⟨[(3,.d (binds .sub u)),(4,.ptr N 0),(5,.ptr (N+1) 0),(8,.ptr (N+3) 0),(9,.fn 327 [.ptr N 0,.ptr (N+1) 0,.ptr (N+2) 0]),(17,.d (.int .i64 m)),(18,.d (.sl U ((onB ts m ts.length).map (T.enc .sub)))),(19,.d (.sl U ((qeK ts m ts.length).map (T.enc .sub)))),(109,.d (qaa .sub ts)),(110,.d (.int .i64 ts.length)),(111,.d (.int .i64 ts.length)),(112,.d (.bool false))],Bx⟩):=by
 have h:=qag (X:=XV) (T:=XV.lin 321) (L:=N+5) (live:=[3,4,5,8,9,17,18,19,109,110,111]) (b:=qnk) (n:=ts.length) (γ:=Nat)
  (st:=fun(_:Unit) i=>⟨[(3,.d (binds .sub u)),(4,.ptr N 0),(5,.ptr (N+1) 0),(8,.ptr (N+3) 0),(9,.fn 327 [.ptr N 0,.ptr (N+1) 0,.ptr (N+2) 0]),(17,.d (.int .i64 m)),(18,.d (.sl U ((onB ts m i).map (T.enc .sub)))),(19,.d (.sl U ((qeK ts m i).map (T.enc .sub)))),(109,.d (qaa .sub ts)),(110,.d (.int .i64 ts.length)),(111,.d (.int .i64 i))],Bx⟩) (step:=qcm)
  (F:=fun _=>(.exit 4,⟨[(3,.d (binds .sub u)),(4,.ptr N 0),(5,.ptr (N+1) 0),(8,.ptr (N+3) 0),(9,.fn 327 [.ptr N 0,.ptr (N+1) 0,.ptr (N+2) 0]),(17,.d (.int .i64 m)),(18,.d (.sl U ((onB ts m ts.length).map (T.enc .sub)))),(19,.d (.sl U ((qeK ts m ts.length).map (T.enc .sub)))),(109,.d (qaa .sub ts)),(110,.d (.int .i64 ts.length)),(111,.d (.int .i64 ts.length)),(112,.d (.bool false))],Bx⟩)) (R:=fun _=>(.ret,⟨[],[]⟩))
  (fun a=>⟨by simp,by simp[qnk,qnT,qnS,qnR,qnQ,qnP,qnO]⟩)
  (fun a i hi=>by
   have hw:=qaf (n:=i) (by omega);have h1:=qta ts m i;have h2:=qoq ts m i;have a1:=qgt (onB ts m i) [tAt ts i] U (by simp;omega);have a2:=qgt (qeK ts m i) [tAt ts i] U (by simp;omega);simp only[List.map_cons,List.map_nil,List.map_append]at a1 a2;have hs1:=qBf m i (by omega);have hdm:m/2^i<4611686018427387904:=Nat.lt_of_le_of_lt (Nat.div_le_self _ _) (by omega);have hs2:=and_one (m/2^i) hdm;have hs3:=qFe m i;generalize m/2^i=q at hs1 hs2 hs3;generalize q%2=r at hs2 hs3;have htt:=qap hi;have hon:onB ts m (i+1)=if m.testBit i then onB ts m i++[tAt ts i]else onB ts m i:=rfl
   have hof:qeK ts m (i+1)=if m.testBit i then qeK ts m i else qeK ts m i++[tAt ts i]:=rfl
   generalize tAt ts i=t at*
   obtain⟨tf,tv,tk⟩:=t;have tB:∀(x:Option (List AV)) (r:qam),(Bx++x::r).take (N+5)=Bx:=fun x r=>by rw[<-hB];simp
   unfold qcm
   by_cases hb:m.testBit i=true
   ·exact⟨_,by simp[qnk,qnT,qnS,qnR,qnQ,qnP,qnO,hi,hw,cut,htt,a1,hs1,hs2,hs3,hb,hB,splice];rfl,by simp[qad,qab,hon,hof,hb,hB,tB]⟩
   ·exact⟨_,by simp[qnk,qnT,qnS,qnR,qnQ,qnP,qnO,hi,hw,cut,htt,a2,hs1,hs2,hs3,hb,hB,splice];rfl,by simp[qad,qab,hon,hof,hb,hB,tB]⟩)
  ts.length () 0 ⟨[(3,.d (binds .sub u)),(4,.ptr N 0),(5,.ptr (N+1) 0),(8,.ptr (N+3) 0),(9,.fn 327 [.ptr N 0,.ptr (N+1) 0,.ptr (N+2) 0]),(17,.d (.int .i64 m)),(18,.d (.sl U [])),(19,.d (.sl U [])),(109,.d (qaa .sub ts)),(110,.d (.int .i64 ts.length)),(111,.d (.int .i64 0))],Bx⟩ (by omega) (by simp[qad,qab,onB,qeK,hB];rw[<-hB];simp)
 rw[qj6]at h;exact h
theorem qsi(n:Nat)(hn:n<=40):qdJ .shl .i64 1 (n:Int)=some (.int .i64 ((2^n:Nat):Int)):=by
 unfold qdJ;have h0:¬((n:Int)<0):=by omega
 have hb:IntKind.i64.bits=64:=rfl;have hm:min n 64=n:=by omega
 have hp:2^n<=2^40:=Nat.pow_le_pow_right (by omega) hn;simp only[if_neg h0,Int.toNat_natCast,hb,hm,Option.some.injEq,DV.int.injEq,true_and,Int.one_mul];rw[show((2:Int)^n)=((2^n:Nat):Int)by rw[Int.natCast_pow];rfl,IntKind.wrap_i64];generalize 2^n=q at*
 omega
theorem tA5{α:Type}{B:List α}{N:Nat}(h:B.length=N)(a b c d f:α)(r:List α):(B++a::b::c::d::f::r).take (N+5)=B++[a,b,c,d,f]:=by
 subst h;rw[show B++a::b::c::d::f::r=(B++[a,b,c,d,f])++r by simp,List.take_left' (by simp)]
def qBa(D:Nat->Bool)(_:Unit)(i:Nat):Unit⊕Nat:=if D i then .inr i else .inl ()
theorem qjv(s:List SymL)(hs:s.length<=1099511627776)(f:Int)(pv:Int)(pk ps ts:List T)(rest:List Gl)(u:List Bd)(k:Nat)(Qs:Nat->qam)(D:Nat->Bool)(N:Nat)(hN:∀i,(Qs i).length=N)(hk:k<N)(hl:rest.length<=1000000000)(hp:ps.length<=1000000000)(htl:ts.length<=12)(hu:u.length<=1099511627776)
 (hD:∀i e,qac XV 319 [.ptr k 0] (Qs i++e)=some (.d (.bool (D i)),Qs i++e)) (tl:Nat->List AV) (hbx:∀i,(Qs i)[k]?=some (some (.d (sg s)::tl i))) (hcn:∀m,qaQ (onB ts m ts.length)<=1099511627776)
 (i:Nat) (hi:i+1<2^ts.length) (hnd:D i=false)
 (hrec:∀e,qac XV 318 [.ptr k 0,.d (qaS .sub (qbk f ps (qeK ts (i+1) ts.length)::rest)),.d (binds .sub (qgj u pv (qcR s f (onB ts (i+1) ts.length))))] (Qs i++e)=some (.d (.tup []),Qs (i+1)++e)):
 ∃e,qau XV (XV.lin 321) qnl ⟨[(3,.d (binds .sub u)),(4,.ptr N 0),(5,.ptr (N+1) 0),(8,.ptr (N+3) 0),(9,.fn 327 [.ptr N 0,.ptr (N+1) 0,.ptr (N+2) 0]),(17,.d (.int .i64 (i+1:Nat)))],
  Qs i++[some [.ptr k 0],some [.d (.bool true),.d (.int .i64 f),.d (qaa .sub (.node (-1) pv pk::ps)),.d (qaa .sub ts)],some [.d (qaS .sub rest)],some [.d (.int .i64 (-1)),.d (.int .i64 pv),.d (qaa .sub pk)],some [.d (.int .i64 0),.d (.int .i64 0),.d (qaa .sub [])]]⟩=
  some (.normal,⟨[(3,.d (binds .sub u)),(4,.ptr N 0),(5,.ptr (N+1) 0),(8,.ptr (N+3) 0),(9,.fn 327 [.ptr N 0,.ptr (N+1) 0,.ptr (N+2) 0]),(17,.d (.int .i64 (i+1+1:Nat)))],
   Qs (i+1)++some [.ptr k 0]::some [.d (.bool true),.d (.int .i64 f),.d (qaa .sub (.node (-1) pv pk::ps)),.d (qaa .sub ts)]::some [.d (qaS .sub rest)]::some [.d (.int .i64 (-1)),.d (.int .i64 pv),.d (qaa .sub pk)]::some [.d (.int .i64 0),.d (.int .i64 0),.d (qaa .sub [])]::e⟩):=by
 have h4096:2^ts.length<=2^12:=Nat.pow_le_pow_right (by omega) htl;have hsh:=qsi ts.length (by omega);have hlt:((i+1:Nat):Int)<((2^ts.length:Nat):Int):=by omega
 have hw:=qaf (n:=i+1) (by omega);have hq:=hN i;have hq1:=hN (i+1);have hbl:=qFd ts (i+1) u N (Qs i++[some [.ptr k 0],some [.d (.bool true),.d (.int .i64 f),.d (qaa .sub (.node (-1) pv pk::ps)),.d (qaa .sub ts)],some [.d (qaS .sub rest)],some [.d (.int .i64 (-1)),.d (.int .i64 pv),.d (qaa .sub pk)],some [.d (.int .i64 0),.d (.int .i64 0),.d (qaa .sub [])]]) (by simp[hq]) (by omega) (by omega);have hd:=hD i [some [.ptr k 0],some [.d (.bool true),.d (.int .i64 f),.d (qaa .sub (.node (-1) pv pk::ps)),.d (qaa .sub ts)],some [.d (qaS .sub rest)],some [.d (.int .i64 (-1)),.d (.int .i64 pv),.d (qaa .sub pk)],some [.d (.int .i64 0),.d (.int .i64 0),.d (qaa .sub [])]];rw[hnd]at hd;have hmk:=qtt s hs f (onB ts (i+1) ts.length) (hcn _);have hpu:=qDe .sub .sub (by simp) (by simp) u pv (qcR s f (onB ts (i+1) ts.length)) [] hu;have hgo:=qN5 f (.node (-1) pv pk) ps ts (qeK ts (i+1) ts.length) [] rest (qgj u pv (qcR s f (onB ts (i+1) ts.length))) k (Qs i) (Qs (i+1)) [some [.d (.int .i64 (-1)),.d (.int .i64 pv),.d (qaa .sub pk)],some [.d (.int .i64 0),.d (.int .i64 0),.d (qaa .sub [])]] (by omega) (by omega) (by simp;omega) (by omega) (by simpa using hrec);rw[hq]at hgo;have hg:∀e,(Qs i++e)[k]?=some (some (.d (sg s)::tl i)):=fun e=>by rw[ye_ (by omega)];exact hbx i
 have hx:∀h,(Qs i)[k]'h=some (.d (sg s)::tl i):=fun h=>by have:=hbx i;rw[List.getElem?_eq_getElem h]at this;simpa using this
 have hx2:∀e h,(Qs i++e)[k]'h=some (.d (sg s)::tl i):=fun e h=>by rw[List.getElem_append_left (by omega)];exact hx _
 have hk1:k<N+5:=by omega
 have n0:¬(N+5<=N):=by omega
 have n1:¬(N+5<=N+1):=by omega
 have n3:¬(N+5<=N+3):=by omega
 have nk:¬(N+5<=k):=by omega
 simp only[qtk]at hbl⊢
 refine⟨[],?_⟩;generalize qgj u pv (qcR s f (onB ts (i+1) ts.length))=u2 at*
 generalize qcR s f (onB ts (i+1) ts.length)=mk at*
 generalize onB ts (i+1) ts.length=on at*
 generalize qeK ts (i+1) ts.length=off at*
 generalize ((2^ts.length:Nat):Int)=M at*
 generalize ((i+1:Nat):Int)=m at*
 generalize ((i+1+1:Nat):Int)=m2 at*
 simp only[qaS,List.map_nil]at hgo;simp[qnl,qnX,qnV,qnU,qnW,hsh,hlt,hd,hq];rw[hbl];simp[qOz,hx2,hk1,n0,n1,n3,nk,hq,hq1,hmk,hpu,hgo,hw]
theorem qyu(s:List SymL)(hs:s.length<=1099511627776)(f:Int)(pv:Int)(pk ps ts:List T)(rest:List Gl)(u:List Bd)(k:Nat)(Qs:Nat->qam)(D:Nat->Bool)(N:Nat)(hN:∀i,(Qs i).length=N)(hk:k<N)(hl:rest.length<=1000000000)(hp:ps.length<=1000000000)(htl:ts.length<=12)(hu:u.length<=1099511627776)
 (hD:∀i e,qac XV 319 [.ptr k 0] (Qs i++e)=some (.d (.bool (D i)),Qs i++e)) (tl:Nat->List AV) (hbx:∀i,(Qs i)[k]?=some (some (.d (sg s)::tl i))) (hcn:∀m,qaQ (onB ts m ts.length)<=1099511627776)
 (hb:qbP u pv=none) (hDs:∀i,D i=true->D (i+1)=true) (hst:∀i,D i=true->Qs (i+1)=Qs i)
 (hrec:∀i,i+1<2^ts.length->D i=false->∀e,qac XV 318 [.ptr k 0,.d (qaS .sub (qbk f ps (qeK ts (i+1) ts.length)::rest)),.d (binds .sub (qgj u pv (qcR s f (onB ts (i+1) ts.length))))] (Qs i++e)=some (.d (.tup []),Qs (i+1)++e)):
 qac XV 321 [.ptr k 0,.d ((Gl.mk true f (.node (-1) pv pk::ps) ts).enc .sub),.d (qaS .sub rest),.d (binds .sub u)] (Qs 0)=some (.d (.tup []),Qs (2^ts.length-1)):=by
 rw[qah XV _ _ _ qr4 rfl qgW rfl];have h1:=qdh (.node (-1) pv pk);simp only[T.qbe,BEq.rfl]at h1;have h2:=qjM u pv hu;rw[hb]at h2;simp only at h2;have hsh:=qsi ts.length (by omega);have h:=qag (X:=XV) (T:=XV.lin 321) (L:=N+5) (live:=[3,4,5,8,9,17]) (b:=qnl) (n:=2^ts.length-1) (γ:=Nat)
  (st:=fun(_:Unit) i=>⟨[(3,.d (binds .sub u)),(4,.ptr N 0),(5,.ptr (N+1) 0),(8,.ptr (N+3) 0),(9,.fn 327 [.ptr N 0,.ptr (N+1) 0,.ptr (N+2) 0]),(17,.d (.int .i64 (i+1:Nat)))],Qs i++[some [.ptr k 0],some [.d (.bool true),.d (.int .i64 f),.d (qaa .sub (.node (-1) pv pk::ps)),.d (qaa .sub ts)],some [.d (qaS .sub rest)],some [.d (.int .i64 (-1)),.d (.int .i64 pv),.d (qaa .sub pk)],some [.d (.int .i64 0),.d (.int .i64 0),.d (qaa .sub [])]]⟩) (step:=qBa D)
  (F:=fun _=>(.exit 2,⟨[(3,.d (binds .sub u)),(4,.ptr N 0),(5,.ptr (N+1) 0),(8,.ptr (N+3) 0),(9,.fn 327 [.ptr N 0,.ptr (N+1) 0,.ptr (N+2) 0]),(17,.d (.int .i64 (2^ts.length-1+1:Nat))),(103,.d (.bool false))],Qs (2^ts.length-1)++[some [.ptr k 0],some [.d (.bool true),.d (.int .i64 f),.d (qaa .sub (.node (-1) pv pk::ps)),.d (qaa .sub ts)],some [.d (qaS .sub rest)],some [.d (.int .i64 (-1)),.d (.int .i64 pv),.d (qaa .sub pk)],some [.d (.int .i64 0),.d (.int .i64 0),.d (qaa .sub [])]]⟩)) (R:=fun i=>(.exit 2,⟨[(3,.d (binds .sub u)),(4,.ptr N 0),(5,.ptr (N+1) 0),(8,.ptr (N+3) 0),(9,.fn 327 [.ptr N 0,.ptr (N+1) 0,.ptr (N+2) 0]),(17,.d (.int .i64 (i+1:Nat))),(103,.d (.bool false))],Qs i++[some [.ptr k 0],some [.d (.bool true),.d (.int .i64 f),.d (qaa .sub (.node (-1) pv pk::ps)),.d (qaa .sub ts)],some [.d (qaS .sub rest)],some [.d (.int .i64 (-1)),.d (.int .i64 pv),.d (qaa .sub pk)],some [.d (.int .i64 0),.d (.int .i64 0),.d (qaa .sub [])]]⟩))
  (fun a=>⟨by simp,by
   have hlt:¬((2^ts.length-1+1:Nat):Int)<((2^ts.length:Nat):Int):=by omega
   have hq:=hN (2^ts.length-1);generalize ((2^ts.length:Nat):Int)=M at*
   generalize ((2^ts.length-1+1:Nat):Int)=m at*
   generalize Qs (2^ts.length-1)=Q at*
   simp[qnl,qnX,qnV,qnU,qnW,hsh,hlt,hq]⟩)
  (fun a i hi=>by
   have hq:=hN i;have hq1:=hN (i+1);unfold qBa;cases hd0:D i with
   |true=>
    have hd:=hD i [some [.ptr k 0],some [.d (.bool true),.d (.int .i64 f),.d (qaa .sub (.node (-1) pv pk::ps)),.d (qaa .sub ts)],some [.d (qaS .sub rest)],some [.d (.int .i64 (-1)),.d (.int .i64 pv),.d (qaa .sub pk)],some [.d (.int .i64 0),.d (.int .i64 0),.d (qaa .sub [])]];rw[hd0]at hd;have hlt:(i:Int)+1<((2^ts.length:Nat):Int):=by omega
    generalize ((2^ts.length:Nat):Int)=M at*
    exact⟨by simp,by simp[qnl,qnX,qnV,qnU,qnW,hsh,hlt,hd,hq]⟩
   |false=>
    obtain⟨e,he⟩:=qjv s hs f pv pk ps ts rest u k Qs D N hN hk hl hp htl hu hD tl hbx hcn i (by omega) hd0 (hrec i (by omega) hd0);refine⟨_,he,?_⟩;simp[qad,qab,tA5 hq1,hq1])
  (2^ts.length-1) () 0 ⟨[(3,.d (binds .sub u)),(4,.ptr N 0),(5,.ptr (N+1) 0),(8,.ptr (N+3) 0),(9,.fn 327 [.ptr N 0,.ptr (N+1) 0,.ptr (N+2) 0]),(17,.d (.int .i64 1))],Qs 0++[some [.ptr k 0],some [.d (.bool true),.d (.int .i64 f),.d (qaa .sub (.node (-1) pv pk::ps)),.d (qaa .sub ts)],some [.d (qaS .sub rest)],some [.d (.int .i64 (-1)),.d (.int .i64 pv),.d (qaa .sub pk)],some [.d (.int .i64 0),.d (.int .i64 0),.d (qaa .sub [])]]⟩ (by omega) (by simp[qad,qab,tA5 (hN 0),hN 0])
 have hrun:∀n i,match runN (qBa D) n () i with| .inl _=>True| .inr j=>Qs j=Qs (i+n):=by
  intro n
  induction n with
  |zero=>intro i;trivial
  |succ n ih=>
   intro i;simp only[runN,qBa];cases hd0:D i with
   |true=>
    simp only[if_true];have:∀m,D (i+m)=true/\Qs (i+m)=Qs i:=fun m=>by
     induction m with
     |zero=>exact⟨hd0,rfl⟩
     |succ m ihm=>exact⟨hDs _ ihm.1,by rw[<-Nat.add_assoc,hst _ ihm.1,ihm.2]⟩
    exact(this (n+1)).2.symm
   |false=>
    simp only[Bool.false_eq_true,if_false];have:=ih (i+1);rwa[show i+1+n=i+(n+1)by omega]at this
 have hr:=hrun (2^ts.length-1) 0;have hq:=hN 0;have hp1:(((ps.length:Int)+1)==0)=false:=by simp;omega
 have hq9:=hN (2^ts.length-1);simp only[qtk]at h;simp[qr4,qhg,qhf,qhe,qhd,qhc,qhb,qha,qg9,qe5,qe4,qe3,qe2,qe1,qe0,qeZ,qeY,qeX,h1,h2,hp1,hk,hq,sA4 hq,splice,cut];rw[h];cases hrn:runN (qBa D) (2^ts.length-1) () 0 with
 |inl a=>simp[hq9]
 |inr j=>
  rw[hrn]at hr;simp only[Nat.zero_add]at hr;simp[hr,hq9]
mutual
def T.nf(s:List SymL):T->Prop
 | .node f v ks=>T.nfs s ks/\(qaM s f=true->(∀k,k∈ks->k.f≠f)/\Srt ks)
def T.nfs(s:List SymL):List T->Prop
 | []=>True
 |t::r=>t.nf s/\T.nfs s r
end
theorem T.ql1(s:List SymL):∀l:List T,T.nfs s l↔∀t,t∈l->t.nf s
 | []=>by simp[T.nfs]
 |t::r=>by simp[T.nfs,T.ql1 s r]
theorem qEb(s:List SymL)(f:Int)(l:List T)(t:T):t∈flatK s f l↔∃k,k∈l/\t∈qxo s f k:=by unfold flatK;simp
mutual
theorem qtb(s:List SymL):∀t:T,(t.norm s).nf s
 | .node f v ks=>by
  have hN:=qwC s ks;rw[T.ql1]at hN;simp only[T.norm,T.nf]
  by_cases hb:qaM s f=true
  ·simp only[hb,if_true]
   have hK:∀e,e∈flatK s f (T.norms s ks)->e.nf s/\e.f≠f:=fun e he=>by
    obtain⟨k,h1,h2⟩:=(qEb s f _ e).1 he;have h3:=hN k h1;unfold qxo at h2
    by_cases hk:k.f=f
    ·have:(qaM s f&&k.f==f)=true:=by simp[hb,hk]
     rw[if_pos this]at h2;obtain⟨f',v',ks'⟩:=k;simp only[T.qbe]at hk;subst hk;simp only[T.nf,T.qbc]at h3 h2;exact⟨(T.ql1 s ks').1 h3.1 e h2,(h3.2 hb).1 e h2⟩
    ·have:(qaM s f&&k.f==f)=false:=by simp[hk]
     rw[this]at h2;simp at h2;subst h2
     exact⟨h3,hk⟩
   refine⟨?_,fun _=>⟨fun e he=>(hK e ((qdY _).mem_iff.1 he)).2,qqz _⟩⟩;rw[T.ql1];exact fun e he=>(hK e ((qdY _).mem_iff.1 he)).1
  ·simp only[hb,Bool.false_eq_true,if_false]
   refine⟨?_,fun h=>absurd h id⟩;rw[T.ql1,qlu s f hb];exact hN
theorem qwC(s:List SymL):∀l:List T,T.nfs s (T.norms s l)
 | []=>by simp[T.norms,T.nfs]
 |t::r=>by simp only[T.norms,T.nfs];exact⟨qtb s t,qwC s r⟩
end
theorem qmm:∀l:List T,(∀i,0<i->i<l.length->¬T.cmp (tAt l i) (tAt l (i-1))<0)->Srt l
 | [],_=>List.Pairwise.nil
 | [a],_=>List.pairwise_singleton _ _
 |a::b::r,h=>by
  have ih:=qmm (b::r) (fun i h0 hi=>by
   have:=h (i+1) (by omega) (by simpa using hi);have e:∀j,tAt (a::b::r) (j+1)=tAt (b::r) j:=fun j=>by simp[tAt]
   rw[e i,show i+1-1=(i-1)+1 by omega,e (i-1)]at this;exact this)
  have h0:=h 1 (by omega) (by simp);simp only[tAt,List.getElem?_cons_succ,List.getElem?_cons_zero,Option.getD_some,Nat.sub_self]at h0;have hab:tle a b:=qch h0;refine List.pairwise_cons.2 ⟨fun y hy=> ?_,ih⟩;rcases List.mem_cons.1 hy with rfl|hy
  ·exact hab
  ·exact qfM hab ((List.pairwise_cons.1 ih).1 y hy)
theorem qw9{l:List SymL}{f:Int}(h:qaM l f=true):(qav l f.toNat).ac=true:=by
 unfold qaM at h;simp only[Bool.and_eq_true]at h;exact h.2
theorem qqW(q:Nat->Bool)(n:Nat)(h:(qax q n 0).isNone=true):∀i,i<n->q i=false:=fun i hi=>by
 have:=(qgO q n 0).2 (by simpa using h) i (by omega) (by omega);exact this
mutual
theorem qoI(l:List SymL):∀t:T,T.form l t=true->t.nf l
 | .node f v ks,h=>by
  simp only[T.form]at h;simp only[T.nf]
  by_cases hf:f= -1
  ·rw[if_pos hf]at h
   have hk:ks=[]:=by
    simp only[Bool.and_eq_true,decide_eq_true_eq]at h;exact List.eq_nil_of_length_eq_zero h.2
   subst hk;exact⟨trivial,fun _=>⟨fun k hk=>by simp at hk,List.Pairwise.nil⟩⟩
  ·rw[if_neg hf]at h
   split at h
   ·simp at h
   ·have hq:=qqW _ _ h
    have hat:∀i,i<ks.length->T.form l (tAt ks i)=true/\qcZ l f ks i=false:=fun i hi=>by
     have:=hq i hi;rw[T.qo4 l ks i hi]at this;simpa using this
    refine⟨qwU l ks (fun i hi=>(hat i hi).1),fun hb=>⟨fun k hk=> ?_,qmm ks fun i h0 hi=> ?_⟩⟩
    ·obtain⟨i,hi,rfl⟩:=List.getElem_of_mem hk
     have h2:=(hat i hi).2;rw[qap hi];unfold qcZ at h2;rw[if_pos (qw9 hb)]at h2;intro he;rw[if_pos he]at h2;simp at h2
    ·have h2:=(hat i hi).2
     unfold qcZ at h2;rw[if_pos (qw9 hb)]at h2;split at h2
     ·simp at h2
     ·rw[if_neg (by omega)]at h2
      simpa using h2
theorem qwU(l:List SymL):∀ks:List T,(∀i,i<ks.length->T.form l (tAt ks i)=true)->T.nfs l ks
 | [],_=>trivial
 |t::r,h=>⟨qoI l t (by have:=h 0 (by simp);simpa[tAt]using this),qwU l r fun i hi=>by have:=h (i+1) (by simpa using hi);simpa[tAt]using this⟩
end
end Go.Proofs.YtbcbkiaineacpaaGreat.VS
