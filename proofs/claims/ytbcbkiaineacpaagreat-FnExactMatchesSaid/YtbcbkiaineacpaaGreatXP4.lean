/- Contracts of the program's functions on the evaluator without names, and plain lemmas: part 4. -/
import Derived.Test.YtbcbkiaineacpaaGreatXP3
set_option linter.unusedSimpArgs false
set_option linter.unusedVariables false
namespace Go.Proofs.YtbcbkiaineacpaaGreat.VS
def mst(k:Nat)(s:ByteArray)(B:qal):XS:=⟨[(0,.d (.int .i64 k)),(3,.d (.str s))],B⟩
theorem qPE(k:Nat)(hk:k≠0)(hk2:k<=4611686018427387904)(s:ByteArray)(hs:s.size<=100)(B:qal):
 ∃s',qau XV [] qny (mst k s B)=some (.normal,s')/\qad B.length [0,3] s'=some (mst (k/10) (dgt (k%10)++s) B):=by
 have hw:IntKind.i64.wrap (48+((k%10:Nat):Int))=48+((k%10:Nat):Int):=wrap_i64 (by omega) (by omega);have hw2:IntKind.u8.wrap (48+((k%10:Nat):Int))=48+((k%10:Nat):Int):=wrap_u8' (by omega) (by omega);have hb:=qFN (k:=k%10) (by omega);have ha:qeM .add (.str ⟨#[dgb (k%10)]⟩) (.str s)=some (.str (dgt (k%10)++s)):=qrf (a:=dgt (k%10)) (by rw[qh2];omega);have c0:((0:Int)<(k:Int)):=by omega
 have hq:(k:Int).tdiv 10=((k/10:Nat):Int):=rfl;have hr:(k:Int).tmod 10=((k%10:Nat):Int):=rfl;have hwq:IntKind.i64.wrap ((k/10:Nat):Int)=((k/10:Nat):Int):=wrap_i64 (by omega) (by omega);unfold mst;generalize ((k:Nat):Int)=kk at*
 generalize ((k/10:Nat):Int)=q at*
 generalize ((k%10:Nat):Int)=r at*
 refine⟨⟨[(0,.d (.int .i64 q)),(3,.d (.str (dgt (k%10)++s)))],B⟩,by simp[qny,qvc,qKb,qKa,c0,hq,hr,qt2,qt1,hw,hw2,hwq,hb,ha,qaX,List.replicate],qaO (e:=[]) (by simp) (by simp[qab]) rfl (by simp)⟩
theorem qN5(B:qal):∀(j k:Nat) (s:ByteArray),k<10^j->k<=4611686018427387904->s.size+j<=100->
 ∀s0,qad B.length [0,3] s0=some (mst k s B)->qbw XV [] B.length [0,3] qny s0=some (.exit 0,⟨[(0,.d (.int .i64 0)),(3,.d (.str (qrn k++s))),(7,.d (.bool false))],B⟩):=by
 intro j
 induction j with
 |zero=>
  intro k s hk hk2 hs s0 h0;obtain rfl:k=0:=by simpa using hk
  refine qa5 h0 ?_ (by simp);simp[mst,qny,qvc,qrn,ByteArray.empty_append]
 |succ j ih=>
  intro k s hk hk2 hs s0 h0
  by_cases hz:k=0
  ·subst hz
   refine qa5 h0 ?_ (by simp);simp[mst,qny,qvc,qrn,ByteArray.empty_append]
  ·obtain⟨s',hb,hh⟩:=qPE k hz hk2 s (by omega) B
   rw[qbD h0 hb];have:=ih (k/10) (dgt (k%10)++s) (by rw[Nat.pow_succ]at hk;omega) (by omega) (by rw[ByteArray.size_append,qh2];omega) s' hh;rw[this,qzh hz]
def qD3(k:Nat):ByteArray:=⟨#[109]⟩++qzY k
theorem qtA(k:Nat)(h0:0<k)(hk:k<=4611686018427387904)(B:qal):qac XV 294 [.d (.int .i64 k)] B=some (.d (.str (qD3 k)),B):=by
 rw[qah XV _ _ _ qQQ rfl qAw rfl];have hl:=qN5 B 20 k ByteArray.empty (by omega) hk (by decide) ⟨[(0,.d (.int .i64 k)),(3,.d (.str ByteArray.empty))],B⟩ (qaO (e:=[]) (by simp) (by simp[qab]) rfl (by simp));have hd:qrn k++ByteArray.empty=qzY k:=by unfold qrn;rw[if_neg (by omega),ByteArray.append_empty]
 rw[hd]at hl;have hs:=qt8 (n:=k) (by omega);have ha:qeM .add (.str ⟨#[109]⟩) (.str (qzY k))=some (.str (qD3 k)):=qrf (a:=⟨#[109]⟩) (by rw[show(⟨#[109]⟩:ByteArray).size=1 from rfl];omega);have c0:¬((k:Int)<=0):=by omega
 generalize ((k:Nat):Int)=kk at*
 simp[qQQ,qKe,qKd,qKc,c0];simp only[show(⟨#[]⟩:ByteArray)=ByteArray.empty from rfl,hl];simp[qJ9,ha]
def qbL:List SymL->List AV
 | []=>[]
 |x::r=> .d (.str x.name):: .d (.int .i64 x.arity):: .d (.bool x.ac)::qbL r
def tSy(b:Nat)(l:List SymL):AV:=if l=[]then .d (sg [])else .tsl true b 3 l.length
def bSy(l:List SymL):qal:=if l=[]then []else [some (qbL l)]
theorem qmB:∀l:List SymL,(qbL l).length=3*l.length
 | []=>rfl
 |x::r=>by simp[qbL,qmB r];omega
theorem qdR:∀a c:List SymL,qbL (a++c)=qbL a++qbL c
 | [],c=>rfl
 |x::r,c=>by simp[qbL,qdR r c]
theorem qpB(b:Nat):∀l:List SymL,qeZ b (l.map SymL.enc)=(qbL l,[])
 | []=>rfl
 |x::r=>by
  rw[List.map_cons];simp only[qeZ];have h:thw b x.enc=([.d (.str x.name),.d (.int .i64 x.arity),.d (.bool x.ac)],[]):=rfl;rw[h];simp only[List.length_nil,Nat.add_zero,qpB b r];rfl
theorem qBq(b:Nat)(l:List SymL):(sg l).thaw b=(tSy b l,bSy l):=by
 cases l with
 |nil=>rfl
 |cons x r=>
  have h:=qpB b (x::r);simp only[List.map_cons]at h;show qaV b (.sl .sub (x.enc::r.map SymL.enc))=_;simp only[qaV,thw,h,tSy,bSy];have ha:qtH x.enc=true:=rfl;simp[ha]
theorem qq2(f:AV->Option DV)(hf:∀v,f (.d v)=some v):∀l:List SymL,qiK f (qbL l)=some (flat (l.map SymL.enc))
 | []=>rfl
 |x::r=>by
  have h:=qq2 f hf r;simp only[qbL,qeL,hf,h,qeK,List.map_cons];rfl
theorem qOQ(l:List SymL)(P Q:qal):AV.frz (P++bSy l++Q) (tSy P.length l)=some (sg l):=by
 by_cases hp:l=[]
 ·subst hp;simp[tSy,bSy,AV.frz,qjq]
 ·have hb:P++bSy l++Q=P++(some (qbL l)::Q):=by simp[bSy,hp]
  have hg:qcu (P++(some (qbL l)::Q)) P.length=some (qbL l):=by
   unfold qcu;rw[get_at]
  rw[hb];unfold tSy;rw[if_neg hp];obtain⟨m,hm⟩:∃m,(P++(some (qbL l)::Q)).length=m+1:=⟨P.length+Q.length,by simp;omega⟩;simp only[AV.frz];rw[hm];simp only[AV.frzC];rw[hg,Option.bind_some,qq2 _ (fun v=>qjq _ _ v),Option.bind_some];have hok:=qis l;have hfl:(flat (l.map SymL.enc)).length=l.length*3:=by rw[qck (fun x hx=>(hok x hx).1)];simp
  rw[if_pos hfl];have hch:=qcG (l.map SymL.enc) hok;rw[List.length_map]at hch;rw[hch];rfl
theorem qPx(b:Nat)(l:List SymL):(tSy b l).clr=tSy b l:=by
 unfold tSy;split
 ·simp[AV.clr,DV.clr,DV.clrs]
 ·simp only[AV.clr]
def qN4(k:Nat):SymL:=⟨qD3 k,((k+1:Nat):Int),((((k+2:Nat):Int).tmod 3)==0)⟩
def qoF:Nat->Nat->List SymL
 |0,_=>[]
 |n+1,k=>qN4 k::qoF n (k+3)
theorem qjO:∀n k:Nat,(qoF n k).length=n
 |0,k=>rfl
 |n+1,k=>by simp[qoF,qjO n]
theorem qqI:∀n k:Nat,qoF (n+1) k=qoF n k++[qN4 (k+3*n)]
 |0,k=>rfl
 |n+1,k=>by
  rw[qoF,qqI n (k+3),qoF];simp only[List.cons_append];rw[show k+3+3*n=k+3*(n+1)by omega]
def qHg(l:List SymL)(k i:Nat):List SymL:=qoF i k++l.drop i
theorem qMV(l:List SymL)(k i:Nat)(hi:i<l.length):qbL (qHg l k i)=qbL (qoF i k)++ .d (.str (qax l i).name):: .d (.int .i64 (qax l i).arity):: .d (.bool (qax l i).ac)::qbL (l.drop (i+1)):=by
 unfold qHg;rw[List.drop_eq_getElem_cons hi,qaq hi,qdR];rfl
theorem qBj(l:List SymL)(k i:Nat):qbL (qHg l k (i+1))=qbL (qoF i k)++ .d (.str (qD3 (k+3*i))):: .d (.int .i64 ((k+3*i+1:Nat):Int)):: .d (.bool ((((k+3*i+2:Nat):Int).tmod 3)==0))::qbL (l.drop (i+1)):=by
 unfold qHg;rw[qqI,qdR,qdR];simp[qbL,qN4]
theorem rp2(C1 C2:List AV)(f v w x:AV)(i:Nat)(h:C1.length=i*3):splice (C1++f::v::w::C2) (i*3+2) [x]=C1++f::v::x::C2:=by
 have:=spA (C1++[f,v]) C2 w x;simp only[yg_,List.length_cons,List.length_nil,yh_,List.cons_append,List.nil_append,Nat.zero_add]at this;rw[<-h];exact this
theorem qy9(k:IntKind)(x:Int):qdN .rem k x 3=some (.int k (x.tmod 3)):=rfl
theorem qD1(S B1:qal)(ix n i k:Nat)(C1 C2:List AV)(f v w:AV)(hS:S.length=ix)(hi:i<n)(hn:n<=1099511627776)(hC:C1.length=i*3)(h0:0<k)(hk:k+3<=4611686018427387904):
 qau XV [] ql0 ⟨[(0,.tsl true ix 3 n),(1,.d (.int .i64 (k:Int))),(5,.d (.int .i64 (i:Int)))],S++some (C1++f::v::w::C2)::B1⟩=
  some (.normal,⟨[(0,.tsl true ix 3 n),(1,.d (.int .i64 ((k+3:Nat):Int))),(5,.d (.int .i64 ((i+1:Nat):Int)))],S++some (C1++ .d (.str (qD3 k)):: .d (.int .i64 ((k+1:Nat):Int)):: .d (.bool ((((k+2:Nat):Int).tmod 3)==0))::C2)::B1⟩):=by
 have hw:=qae (n:=i) (by omega);have hw1:=qae (n:=k) (by omega);have hw2:=qae (n:=k+1) (by omega);have hw3:=qae (n:=k+2) (by omega);have hget:∀(c:List AV) (r:qal),(S++some c::r)[ix]?=some (some c):=fun c r=>by rw[<-hS];exact get_at S (some c) r
 have hset:∀(c d:List AV) (r:qal),(S++some c::r).set ix (some d)=S++some d::r:=fun c d r=>by rw[<-hS];exact qBH S (some c) (some d) r
 have s0:=fun x=>sp0 C1 (v::w::C2) f x i hC
 have s1:=fun a x=>sp1 C1 (w::C2) a v x i hC
 have s2:=fun a b x=>rp2 C1 C2 a b w x i hC
 have le0:i*3+1<=C1.length+(C2.length+1+1+1):=by omega
 have le1:i*3+1+1<=C1.length+(C2.length+1+1+1):=by omega
 have le2:i*3+2+1<=C1.length+(C2.length+1+1+1):=by omega
 have hm:=fun B=>qtA k h0 (by omega) B
 generalize ((k:Nat):Int)=K0 at*
 generalize ((k+1:Nat):Int)=K1 at*
 generalize ((k+2:Nat):Int)=K2 at*
 generalize ((k+2+1:Nat):Int)=K3 at*
 simp[ql0,qwr,qwp,qwo,qwn,qwm,qwl,qwk,qwq,hi,hw,hw1,hw2,hw3,hget,hset,s0,s1,s2,le0,le1,le2,hm,qy9]
theorem qtC(l:List SymL)(hl:l.length<=1099511627776)(k:Nat)(h0:0<k)(hk:k+3*l.length<=4611686018427387904)(B0 B1:qal):
 qac XV 243 [tSy B0.length l,.d (.int .i64 (k:Int))] (B0++bSy l++B1)=some (.d (.int .i64 ((k+3*l.length:Nat):Int)),B0++bSy (qoF l.length k)++B1):=by
 rw[qah XV _ _ _ qPY rfl qAR rfl]
 by_cases hne:l=[]
 ·subst hne
  have h:=qag (X:=XV) (T:=[]) (L:=(B0++B1).length) (live:=[0,1,5]) (b:=ql0) (n:=0) (β:=Unit) (γ:=Unit) (st:=fun _ i=>⟨[(0,.d (.sl .sub [])),(1,.d (.int .i64 k)),(5,.d (.int .i64 i))],B0++B1⟩) (step:=fun _ _=> .inl ())
   (F:=fun _=>(.exit 0,⟨[(0,.d (.sl .sub [])),(1,.d (.int .i64 k)),(5,.d (.int .i64 0)),(9,.d (.bool false))],B0++B1⟩)) (R:=fun _=>(.ret,⟨[],[]⟩)) (fun a=>⟨by simp,by simp[ql0,qwr,qwp,qwo,qwn,qwm,qwl,qwk,qwq]⟩) (fun a i hi=>by omega) 0 () 0 ⟨[(0,.d (.sl .sub [])),(1,.d (.int .i64 k)),(5,.d (.int .i64 0))],B0++B1⟩ rfl (qaO (e:=[]) (by simp) (by simp[qab]) rfl (by simp))
  simp only[runN,yg_]at h;have htk:List.take (B0.length+B1.length) (B0++B1)=B0++B1:=List.take_of_length_le (by simp);simp[tSy,bSy,qoF,sg,qPY,qCZ,qCY,qs7];rw[h];simp[htk]
 ·have hmn:qoF l.length k≠[]:=fun h=>by
   have:=qjO l.length k;rw[h]at this;exact hne (List.length_eq_zero_iff.1 this.symm)
  have h:=qag (X:=XV) (T:=[]) (L:=B0.length+(B1.length+1)) (live:=[0,1,5]) (b:=ql0) (n:=l.length) (γ:=Unit) (st:=fun(_:Unit) i=>⟨[(0,.tsl true B0.length 3 l.length),(1,.d (.int .i64 ((k+3*i:Nat):Int))),(5,.d (.int .i64 i))],B0++some (qbL (qHg l k i))::B1⟩) (step:=fun _ _=> .inl ())
   (F:=fun _=>(.exit 0,⟨[(0,.tsl true B0.length 3 l.length),(1,.d (.int .i64 ((k+3*l.length:Nat):Int))),(5,.d (.int .i64 l.length)),(9,.d (.bool false))],B0++some (qbL (qHg l k l.length))::B1⟩)) (R:=fun _=>(.ret,⟨[],[]⟩))
   (fun _=>⟨by simp,by generalize ((k+3*l.length:Nat):Int)=K;simp[ql0,qwr,qwp,qwo,qwn,qwm,qwl,qwk,qwq]⟩)
   (fun _ i hi=>by
    have hst:=qD1 B0 B1 B0.length l.length i (k+3*i) (qbL (qoF i k)) (qbL (l.drop (i+1))) (.d (.str (qax l i).name)) (.d (.int .i64 (qax l i).arity)) (.d (.bool (qax l i).ac)) rfl hi hl (by rw[qmB,qjO];omega) (by omega) (by omega);rw[<-qMV l k i hi,<-qBj l k i,show k+3*i+3=k+3*(i+1)by omega]at hst;exact⟨_,hst,qaO (e:=[]) (by simp) (by simp[qab,qaE]) (by simp) (by simp)⟩)
   l.length () 0 ⟨[(0,.tsl true B0.length 3 l.length),(1,.d (.int .i64 (k:Int))),(5,.d (.int .i64 0))],B0++some (qbL l)::B1⟩ (by omega) (qaO (e:=[]) (by simp) (by simp[qab,qaE]) (by simp) (by simp[qHg,qoF]))
  rw[qdp]at h;have hall:qHg l k l.length=qoF l.length k:=by simp[qHg]
  rw[hall]at h;have htk:∀c:List AV,List.take (B0.length+(B1.length+1)) (B0++some c::B1)=B0++some c::B1:=fun c=>List.take_of_length_le (by simp)
  generalize ((k+3*l.length:Nat):Int)=Kn at h⊢
  simp[tSy,bSy,hne,qPY,qCZ,qCY,qs7];rw[h];simp[hmn,htk]
theorem qVl(l:List SymL)(k:Nat):(bSy (qoF l.length k)).length=(bSy l).length:=by
 unfold bSy;have:=qjO l.length k
 by_cases h:l=[]
 ·subst h;rfl
 ·have h2:qoF l.length k≠[]:=fun h2=>by rw[h2]at this;exact h (List.length_eq_zero_iff.1 this.symm)
  simp[h,h2]
theorem qnI:∀l:List SymL,DV.allUs (l.map SymL.enc)=true
 | []=>rfl
 |x::r=>by
  have h2:DV.allUs ((x::r).map SymL.enc)=(x.enc.allU&&DV.allUs (r.map SymL.enc)):=rfl;rw[h2,qnI r];rfl
theorem qzS(l:List SymL):(DV.sl U (l.map SymL.enc)).allUT=true:=by
 cases l with
 |nil=>rfl
 |cons x r=>
  have h2:(DV.sl U ((x::r).map SymL.enc)).allUT=(decide (U=U)&&DV.allUs ((x::r).map SymL.enc)):=rfl;rw[h2,qnI];simp
theorem qa0(C1 C2:List AV)(f:AV)(i:Nat)(h:C1.length=i*4):(C1++f::C2)[i*4]?=some f:=by rw[<-h];simp
theorem qa1(C1 C2:List AV)(f v:AV)(i:Nat)(h:C1.length=i*4):(C1++f::v::C2)[i*4+1]?=some v:=by
 rw[<-h,yd_ (by omega)];simp
theorem qa2(C1 C2:List AV)(f v w:AV)(i:Nat)(h:C1.length=i*4):(C1++f::v::w::C2)[i*4+1+1]?=some w:=by
 rw[<-h,yd_ (by omega),show C1.length+1+1-C1.length=2 by omega];rfl
theorem qEw(S B1:qal)(ix n i:Nat)(K0 K1 K2 K3 Kn:Int)(C1 C2:List AV)(row:AV)(hS:S.length=ix)(hi:i<n)(hn:n<=1099511627776)(hC:C1.length=i*4)(hw1:IntKind.i64.wrap (K0+1)=K1)(hw2:IntKind.i64.wrap (K1+1)=K2)(hw3:IntKind.i64.wrap (K2+1)=K3)(hrow:row.clr=row)(hKn:¬Kn<0)
 (hcall:qac XV 292 [row,.d (.int .i64 K3)] (S++some (C1++ .d (.int .i64 K0):: .d (.int .i64 K1):: .d (.int .i64 K2)::row::C2)::B1)=some (.d (.int .i64 Kn),S++some (C1++ .d (.int .i64 K0):: .d (.int .i64 K1):: .d (.int .i64 K2)::row::C2)::B1)):
 qau XV (XV.lin 291) qlY ⟨[(0,.tsl true ix 4 n),(1,.d (.int .i64 K0)),(5,.d (.int .i64 (i:Int)))],S++some (C1++ .d (.int .i64 K0):: .d (.int .i64 K1):: .d (.int .i64 K2)::row::C2)::B1⟩=
  some (.normal,⟨[(0,.tsl true ix 4 n),(1,.d (.int .i64 Kn)),(5,.d (.int .i64 ((i+1:Nat):Int)))],S++some (C1++ .d (.int .i64 K0):: .d (.int .i64 K1):: .d (.int .i64 K2)::row::C2)::B1⟩):=by
 have hw:=qae (n:=i) (by omega);have hget:∀(c:List AV) (r:qal),(S++some c::r)[ix]?=some (some c):=fun c r=>by rw[<-hS];exact get_at S (some c) r
 have g0:=fun a=>qa0 C1 (.d (.int .i64 K1):: .d (.int .i64 K2)::row::C2) a i hC
 have g1:=fun a b=>qa1 C1 (.d (.int .i64 K2)::row::C2) a b i hC
 have g2:=fun a b c=>qa2 C1 (row::C2) a b c i hC
 have g3:=fun a b c=>qa3 C1 C2 a b c row i hC
 simp[qlY,qvA,qvy,qvx,qvw,qvv,qvu,qvt,qok,qoj,qoi,qoh,qog,qof,qvz,hi,hw,hw1,hw2,hw3,hget,g0,g1,g2,g3,hrow,hKn,hcall]
theorem qm8:∀(a c:List Bd) (k:Nat),mkB (a++c) k=mkB a k++mkB c (k+qb0 a)
 | [],c,k=>by simp[mkB,qb0]
 |t::r,c,k=>by
  simp only[List.cons_append,mkB,qm8 r,qb0]
  congr 3;omega
theorem qqX(l:List Bd)(hl:l.length<=1099511627776)(hb:∀i,i<l.length->(bAt l i).t.inner<=1099511627776)(k:Nat)(hk:k+qb0 l<=4611686018427387904)(B0 B1:qal):
 qac XV 291 [tBs B0.length l,.d (.int .i64 (k:Int))] (B0++bBs B0.length (mkB l k)++B1)=some (.d (.int .i64 ((k+qb0 l:Nat):Int)),B0++bBs B0.length (mkB l k)++B1):=by
 rw[qah XV _ _ _ qPR rfl qAz rfl]
 by_cases hne:l=[]
 ·subst hne
  have h:=qag (X:=XV) (T:=XV.lin 291) (L:=(B0++B1).length) (live:=[0,1,5]) (b:=qlY) (n:=0) (β:=Unit) (γ:=Unit) (st:=fun _ i=>⟨[(0,.d (.sl .sub [])),(1,.d (.int .i64 k)),(5,.d (.int .i64 i))],B0++B1⟩) (step:=fun _ _=> .inl ())
   (F:=fun _=>(.exit 0,⟨[(0,.d (.sl .sub [])),(1,.d (.int .i64 k)),(5,.d (.int .i64 0)),(9,.d (.bool false))],B0++B1⟩)) (R:=fun _=>(.ret,⟨[],[]⟩)) (fun a=>⟨by simp,by simp[qlY,qvA,qvy,qvx,qvw,qvv,qvu,qvt,qok,qoj,qoi,qoh,qog,qof,qvz]⟩) (fun a i hi=>by omega) 0 () 0 ⟨[(0,.d (.sl .sub [])),(1,.d (.int .i64 k)),(5,.d (.int .i64 0))],B0++B1⟩ rfl (qaO (e:=[]) (by simp) (by simp[qab]) rfl (by simp))
  simp only[runN,yg_,qEa]at h;have htk:List.take (B0.length+B1.length) (B0++B1)=B0++B1:=List.take_of_length_le (by simp);simp[tBs,bBs,mkB,qb0,binds,qPR,qCu,qCt,qs5];rw[h];simp[htk]
 ·have hmn:mkB l k≠[]:=fun h=>hne (by have:=qgT l k;rw[h]at this;exact List.length_eq_zero_iff.1 this.symm)
  simp only[tBs,bBs,if_neg hne,if_neg hmn];have hlen:(B0++T.bxs B0.length (ts (mkB l k))).length=B0.length+T.nbs (ts l):=by rw[yg_,qbm,qgS]
  have h:=qag (X:=XV) (T:=XV.lin 291) (L:=B0.length+T.nbs (ts l)+(B1.length+1)) (live:=[0,1,5]) (b:=qlY) (n:=l.length) (γ:=Unit) (st:=fun(_:Unit) i=>⟨[(0,.tsl true (B0.length+T.nbs (ts l)) 4 l.length),(1,.d (.int .i64 ((k+qb0 (l.take i):Nat):Int))),(5,.d (.int .i64 i))],(B0++T.bxs B0.length (ts (mkB l k)))++some (qaR B0.length (mkB l k))::B1⟩) (step:=fun _ _=> .inl ())
   (F:=fun _=>(.exit 0,⟨[(0,.tsl true (B0.length+T.nbs (ts l)) 4 l.length),(1,.d (.int .i64 ((k+qb0 l:Nat):Int))),(5,.d (.int .i64 l.length)),(9,.d (.bool false))],(B0++T.bxs B0.length (ts (mkB l k)))++some (qaR B0.length (mkB l k))::B1⟩)) (R:=fun _=>(.ret,⟨[],[]⟩))
   (fun _=>⟨by simp,by rw[List.take_length];generalize ((k+qb0 l:Nat):Int)=K;simp[qlY,qvA,qvy,qvx,qvw,qvv,qvu,qvt,qok,qoj,qoi,qoh,qog,qof,qvz]⟩)
   (fun _ i hi=>by
    have hkt:k+qb0 (l.take (i+1))<=4611686018427387904:=by have:=qFv l (i+1);omega
    have hct:=qru l i hi;have hin:=hb i hi;have hsp:mkB l k=mkB (l.take i) k++qqJ (bAt l i) (k+qb0 (l.take i))::mkB (l.drop (i+1)) (k+qb0 (l.take (i+1))):=by
     have:l=l.take (i+1)++l.drop (i+1):=(List.take_append_drop _ _).symm;rw[this,qm8,qJq l i hi,qoG];rw[<-qJq l i hi,<-this];simp
    have hr:=qnd (bAt l i).t.kids (by rw[qbb];exact hin) (k+qb0 (l.take i)+3) (by rw[qbb];omega) (B0++T.bxs B0.length (ts (mkB (l.take i) k))) (T.bxs (B0.length+T.nbs (ts (mkB (l.take i) k))+qev (bAt l i).t.kids) (ts (mkB (l.drop (i+1)) (k+qb0 (l.take (i+1)))))++some (qaR B0.length (mkB l k))::B1);rw[qbb]at hr;have hl0:(B0++T.bxs B0.length (ts (mkB (l.take i) k))).length=B0.length+T.nbs (ts (mkB (l.take i) k)):=by rw[yg_,qbm]
    rw[hl0]at hr;have c2:=qiR (mkB (l.take i) k) (mkB (l.drop (i+1)) (k+qb0 (l.take (i+1)))) (qqJ (bAt l i) (k+qb0 (l.take i))) B0.length;have b2:=qso (mkB (l.take i) k) (mkB (l.drop (i+1)) (k+qb0 (l.take (i+1)))) (qqJ (bAt l i) (k+qb0 (l.take i))) B0.length;have mf:∀x k,(qqJ x k).v=(k:Int)/\(qqJ x k).t.f=((k+1:Nat):Int)/\(qqJ x k).t.v=((k+2:Nat):Int)/\(qqJ x k).t.kids=T.marks (k+3) x.t.kids:=fun x k=>⟨rfl,rfl,rfl,rfl⟩
    rw[(mf _ _).2.2.2,qbM,<-hsp]at b2;rw[(mf _ _).1,(mf _ _).2.1,(mf _ _).2.2.1,(mf _ _).2.2.2,qbM,qgl,<-hsp]at c2;have hS':(B0++T.bxs B0.length (ts (mkB (l.take i) k)))++qdO (B0.length+T.nbs (ts (mkB (l.take i) k))) (T.marks (k+qb0 (l.take i)+3) (bAt l i).t.kids)++(T.bxs (B0.length+T.nbs (ts (mkB (l.take i) k))+qev (bAt l i).t.kids) (ts (mkB (l.drop (i+1)) (k+qb0 (l.take (i+1)))))++some (qaR B0.length (mkB l k))::B1)=(B0++T.bxs B0.length (ts (mkB l k)))++some (qaR B0.length (mkB l k))::B1:=by rw[b2];simp only[yh_]
    rw[hS']at hr;rw[show k+qb0 (l.take i)+3+2*(bAt l i).t.inner=k+qb0 (l.take (i+1))by omega]at hr;rw[c2]at hr;have hst:=qEw (B0++T.bxs B0.length (ts (mkB l k))) B1 (B0.length+T.nbs (ts l)) l.length i ((k+qb0 (l.take i):Nat):Int) ((k+qb0 (l.take i)+1:Nat):Int) ((k+qb0 (l.take i)+2:Nat):Int) ((k+qb0 (l.take i)+3:Nat):Int) ((k+qb0 (l.take (i+1)):Nat):Int)
     (qaR B0.length (mkB (l.take i) k)) (qaR (B0.length+T.nbs (ts (mkB (l.take i) k))+qev (bAt l i).t.kids) (mkB (l.drop (i+1)) (k+qb0 (l.take (i+1))))) (qd7 (B0.length+T.nbs (ts (mkB (l.take i) k))) (bAt l i).t.kids) hlen hi hl
     (by rw[qiS,qgT,List.length_take];omega) (qae (by omega)) (qae (by omega)) (qae (by omega)) (qfw _ _) (by omega) hr
    rw[<-c2]at hst;exact⟨_,hst,qaO (e:=[]) (by simp) (by simp[qab,qaE]) (by rw[yg_,hlen];simp) (by simp)⟩)
   l.length () 0 ⟨[(0,.tsl true (B0.length+T.nbs (ts l)) 4 l.length),(1,.d (.int .i64 (k:Int))),(5,.d (.int .i64 0))],(B0++T.bxs B0.length (ts (mkB l k)))++some (qaR B0.length (mkB l k))::B1⟩ (by omega) (qaO (e:=[]) (by simp[qb0]) (by simp[qab,qaE]) (by rw[yg_,hlen];simp) (by simp))
  rw[qdp]at h;simp only[qEa]at h;have hap:∀(X:qal) (c:List AV),B0++(X++[some c])++B1=(B0++X)++some c::B1:=fun X c=>by simp
  rw[hap];have hln3:((B0++T.bxs B0.length (ts (mkB l k)))++some (qaR B0.length (mkB l k))::B1).length=B0.length+T.nbs (ts l)+(B1.length+1):=by
   have:=qgS l k;simp only[yg_,qbm,List.length_cons,this]
  generalize hQ':(B0++T.bxs B0.length (ts (mkB l k)))++some (qaR B0.length (mkB l k))::B1=Q' at h hln3⊢
  generalize ((k+qb0 l:Nat):Int)=Kn at h⊢
  rw[<-hln3]at h;simp[qPR,qCu,qCt,qs5];rw[h];simp
theorem qZF(a b:Nat):(a+(b+1)<=a)=False:=by simp
structure ThS(l:List SymL)(b:Nat)(y:AV)(R R':qal)(k K:Nat):Prop where
 th:(sg l).thaw b=(y,R)
 cl:y.clr=y
 sf:∀m,b+R.length<=m->y.safe m=true
 ic:y.isCell=true
 len:R'.length=R.length
 frz:∀P Q:qal,P.length=b->AV.frz (P++(R++Q)) y=some (sg l)
 mark:∀P Q:qal,P.length=b->qac XV 243 [y,.d (.int .i64 (k:Int))] (P++(R++Q))=some (.d (.int .i64 (K:Int)),P++(R'++Q))
theorem qHE(b m:Nat)(l:List SymL)(h:b+(bSy l).length<=m):(tSy b l).safe m=true:=by
 unfold tSy
 by_cases hl:l=[]
 ·simp[hl]
 ·simp only[hl,if_false];simp[bSy,hl]at h;simp[qaE];omega
theorem qy0(b:Nat)(l:List SymL):(tSy b l).isCell=true:=by unfold tSy;split<;>rfl
theorem qRj(l:List SymL)(hl:l.length<=1099511627776)(b k:Nat)(h0:0<k)(hk:k<=1000000000000):∃y R R',ThS l b y R R' k (k+3*l.length):=
 ⟨tSy b l,bSy l,bSy (qoF l.length k),qBq b l,qPx b l,fun m h=>qHE b m l h,qy0 b l,qVl l k,
  fun P Q hP=>by subst hP;rw[<-yh_];exact qOQ l P Q,
  fun P Q hP=>by subst hP;rw[<-yh_,<-yh_];exact qtC l hl k h0 (by omega) P Q⟩
structure ThT(t:T)(b:Nat)(row y:AV)(R R':qal)(k K:Nat):Prop where
 th:(t.enc .sub).thaw b=(.ag false [.d (.int .i64 t.f),.d (.int .i64 t.v),row],R)
 cl:row.clr=row
 cly:y.clr=y
 sf:∀m,b+R.length<=m->row.safe m=true
 ic:row.isCell=true
 pl:row.plainT=true
 len:R'.length=R.length
 ag:qiP [.d (.int .i64 t.f),.d (.int .i64 t.v),row] (qud (.int .i64 t.f) (qud (.int .i64 t.v) (qaG [row])))=some y
 frz:∀P Q:qal,P.length=b->AV.frz (P++(R++Q)) y=some (t.enc .sub)
 mark:∀P Q:qal,P.length=b->qac XV 308 [y,.d (.int .i64 (k:Int))] (P++(R++Q))=some (.d (.int .i64 (K:Int)),P++(R'++Q))
theorem qJF(t:T)(ht:t.inner<=1099511627776)(b k:Nat)(hk:k<=1000000000000):∃row y R R',ThT t b row y R R' k (k+2*t.inner):=
 ⟨qd7 b t.kids,tAg b t,qdO b t.kids,qdO b (T.marks k t.kids),qBp t b,qfw b t.kids,qBt b t,fun m h=>qpO m b t.kids (by rw[qep]at h;exact h),qly b t.kids,qyz b t.kids,
  by rw[qep,qep,qbM],qRm b t,
  fun P Q hP=>by subst hP;rw[<-yh_];exact qOR t P Q,
  fun P Q hP=>by subst hP;rw[<-yh_,<-yh_];exact qtB t ht k hk P Q⟩
theorem quq(b:Nat)(l:List Bd):(bBs b l).length=if l=[]then 0 else T.nbs (ts l)+1:=by
 unfold bBs;split<;>simp[qbm]
theorem qtv(l:List Bd)(b k:Nat):(bBs b (mkB l k)).length=(bBs b l).length:=by
 rw[quq,quq,qgS];have:=qgT l k
 by_cases hl:l=[]
 ·subst hl;rfl
 ·rw[if_neg hl,if_neg (fun h=>hl (by rw[h]at this;exact List.length_eq_zero_iff.1 this.symm))]
def IsV(d:DV)(a:T):Prop:=∃(g:Tag) (X:List DV),d= .agg [.int .i64 a.f,.int .i64 a.v,.sl g X]/\X.map DV.clr=a.kids.map (T.enc .sub)
theorem qEr(s:List SymL)(t:T):IsV (nM s t) (t.norm s):=⟨U,qzV s t,by rw[qqH,qDY,qDX],qxp s t⟩
theorem qEs(g:Tag)(t:T):IsV (t.enc g) t:=⟨g,t.kids.map (T.enc g),by rw[T.qbF],qd9 g _⟩
theorem qEn(ks:List T)(hl:qaQ ks<=1099511627776):qac XV 197 [.d (qaa .sub ks)] []=some (.d (qaa U ks),[]):=by
 have hlen:=qdj ks;have hc:∀t,t∈ks->qac XV 146 [.d (t.enc .sub)] []=some (.d (t.enc U),[]):=fun t ht=>qf8 t (by have:=qbC ht;omega)
 rw[qah XV _ _ _ qQ3 rfl qAT rfl];have hloop:=qag (X:=XV) (T:=XV.lin 197) (L:=0) (live:=[0,3,4]) (b:=qxE) (n:=ks.length) (γ:=Unit) (st:=fun(_:Unit) i=>⟨[(0,.d (qaa .sub ks)),(3,.d (.sl U ((ks.take i).map (T.enc U)))),(4,.d (.int .i64 i))],[]⟩) (step:=fun _ _=> .inl ())
  (F:=fun _=>(.exit 0,⟨[(0,.d (qaa .sub ks)),(3,.d (.sl U ((ks.take ks.length).map (T.enc U)))),(4,.d (.int .i64 ks.length)),(9,.d (.bool false))],[]⟩)) (R:=fun _=>(.ret,⟨[],[]⟩))
  (fun _=>⟨by simp,by simp[qxE,qC6,qC4,qC5]⟩)
  (fun _ i hi=>by
   have hw:=qae (n:=i) (by omega);have hc':=hc _ (qav hi);have ha:=qpb ks i hi (by omega);generalize hl2:(ks.take (i+1)).map (T.enc U)=l2 at ha;generalize (ks.take i).map (T.enc U)=l1 at ha⊢
   exact⟨⟨[(0,.d (qaa .sub ks)),(3,.d (.sl U l2)),(4,.d (.int .i64 (i+1:Nat)))],[]⟩,by simp[qxE,qC6,qC4,qC5,hi,hw,cut,qap hi,hc',ha,qaf,qai],by simp[qad,qab,<-hl2]⟩)
  ks.length () 0 ⟨[(0,.d (qaa .sub ks)),(3,.d (.sl U [])),(4,.d (.int .i64 0))],[]⟩ (by omega) (by simp[qad,qab])
 rw[qdp,List.take_length]at hloop;simp only[qOw]at hloop;simp[qQ3,qKT,qKS,qKR];rw[hloop];simp[qKQ]
theorem qOF(f:Int)(ks:List T):qac XV 164 [.d (.int .i64 f),.d (qaa .sub ks)] []=some (.d ((T.node f 0 ks).enc .sub),[]):=by
 rw[qah XV _ _ _ qQ6 rfl qAY rfl];simp[qQ6,qK8,qK7,splice,qaf,qai,qam,qaC,qak]
def qcV(s:List SymL)(f:Int)(ks:List T):T:=
 if qaM s f=true/\ks.length=0 then .node 0 0 []
 else if qaM s f=true/\ks.length=1 then(tAt ks 0).norm s
 else if qdD s f=true then(T.node f 0 ks).norm s else .node f 0 ks
theorem qlr(s:List SymL)(f:Int)(ks:List T):(qcV s f ks).inner<=qaQ ks:=by
 unfold qcV;split
 ·simp[T.inner,T.inners]
 ·split
  ·rename_i h
   have h1:=qeI s (tAt ks 0);have h2:=qbC (qav (l:=ks) (i:=0) (by omega));omega
  ·split
   ·have:=qeI s (T.node f 0 ks);rw[T.qdf]at this;exact this
   ·rw[T.qdf];omega
theorem qpn(g:Tag):(T.node 0 0 []).enc g= .agg [.int .i64 0,.int .i64 0,.sl g []]:=by rw[T.qbF];rfl
theorem qtO(s:List SymL)(hs:s.length<=1099511627776)(f:Int)(ks:List T)(hl:qaQ ks<=1099511627776):qac XV 192 [.d (sg s),.d (.int .i64 f),.d (qaa .sub ks)] []=some (.d ((qcV s f ks).enc U),[]):=by
 have hsy:=qoL s hs f;have hcp:=qrs ks hl;have hn:=qgW s hs (T.node f 0 ks) (by rw[T.qdf];exact hl);rw[qah XV _ _ _ qHc rfl qAV rfl];unfold qcV
 by_cases c1:qdD s f=true
 ·obtain⟨g1,g2⟩:=qeh c1
  have hsa:=qaq g2;have hbl:qaM s f=(qax s f.toNat).ac:=by unfold qaM;rw[c1];rfl
  rw[hbl];cases c2:(qax s f.toNat).ac with
  |false=>
   simp only[Bool.false_eq_true,false_and,if_false,c1,if_true];generalize (T.node f 0 ks).norm s=a at*
   simp[qHc,qm3,qm2,qm1,qm0,qmZ,qmY,qmX,qmW,hsy,c1,c2,g1,g2,hsa,cut,hn,splice,qaf,qai,qam,qaC,qak]
  |true=>
   simp only[true_and]
   by_cases c3:ks.length=0
   ·rw[if_pos c3]
    have c3':(ks.length:Int)=0:=by omega
    generalize hm:(ks.length:Int)=m at*
    rw[qpn];simp[qHc,qm3,qm2,qm1,qm0,qmZ,qmY,qmX,qmW,hsy,c1,c2,g1,g2,hsa,hm,c3',cut,splice,qaf,qai,qam,qaC,qak]
   ·rw[if_neg c3]
    by_cases c4:ks.length=1
    ·rw[if_pos c4]
     have h0:0<ks.length:=by omega
     have hn2:=qgW s hs (tAt ks 0) (by have:=qbC (qav h0);omega);have h6:ks[0]=tAt ks 0:=qap h0;have c4':(ks.length:Int)=1:=by omega
     generalize (tAt ks 0).norm s=a at*
     generalize hm:(ks.length:Int)=m at*
     simp[qHc,qm3,qm2,qm1,qm0,qmZ,qmY,qmX,qmW,hsy,c1,c2,g1,g2,hsa,hm,c4',h0,cut,hn2,h6,splice,qaf,qai,qam,qaC,qak]
    ·rw[if_neg c4,if_pos c1]
     have e3:((ks.length:Int)==0)=false:=beq_false_of_ne (by omega);have e4:((ks.length:Int)==1)=false:=beq_false_of_ne (by omega);generalize (T.node f 0 ks).norm s=a at*
     generalize hm:(ks.length:Int)=m at*
     simp[qHc,qm3,qm2,qm1,qm0,qmZ,qmY,qmX,qmW,hsy,c1,c2,g1,g2,hsa,hm,e3,e4,cut,hn,splice,qaf,qai,qam,qaC,qak]
 ·have hbl:qaM s f=false:=by unfold qaM;simp[c1]
  have c1':qdD s f=false:=by simpa using c1
  simp only[hbl,Bool.false_eq_true,false_and,if_false,c1'];simp only[qaa]at*
  rw[T.qbF];simp[qHc,qm3,qm2,qm1,qm0,qmZ,qmY,qmX,qmW,hsy,c1',hcp,splice,qaf,qai,qam,qaC,qak]
theorem IsV.clr{d:DV}{a:T}(h:IsV d a):d.clr=a.enc .sub:=by
 obtain⟨g,X,rfl,hX⟩:=h;simp only[DV.clr,DV.clrs];rw[DV.qaA,hX,T.qbF]
theorem qsx(s:List SymL)(hs:s.length<=1099511627776)(f:Int)(ks:List T)(hl:qaQ ks<=1099511627776):∃d,qac XV 193 [.d (sg s),.d (.int .i64 f),.d (qaa .sub ks)] []=some (.d d,[])/\IsV d (qcV s f ks):=by
 have hb:=qei s hs f;have hin:=qgV f 0 (s.length-1);have hcp:=qEn ks hl;have ho:=qOF f ks;have hn:=qgK s hs (T.node f 0 ks) (by rw[T.qdf];exact hl);have hw:IntKind.i64.wrap ((s.length:Int)-1)=s.length-1:=wrap_i64 (by omega) (by omega);rw[qah XV _ _ _ qHb rfl qAU rfl];unfold qcV;cases c2:qaM s f with
 |false=>
  simp only[Bool.false_eq_true,false_and,if_false];cases c1:qdD s f with
  |true=>
   simp only[if_true];refine⟨_,?_,qEr s _⟩;rw[qqH]at hn⊢
   generalize qzV s (T.node f 0 ks)=X at*
   rw[show inB f 0 (s.length-1)=true from c1]at hin;simp[qHb,qmV,qmU,qmT,qmS,qmR,qmQ,qmP,qmO,hb,c2,hw,hin,ho,hn,splice,qaf,qai,qam,qaC,qak]
  |false=>
   simp only[Bool.false_eq_true,if_false];refine⟨_,?_,qEs .sub _⟩;rw[show inB f 0 (s.length-1)=false from c1]at hin;simp[qHb,qmV,qmU,qmT,qmS,qmR,qmQ,qmP,qmO,hb,c2,hw,hin,ho,hcp,splice,qaf,qai,qam,qaC,qak]
 |true=>
  have c1:qdD s f=true:=by unfold qaM at c2;simp only[Bool.and_eq_true]at c2;exact c2.1
  simp only[true_and]
  by_cases c3:ks.length=0
  ·rw[if_pos c3]
   have c3':(ks.length:Int)=0:=by omega
   generalize hm:(ks.length:Int)=m at*
   refine⟨_,?_,qEs U _⟩;rw[qpn];simp[qHb,qmV,qmU,qmT,qmS,qmR,qmQ,qmP,qmO,hb,c2,hm,c3',splice,qaf,qai,qam,qaC,qak]
  ·rw[if_neg c3]
   by_cases c4:ks.length=1
   ·rw[if_pos c4]
    have h0:0<ks.length:=by omega
    have hn2:=qgK s hs (tAt ks 0) (by have:=qbC (qav h0);omega);have h6:ks[0]=tAt ks 0:=qap h0;have c4':(ks.length:Int)=1:=by omega
    refine⟨_,?_,qEr s _⟩;rw[qqH]at hn2⊢
    generalize qzV s (tAt ks 0)=X at*
    generalize hm:(ks.length:Int)=m at*
    simp[qHb,qmV,qmU,qmT,qmS,qmR,qmQ,qmP,qmO,hb,c2,hm,c4',h0,cut,hn2,h6,splice,qaf,qai,qam,qaC,qak]
   ·rw[if_neg c4,if_pos c1]
    have e3:((ks.length:Int)==0)=false:=beq_false_of_ne (by omega);have e4:((ks.length:Int)==1)=false:=beq_false_of_ne (by omega);refine⟨_,?_,qEr s _⟩;rw[qqH]at hn⊢
    generalize qzV s (T.node f 0 ks)=X at*
    rw[show inB f 0 (s.length-1)=true from c1]at hin;generalize hm:(ks.length:Int)=m at*
    simp[qHb,qmV,qmU,qmT,qmS,qmR,qmQ,qmP,qmO,hb,c2,hw,hin,ho,hn,hm,e3,e4,splice,qaf,qai,qam,qaC,qak]
mutual
def qUz(u:List Bd):T->T
 | .node f v ks=>if f= -1/\ks.length=0 then qoI u v else .node f v (qLU u ks)
def qLU(u:List Bd):List T->List T
 | []=>[]
 |t::r=>qUz u t::qLU u r
end
theorem qrW(a:List Bd)(x:Bd)(h:(a.length+1)*48<=140737488355328):qa7 4 48 (.sl U (a.map (Bd.enc U))) (.sl U [x.enc U])=some (.sl U ((a++[x]).map (Bd.enc U))):=by
 unfold qa7;simp only;rw[if_pos (by simp[qaf,qai])];simp only[List.isEmpty_cons,Bool.false_eq_true,if_false];rw[if_pos ⟨by simpa using h,trivial,by simp⟩];simp
theorem qip(u:List Bd)(i:Nat)(h:i<u.length):u.take (i+1)=u.take i++[bAt u i]:=by
 rw[List.take_add_one,List.getElem?_eq_getElem h,qbR h];rfl
def qcn(_:Unit)(i:Nat):Unit⊕Nat:= .inl ()
theorem qkg:∀(k i:Nat),runN qcn k () i= .inl ()
 |0,i=>rfl
 |k+1,i=>by simp only[runN,qcn];exact qkg k (i+1)
theorem qzk(u:List Bd)(hu:small u):qac XV 266 [.d (binds .sub u)] []=some (.d (binds U u),[]):=by
 rw[qah XV _ _ _ qQW rfl qAH rfl];obtain⟨hu,bu⟩:=hu;have h:=qag (X:=XV) (T:=XV.lin 266) (L:=0) (live:=[3,7,8,9]) (b:=qxB) (n:=u.length) (γ:=Nat) (st:=fun(_:Unit) i=>⟨[(3,.d (.sl U ((u.take i).map (Bd.enc U)))),(7,.d (binds .sub u)),(8,.d (.int .i64 u.length)),(9,.d (.int .i64 i))],[]⟩) (step:=qcn)
  (F:=fun _=>(.exit 0,⟨[(3,.d (.sl U ((u.take u.length).map (Bd.enc U)))),(7,.d (binds .sub u)),(8,.d (.int .i64 u.length)),(9,.d (.int .i64 u.length)),(10,.d (.bool false))],[]⟩)) (R:=fun _=>(.ret,⟨[],[]⟩))
  (fun a=>⟨by simp,by simp[qxB,qCE,qCD,qCB]⟩)
  (fun a i hi=>by
   have hw:=qae (n:=i) (by omega);have hc:=qgZ (bAt u i).t (bu i hi);have ht:=qbR hi;have a1:=qrW (u.take i) (bAt u i) (by simp;omega);have hsn:=qip u i hi;rw[<-hsn]at a1;generalize hR2:(u.take (i+1)).map (Bd.enc U)=R2 at a1;generalize (u.take i).map (Bd.enc U)=R1 at*
   generalize bAt u i=b at*
   unfold qcn;exact⟨_,by simp[qxB,qCE,qCD,qU0,qCB,hi,hw,cut,ht,hc,a1,splice,qaf,qai,qam,qaC,qak];rfl,by simp[qad,qab,<-hR2]⟩)
  u.length () 0 ⟨[(3,.d (.sl U ((u.take 0).map (Bd.enc U)))),(7,.d (binds .sub u)),(8,.d (.int .i64 u.length)),(9,.d (.int .i64 0))],[]⟩ (by omega) (by simp[qad,qab])
 rw[qkg,List.take_length,List.take_zero]at h;simp only[qOq,List.map_nil]at h;simp[qQW,qKv,qKu,qKt,qKs];rw[h];simp
theorem qEl(u:List Bd)(hu:small u):qac XV 250 [.d (binds .sub u)] []=some (.d (binds U u),[]):=by
 rw[qah XV _ _ _ qQ0 rfl qAM rfl];obtain⟨hu,bu⟩:=hu;have h:=qag (X:=XV) (T:=XV.lin 250) (L:=0) (live:=[0,3,4]) (b:=qxC) (n:=u.length) (γ:=Nat) (st:=fun(_:Unit) i=>⟨[(0,.d (binds .sub u)),(3,.d (.sl U ((u.take i).map (Bd.enc U)))),(4,.d (.int .i64 i))],[]⟩) (step:=qcn)
  (F:=fun _=>(.exit 0,⟨[(0,.d (binds .sub u)),(3,.d (.sl U ((u.take u.length).map (Bd.enc U)))),(4,.d (.int .i64 u.length)),(9,.d (.bool false))],[]⟩)) (R:=fun _=>(.ret,⟨[],[]⟩))
  (fun a=>⟨by simp,by simp[qxC,qCO,qCN]⟩)
  (fun a i hi=>by
   have hw:=qae (n:=i) (by omega);have hc:=qf8 (bAt u i).t (bu i hi);have ht:=qbR hi;have a1:=qrW (u.take i) (bAt u i) (by simp;omega);have hsn:=qip u i hi;rw[<-hsn]at a1;generalize hR2:(u.take (i+1)).map (Bd.enc U)=R2 at a1;generalize (u.take i).map (Bd.enc U)=R1 at*
   generalize bAt u i=b at*
   unfold qcn;exact⟨_,by simp[qxC,qCO,qU1,qCN,hi,hw,cut,ht,hc,a1,splice,qaf,qai];rfl,by simp[qad,qab,<-hR2]⟩)
  u.length () 0 ⟨[(0,.d (binds .sub u)),(3,.d (.sl U ((u.take 0).map (Bd.enc U)))),(4,.d (.int .i64 0))],[]⟩ (by omega) (by simp[qad,qab])
 rw[qkg,List.take_length,List.take_zero]at h;simp only[qOt,List.map_nil]at h;simp[qQ0,qKH,qKG,qKF,qKE];rw[h];simp
theorem qpc(xs:List DV)(x:DV)(g:Tag)(h:(xs.length+1)*48<=140737488355328)(h2:∀y,y∈xs->y.cells.length=4)(hx:x.cells.length=4)(hc:x.cells.all DV.isCell=true):qa7 4 48 (.sl U xs) (.sl g [x])=some (.sl U (xs++[x])):=by
 have h1:xs.all (fun e=>decide (e.cells.length=4))=true:=by
  rw[List.all_eq_true];intro y hy;simpa using h2 y hy
 unfold qa7;simp only;rw[if_pos (by simp[hx];simpa using hc)];simp only[List.isEmpty_cons,Bool.false_eq_true,if_false];rw[if_pos ⟨by simpa using h,trivial,h1⟩]
def qIt(u:List Bd)(b:Bd)(k i:Nat):List DV:=if i=k then [b.enc U]else []
def qjz(u:List Bd)(b:Bd)(k:Nat):Nat->List DV
 |0=>[]
 |i+1=>(qjz u b k i++qIt u b k i)++[(bAt u i).enc .sub]
theorem qpg(u:List Bd)(b:Bd)(k:Nat):∀i,(qjz u b k i).length<=2*i
 |0=>Nat.le_refl _
 |i+1=>by
  have:=qpg u b k i;unfold qjz qIt;split<;>simp<;>omega
theorem qiV(u:List Bd)(b:Bd)(k:Nat):∀i y,y∈qjz u b k i->y.cells.length=4
 |0,y,h=>by simp[qjz]at h
 |i+1,y,h=>by
  unfold qjz qIt at h;simp only[List.mem_append,List.mem_singleton]at h;rcases h with(h|h)|h
  ·exact qiV u b k i y h
  ·split at h
   ·simp at h;subst h;rfl
   ·simp at h
  ·subst h;rfl
theorem qxP(u:List Bd)(b:Bd)(k:Nat):∀i,i<=u.length->(qjz u b k i).map DV.clr=(if k<i then u.take k++b::(u.take i).drop k else u.take i).map (Bd.enc .sub)
 |0,_=>by simp[qjz]
 |i+1,hi=>by
  have ih:=qxP u b k i (by omega);have hs:=qip u i (by omega);unfold qjz qIt;rw[List.map_append,List.map_append,ih]
  by_cases c1:i=k
  ·subst c1
   rw[if_neg (Nat.lt_irrefl i),if_pos rfl,if_pos (Nat.lt_succ_self i),hs];have:(List.take i u++[bAt u i]).drop i=[bAt u i]:=by
    rw[List.drop_append_of_le_length (by simp;omega),List.drop_of_length_le (by simp;omega)];rfl
   rw[this];simp
  ·rw[if_neg c1]
   by_cases c2:k<i
   ·rw[if_pos c2,if_pos (by omega),hs,List.drop_append_of_le_length (by simp;omega)]
    simp
   ·rw[if_neg c2,if_neg (by omega),hs]
    simp
theorem qJo(u:List Bd)(v:Int)(i:Nat)(hi:i<u.length)(h:i<qlV u v):¬(bAt u i).v>v:=by
 unfold qlV at h;have:=List.not_of_lt_findIdx h;rw[qbR hi]at this;simpa using this
theorem qJp(u:List Bd)(v:Int)(h:qlV u v<u.length):(bAt u (qlV u v)).v>v:=by
 unfold qlV at h⊢
 have:=List.findIdx_getElem (w:=h);rw[qbR h]at this;simpa using this
theorem qw6(u:List Bd)(v:Int)(t:T)(hu:u.length<=549755813888)(ht:t.inner<=1099511627776):
 ∃xs,xs.map DV.clr=(qgp u v t).map (Bd.enc .sub)/\qac XV 313 [.d (binds .sub u),.d (.int .i64 v),.d (t.enc .sub)] []=some (.d (.sl U xs),[]):=by
 have hcp:=qf8 t ht;obtain⟨f,w,ks⟩:=t;obtain⟨k,hk⟩:∃k,k=qlV u v:=⟨_,rfl⟩;refine⟨qjz u ⟨v,.node f w ks⟩ k u.length++qIt u ⟨v,.node f w ks⟩ k u.length,?_,?_⟩
 ·have hkl:k<=u.length:=by rw[hk];exact List.findIdx_le_length
  rw[List.map_append,qxP u _ k u.length (Nat.le_refl _)];unfold qgp qIt;rw[<-hk,List.take_length]
  by_cases c:k<u.length
  ·rw[if_pos c,if_neg (by omega)];simp
  ·have:k=u.length:=by omega
   subst this;rw[if_neg c,if_pos rfl];simp
 rw[qah XV _ _ _ qQM rfl qAp rfl];have h:=qag (X:=XV) (T:=XV.lin 313) (L:=1) (live:=[0,1,5,7,8,9]) (b:=qnx) (n:=u.length) (γ:=Nat) (st:=fun(_:Unit) i=>⟨[(0,.d (binds .sub u)),(1,.d (.int .i64 v)),(5,.ptr 0 0),(7,.d (.sl U (qjz u ⟨v,.node f w ks⟩ k i))),(8,.d (.bool (decide (k<i)))),(9,.d (.int .i64 i))],[some [.d (.int .i64 f),.d (.int .i64 w),.d (qaa .sub ks)]]⟩) (step:=qcn)
  (F:=fun _=>(.exit 0,⟨[(0,.d (binds .sub u)),(1,.d (.int .i64 v)),(5,.ptr 0 0),(7,.d (.sl U (qjz u ⟨v,.node f w ks⟩ k u.length))),(8,.d (.bool (decide (k<u.length)))),(9,.d (.int .i64 u.length)),(14,.d (.bool false))],[some [.d (.int .i64 f),.d (.int .i64 w),.d (qaa .sub ks)]]⟩)) (R:=fun _=>(.ret,⟨[],[]⟩))
  (fun a=>⟨by simp,by simp[qnx,qqc,qqa,qp9,qp8,qp7,qqb]⟩)
  (fun a i hi=>by
   have hw:=qae (n:=i) (by omega);have hb:=qbR hi;have hln:=qpg u ⟨v,.node f w ks⟩ k i;have hce:=qiV u ⟨v,.node f w ks⟩ k i;have a1:=qpc (qjz u ⟨v,.node f w ks⟩ k i) ((bAt u i).enc .sub) U (by omega) hce rfl (by simp[qaf,qai]);have a2:qa7 4 48 (.sl U (qjz u ⟨v,.node f w ks⟩ k i)) (.sl U [.agg [.int .i64 v,.int .i64 f,.int .i64 w,qaa U ks]])=some (.sl U (qjz u ⟨v,.node f w ks⟩ k i++[(⟨v,.node f w ks⟩:Bd).enc U])):=qpc (qjz u ⟨v,.node f w ks⟩ k i) ((⟨v,.node f w ks⟩:Bd).enc U) U (by omega) hce rfl (by simp[qaf,qai]);have a3:=qpc (qjz u ⟨v,.node f w ks⟩ k i++[(⟨v,.node f w ks⟩:Bd).enc U]) ((bAt u i).enc .sub) U (by simp;omega) (fun y hy=>by
    rcases List.mem_append.1 hy with h|h
    ·exact hce y h
    ·simp at h;subst h;rfl) rfl (by simp[qaf,qai])
   have hnx:qjz u ⟨v,.node f w ks⟩ k (i+1)=(qjz u ⟨v,.node f w ks⟩ k i++qIt u ⟨v,.node f w ks⟩ k i)++[(bAt u i).enc .sub]:=rfl;unfold qIt at hnx;generalize hX2:qjz u ⟨v,.node f w ks⟩ k (i+1)=X2 at*
   generalize qjz u ⟨v,.node f w ks⟩ k i=X1 at*
   unfold qcn
   by_cases c1:k<i
   ·have c2:¬i=k:=by omega
    have c3:k<i+1:=by omega
    rw[if_neg c2,List.append_nil]at hnx;rw[<-hnx]at a1;exact⟨_,by simp[qnx,qqc,qqa,qp9,qp8,qp7,qqb,hi,hw,cut,hb,c1,a1];rfl,by simp[qad,qab,hX2,c3]⟩
   ·by_cases c2:i=k
    ·have hgt:(bAt u i).v>v:=by rw[c2,hk];exact qJp u v (by omega)
     rw[if_pos c2]at hnx;rw[<-hnx]at a3;have c3:k<i+1:=by omega
     exact⟨_,by simp[qnx,qqc,qqa,qp9,qp8,qp7,qqb,hi,hw,cut,hb,c1,hgt,hcp,a2,a3,splice];rfl,by simp[qad,qab,hX2,c3]⟩
    ·have hle:=qJo u v i hi (by omega)
     rw[if_neg c2,List.append_nil]at hnx;rw[<-hnx]at a1;have c3:¬k<i+1:=by omega
     exact⟨_,by simp[qnx,qqc,qqa,qp9,qp8,qp7,qqb,hi,hw,cut,hb,c1,hle,a1];rfl,by simp[qad,qab,hX2,c3]⟩)
  u.length () 0 ⟨[(0,.d (binds .sub u)),(1,.d (.int .i64 v)),(5,.ptr 0 0),(7,.d (.sl U [])),(8,.d (.bool false)),(9,.d (.int .i64 0))],[some [.d (.int .i64 f),.d (.int .i64 w),.d (qaa .sub ks)]]⟩ (by omega) (by simp[qad,qab,qjz])
 rw[qkg]at h;simp only[qOh]at h;have hln:=qpg u ⟨v,.node f w ks⟩ k u.length;have a2:qa7 4 48 (.sl U (qjz u ⟨v,.node f w ks⟩ k u.length)) (.sl U [.agg [.int .i64 v,.int .i64 f,.int .i64 w,qaa U ks]])=some (.sl U (qjz u ⟨v,.node f w ks⟩ k u.length++[(⟨v,.node f w ks⟩:Bd).enc U])):=qpc (qjz u ⟨v,.node f w ks⟩ k u.length) ((⟨v,.node f w ks⟩:Bd).enc U) U (by omega) (qiV u ⟨v,.node f w ks⟩ k u.length) rfl (by simp[qaf,qai]);have hkl:k<=u.length:=by rw[hk];exact List.findIdx_le_length
 simp[qQM,qJZ,qJY,qJX,qJW,qCk,qCj,qCi];rw[h];unfold qIt;generalize qjz u ⟨v,.node f w ks⟩ k u.length=X1 at*
 by_cases c:k<u.length
 ·have c2:¬u.length=k:=by omega
  simp[c,c2]
 ·have c2:u.length=k:=by omega
  simp[c2,hcp,a2,splice]
def qx7(t:T)(b:Bool):Bool:=b||decide (12<t.kids.length)
mutual
def qdC:T->Bool
 | .node f v ks=>decide (12<ks.length)||qi3 ks
def qi3:List T->Bool
 | []=>false
 |t::ts=>qdC t||qi3 ts
end
mutual
theorem qq8:∀(t:T) (b:Bool),T.fold qx7 t b=(b||qdC t)
 | .node f v ks,b=>by
  simp only[T.fold,qdC,qnf ks,qx7,T.kids];rw[Bool.or_assoc];rfl
theorem qnf:∀(ts:List T) (b:Bool),T.folds qx7 ts b=(b||qi3 ts)
 | [],b=>by simp[T.folds,qi3]
 |t::ts,b=>by
  simp only[T.folds,qi3,qq8 t,qnf ts];rw[Bool.or_assoc]
end
theorem qtM(t:T)(ht:t.inner<=1099511627776):qac XV 317 [.d (t.enc .sub)] []=some (.d (.bool (qdC t)),[]):=by
 rw[qah XV _ _ _ qQJ rfl qAl rfl];have key:∀(b:Bool),qac XV 25 [.d (t.enc .sub),.fn 330 [.ptr 1 0]] ([some [.d (.int .i64 t.f),.d (.int .i64 t.v),.d (qaa .sub t.kids)],some [.d (.bool b)]]++[])=some (.d (.tup []),[some [.d (.int .i64 t.f),.d (.int .i64 t.v),.d (qaa .sub t.kids)],some [.d (.bool (T.fold qx7 t b))]]++[]):=fun b=>
  qt5 (fun b:Bool=>[some [.d (.int .i64 t.f),.d (.int .i64 t.v),.d (qaa .sub t.kids)],some [.d (.bool b)]]) qx7 330 [.ptr 1 0] 2 (fun _=>rfl) (fun n hn=>by simp;omega) rfl (by simp) (fun x b r=>by
   rw[qah XV _ _ _ qMO rfl qAh rfl];obtain⟨xf,xv,xk⟩:=x;unfold qx7;cases b
   ·by_cases h1:12<xk.length
    ·have h2:(12:Int)<xk.length:=by omega
     simp[qMO,quS,quR,h1,h2,splice]
    ·have h2:¬(12:Int)<xk.length:=by omega
     simp[qMO,quS,quR,h1,h2,splice]
   ·simp[qMO,quS,quR,splice]) t ht b []
 have h:=key false;rw[qq8,Bool.false_or]at h;simp only[List.append_nil]at h;obtain⟨f,v,ks⟩:=t;simp only[T.qbg,T.qdQ,T.qbd]at h;simp[qQJ,qJN,qJM,qJL,qJK,h,splice]
theorem qin:∀ks:List T,qi3 ks=ks.any qdC
 | []=>rfl
 |t::ts=>by simp only[qi3,List.any_cons,qin ts]
theorem qhU(q:Nat->Bool)(k i:Nat):(qaw q k i).isSome=true↔∃j,i<=j/\j<i+k/\q j=true:=by
 constructor
 ·intro h
  obtain⟨j,hj⟩:=Option.isSome_iff_exists.1 h;exact⟨j,qcd q k i j hj⟩
 ·induction k generalizing i with
  |zero=>rintro⟨j,h1,h2,_⟩;omega
  |succ k ih=>
   rintro⟨j,h1,h2,h3⟩
   simp only[qaw];split
   ·rfl
   ·rename_i hq
    refine ih (i+1) ⟨j,?_,by omega,h3⟩;rcases Nat.eq_or_lt_of_le h1 with rfl|h
    ·exact absurd h3 hq
    ·exact h
theorem qBg(ks:List T):(qaw (fun i=>qdC (tAt ks i)) ks.length 0).isSome=qi3 ks:=by
 rw[qin,Bool.eq_iff_iff,qhU,List.any_eq_true];constructor
 ·rintro⟨j,_,h2,h3⟩
  exact⟨_,qav (by omega),h3⟩
 ·rintro⟨x,hx,h⟩
  obtain⟨j,hj,rfl⟩:=List.getElem_of_mem hx;exact⟨j,Nat.zero_le _,by omega,by rw[<-qap hj];exact h⟩
theorem qEj(f v:Int)(ks:List T)(hl:ks.length<=1099511627776)(hrec:∀t,t∈ks->qac XV 309 [.d (t.enc .sub)] []=some (.d (.bool (qdC t)),[])):
 qac XV 309 [.d ((T.node f v ks).enc .sub)] []=some (.d (.bool (qdC (.node f v ks))),[]):=by
 rw[qah XV _ _ _ qQO rfl qAr rfl];have h:=qag (X:=XV) (T:=XV.lin 309) (L:=1) (live:=[1,3]) (b:=qrF) (n:=ks.length) (γ:=Nat) (st:=fun(_:Unit) i=>⟨[(1,.ptr 0 0),(3,.d (.int .i64 i))],[some [.d (.int .i64 f),.d (.int .i64 v),.d (qaa .sub ks)]]⟩) (step:=qb3 fun i=>qdC (tAt ks i))
  (F:=fun _=>(.exit 0,⟨[(1,.ptr 0 0),(3,.d (.int .i64 ks.length)),(8,.d (.bool false))],[some [.d (.int .i64 f),.d (.int .i64 v),.d (qaa .sub ks)]]⟩)) (R:=fun _=>(.ret,⟨[(2,.d (.bool true))],[some [.d (.int .i64 f),.d (.int .i64 v),.d (qaa .sub ks)]]⟩))
  (fun a=>⟨by simp,by simp[qrF,qvb,qu9,qu8,qva]⟩)
  (fun a i hi=>by
   have hw:=qae (n:=i) (by omega);have hc:=hrec _ (qav hi);unfold qb3
   by_cases hq:qdC (tAt ks i)=true
   ·rw[if_pos hq];rw[hq]at hc
    exact⟨by simp,by simp[qrF,qvb,qu9,qu8,qva,hi,cut,qap hi,hc]⟩
   ·rw[if_neg hq]
    have hq':qdC (tAt ks i)=false:=by simpa using hq
    rw[hq']at hc;exact⟨_,by simp[qrF,qvb,qu9,qu8,qva,hi,hw,cut,qap hi,hc];rfl,by simp[qad,qab]⟩)
  ks.length () 0 ⟨[(1,.ptr 0 0),(3,.d (.int .i64 0))],[some [.d (.int .i64 f),.d (.int .i64 v),.d (qaa .sub ks)]]⟩ (by omega) (by simp[qad,qab])
 rw[qpk]at h;simp only[qOk]at h;have hwf:=qBg ks;simp[qQO,qJ5,qJ4,qJ3];rw[h];simp only[qdC];cases hq:qaw (fun i=>qdC (tAt ks i)) ks.length 0 with
 |some j=>
  rw[hq]at hwf;rw[<-hwf];simp
 |none=>
  rw[hq]at hwf;rw[<-hwf]
  by_cases h1:12<ks.length
  ·have h2:(12:Int)<ks.length:=by omega
   simp[h1,h2]
  ·have h2:¬(12:Int)<ks.length:=by omega
   simp[h1,h2]
theorem qqN(t:T)(ht:t.inner<=1099511627776):qac XV 309 [.d (t.enc .sub)] []=some (.d (.bool (qdC t)),[]):=by
 match t,ht with
 | .node f v ks,ht=>
  simp only[T.inner]at ht;exact qEj f v ks (by omega) fun s hs=>qqN s (by have:=T.qay hs;omega)
termination_by t
decreasing_by
 simp_wf
 have:=List.sizeOf_lt_of_mem hs;omega
theorem qBE(m i:Nat)(hi:i<64):qdN .shr .i64 (m:Int) (i:Int)=some (.int .i64 ((m/2^i:Nat):Int)):=by
 unfold qdN;have h0:¬((i:Int)<0):=by omega
 have hb:IntKind.i64.bits=64:=rfl;have hm:min i 64=i:=by omega
 simp only[if_neg h0,Int.toNat_natCast,hb,hm,Option.some.injEq,DV.int.injEq,true_and];rw[Int.fdiv_eq_ediv_of_nonneg _ (by exact Int.pow_nonneg (by omega)),Int.natCast_ediv,Int.natCast_pow];rfl
theorem and_one(a:Nat)(ha:a<4611686018427387904):qdN .and .i64 (a:Int) 1=some (.int .i64 ((a%2:Nat):Int)):=by
 unfold qdN bits;have h1:BitVec.ofInt IntKind.i64.bits (a:Int)=BitVec.ofNat 64 a:=BitVec.ofInt_natCast 64 a;have h2:BitVec.ofInt IntKind.i64.bits 1=BitVec.ofNat 64 1:=BitVec.ofInt_natCast 64 1;have h3:(BitVec.ofNat 64 a&&&BitVec.ofNat 64 1).toNat=a%2:=by
  rw[BitVec.toNat_and,BitVec.toNat_ofNat,BitVec.toNat_ofNat,Nat.mod_eq_of_lt (by omega),Nat.mod_eq_of_lt (by omega),Nat.and_one_is_mod]
 simp only[Option.map_some,Option.some.injEq,DV.int.injEq,true_and];rw[h1,h2];show IntKind.i64.wrap (((BitVec.ofNat 64 a&&&BitVec.ofNat 64 1).toNat:Nat):Int)=_;rw[h3,IntKind.wrap_i64];omega
theorem qFR(m i:Nat):((((m/2^i%2:Nat):Int)==1)=m.testBit i):=by
 rw[Nat.testBit_eq_decide_div_mod_eq,Bool.eq_iff_iff,beq_iff_eq,decide_eq_true_eq];generalize m/2^i%2=r;omega
def onB(l:List T)(m:Nat):Nat->List T
 |0=>[]
 |i+1=>if m.testBit i then onB l m i++[tAt l i]else onB l m i
def qeQ(l:List T)(m:Nat):Nat->List T
 |0=>[]
 |i+1=>if m.testBit i then qeQ l m i else qeQ l m i++[tAt l i]
theorem qtr(l:List T)(m:Nat):∀i,(onB l m i).length<=i
 |0=>Nat.le_refl _
 |i+1=>by have:=qtr l m i;unfold onB;split<;>simp<;>omega
theorem qoD(l:List T)(m:Nat):∀i,(qeQ l m i).length<=i
 |0=>Nat.le_refl _
 |i+1=>by have:=qoD l m i;unfold qeQ;split<;>simp<;>omega
theorem qEm(l:List T)(m:Nat)(hl:l.length<=30)(hm:m<1099511627776):
 qac XV 315 [.d (qaa .sub l),.d (.int .i64 m)] []=some (.d (.tup [.sl U ((onB l m l.length).map (T.enc .sub)),.sl U ((qeQ l m l.length).map (T.enc .sub))]),[]):=by
 rw[qah XV _ _ _ qQL rfl qAn rfl];have h:=qag (X:=XV) (T:=XV.lin 315) (L:=0) (live:=[0,1,6,7,8]) (b:=qrD) (n:=l.length) (γ:=Nat) (st:=fun(_:Unit) i=>⟨[(0,.d (qaa .sub l)),(1,.d (.int .i64 m)),(6,.d (.sl U ((onB l m i).map (T.enc .sub)))),(7,.d (.sl U ((qeQ l m i).map (T.enc .sub)))),(8,.d (.int .i64 i))],[]⟩) (step:=qcn)
  (F:=fun _=>(.exit 0,⟨[(0,.d (qaa .sub l)),(1,.d (.int .i64 m)),(6,.d (.sl U ((onB l m l.length).map (T.enc .sub)))),(7,.d (.sl U ((qeQ l m l.length).map (T.enc .sub)))),(8,.d (.int .i64 l.length)),(14,.d (.bool false))],[]⟩)) (R:=fun _=>(.ret,⟨[],[]⟩))
  (fun a=>⟨by simp,by simp[qrD,qu3,qu1,qu0,quZ,qu2]⟩)
  (fun a i hi=>by
   have hw:=qae (n:=i) (by omega);have h1:=qtr l m i;have h2:=qoD l m i;have a1:=qgz (onB l m i) [tAt l i] U (by simp;omega);have a2:=qgz (qeQ l m i) [tAt l i] U (by simp;omega);simp only[List.map_cons,List.map_nil,List.map_append]at a1 a2;have hs1:=qBE m i (by omega);have hdm:m/2^i<4611686018427387904:=Nat.lt_of_le_of_lt (Nat.div_le_self _ _) (by omega);have hs2:=and_one (m/2^i) hdm;have hs3:=qFR m i;generalize m/2^i=q at hs1 hs2 hs3;generalize q%2=r at hs2 hs3;unfold qcn
   by_cases hb:m.testBit i=true
   ·exact⟨_,by simp[qrD,qu3,qu1,qu0,quZ,qu2,hi,hw,cut,qap hi,a1,hs1,hs2,hs3,hb];rfl,by simp[qad,qab,onB,qeQ,hb]⟩
   ·exact⟨_,by simp[qrD,qu3,qu1,qu0,quZ,qu2,hi,hw,cut,qap hi,a2,hs1,hs2,hs3,hb];rfl,by simp[qad,qab,onB,qeQ,hb]⟩)
  l.length () 0 ⟨[(0,.d (qaa .sub l)),(1,.d (.int .i64 m)),(6,.d (.sl U [])),(7,.d (.sl U [])),(8,.d (.int .i64 0))],[]⟩ (by omega) (by simp[qad,qab,onB,qeQ])
 rw[qkg]at h;simp only[qOg]at h;simp[qQL,qJV,qJU,qJT,qJS];rw[h];simp
def qbY(p t:T):Gl:=⟨false,0,[p],[t]⟩
def qbk(f:Int)(ps ts:List T):Gl:=⟨true,f,ps,ts⟩
def partsOf(f:Int)(t:T):List T:=if t.f=f then t.kids else [t]
def evs(s:List SymL):Nat->List Gl->List Bd->List (Option (List Bd))
 |0,_,_=>[]
 |n+1,[],u=>[none,some u]
 |n+1,⟨true,f,ps,ts⟩::rest,u=>none::(match ps with
  | []=>if ts.length=0 then evs s n rest u else []
  |p::ps=>if p.f= -1 then(match qbP u p.v with
   |some j=>(match takeN ts (partsOf f (bAt u j).t)with
    | .inl r=>evs s n (qbk f ps r::rest) u
    | .inr _=>[])
   |none=>(List.range (2^ts.length-1)).flatMap fun m=>evs s n (qbk f ps (qeQ ts (m+1) ts.length)::rest) (qgp u p.v (qcV s f (onB ts (m+1) ts.length))))
   else(List.range ts.length).flatMap fun i=>evs s n (qbY p (tAt ts i)::qbk f ps (qbr ts i)::rest) u)
 |n+1,⟨false,f,ps,ts⟩::rest,u=>none::(if(tAt ps 0).f= -1 then(match qbP u (tAt ps 0).v with
  |none=>evs s n rest (qgp u (tAt ps 0).v (tAt ts 0))
  |some j=>if T.cmp (bAt u j).t (tAt ts 0)==0 then evs s n rest u else [])
  else if(tAt ps 0).f≠(tAt ts 0).f then []
  else if qaM s (tAt ps 0).f=true then evs s n (qbk (tAt ps 0).f (tAt ps 0).kids (tAt ts 0).kids::rest) u
  else if(tAt ps 0).kids.length≠(tAt ts 0).kids.length then []
  else evs s n ((List.range (tAt ps 0).kids.length).map (fun i=>qbY (tAt (tAt ps 0).kids i) (tAt (tAt ts 0).kids i))++rest) u)
def glW(g:Gl):Nat:=if g.many then 1+3*qaQ g.ps else 3*(tAt g.ps 0).inner+2
def qdw(l:List Gl):Nat:=(l.map glW).sum
structure MS where
 ways:List (List Bd)
 steps:Nat
 over:Bool
def MS.done(S:MS):Bool:=S.over||decide (60<S.ways.length)
def MS.ev(S:MS)(e:Option (List Bd)):MS:=
 if S.done then S else match e with
 |none=>{S with steps:=S.steps+1,over:=decide (20000<S.steps+1)}
 |some u=>if qxa S.ways u then S else{S with ways:=S.ways++[u]}
def MS.run(S:MS)(es:List (Option (List Bd))):MS:=es.foldl MS.ev S
theorem MS.qfB(S:MS)(h:S.done=true):∀es,S.run es=S
 | []=>rfl
 |e::es=>by
  have:S.ev e=S:=by unfold MS.ev;rw[if_pos h]
  show MS.run (S.ev e) es=S;rw[this];exact MS.qfB S h es
theorem MS.qgA(S:MS)(a b:List (Option (List Bd))):S.run (a++b)=(S.run a).run b:=List.foldl_append
theorem MS.qeq(S:MS)(e:Option (List Bd))(b:List (Option (List Bd))):S.run (e::b)=(S.ev e).run b:=rfl
theorem MS.qMa(S:MS)(e:Option (List Bd))(h:S.ways.length<=61):(S.ev e).ways.length<=61:=by
 unfold MS.ev;split
 ·exact h
 ·rename_i hd
  cases e with
  |none=>exact h
  |some u=>
   simp only;split
   ·exact h
   ·unfold MS.done at hd
    simp only[Bool.or_eq_true,decide_eq_true_eq,not_or]at hd;simp;omega
theorem MS.qGe(S:MS):∀(es:List (Option (List Bd))),S.ways.length<=61->(S.run es).ways.length<=61
 | [],h=>h
 |e::es,h=>MS.qGe (S.ev e) es (S.qMa e h)
abbrev qbn(ws:List (List Bd)):DV:= .sl U (ws.map (binds U))
def mB(s:List SymL)(S:MS):List AV:=qyN (sg s) (qbn S.ways) 60 S.steps 20000 S.over
theorem qgY(s:List SymL)(S:MS)(pre r:qal):qac XV 319 [.ptr pre.length 0] (pre++some (mB s S)::r)=some (.d (.bool S.done),pre++some (mB s S)::r):=by
 have h:=qPa pre r (sg s) U (S.ways.map (binds U)) 60 S.steps 20000 S.over;have e:decide (((S.ways.map (binds U)).length:Int)>60)=decide (60<S.ways.length):=by
  rw[List.length_map,Bool.eq_iff_iff,decide_eq_true_eq,decide_eq_true_eq];omega
 rw[e]at h;exact h
theorem qc0(pre:qal)(x:Option (List AV))(r e:qal):(pre++x::(r++e)).take (pre.length+(r.length+1))=pre++x::r:=by
 rw[show pre++x::(r++e)=(pre++x::r)++e by simp,List.take_left' (by simp)]
theorem qER(s:List SymL)(S:MS)(gl:List Gl)(u:List Bd)(pre r:qal)(hd:S.done=true):
 qac XV 318 [.ptr pre.length 0,.d (qaU .sub gl),.d (binds .sub u)] (pre++some (mB s S)::r)=some (.d (.tup []),pre++some (mB s S)::r):=by
 rw[qah XV _ _ _ quD rfl qfS rfl];have h:=qgY s S pre (r++[some [.d (binds .sub u)]]);rw[hd]at h;simp[quD,qkp,qko,qkn,qkm,qkl,qkk,qkj,qgO,h,qc0]
def MS.step(S:MS):MS:={S with steps:=S.steps+1,over:=decide (20000<S.steps+1)}
theorem MS.qgi(S:MS)(h:S.done=false):S.ev none=S.step:=by unfold MS.ev;rw[h];rfl
theorem MS.quw(S:MS)(h:S.done=false)(u:List Bd):S.ev (some u)=if qxa S.ways u then S else{S with ways:=S.ways++[u]}:=by unfold MS.ev;rw[h];rfl
theorem qEP(s:List SymL)(S:MS)(gl:List Gl)(u:List Bd)(pre r:qal)(hd:S.done=false)(ho:20000<S.steps+1)(hst:S.steps<=20001):
 qac XV 318 [.ptr pre.length 0,.d (qaU .sub gl),.d (binds .sub u)] (pre++some (mB s S)::r)=some (.d (.tup []),pre++some (mB s S.step)::r):=by
 rw[qah XV _ _ _ quD rfl qfS rfl];have h:=qgY s S pre (r++[some [.d (binds .sub u)]]);rw[hd]at h;have hn2:¬(pre.length+(r.length+1+1)<=pre.length):=by omega
 have hw:IntKind.i64.wrap ((S.steps:Int)+1)=((S.steps+1:Nat):Int):=by rw[IntKind.wrap_i64];omega
 have hg:(20000:Int)<((S.steps+1:Nat):Int):=by omega
 have e:mB s S=[.d (sg s),.d (qbn S.ways),.d (.int .i64 60),.d (.int .i64 S.steps),.d (.int .i64 20000),.d (.bool S.over)]:=rfl;have e2:mB s S.step=[.d (sg s),.d (qbn S.ways),.d (.int .i64 60),.d (.int .i64 (S.steps+1:Nat)),.d (.int .i64 20000),.d (.bool true)]:=by
  unfold mB qyN MS.step;simp[ho]
 rw[e]at h;rw[e,e2];generalize ((S.steps+1:Nat):Int)=m at*
 simp[quD,qkp,qko,qkn,qrr,qkm,qkl,qkk,qkj,qgO,h,qc0,splice,hw,hg,hn2]
@[simp] theorem qFE:DV.clr∘binds U=binds .sub:=funext fun w=>by simp[binds]
theorem qxJ(L:List (List Bd))(t:Tag)(u:List Bd)(hl:(L.length+1)*24<=140737488355328):qa7 1 24 (.sl U (L.map (binds U))) (.sl t [binds U u])=some (.sl U ((L++[u]).map (binds U))):=by
 have h1:(L.map (binds U)).all (fun e=>decide (e.cells.length=1))=true:=by
  rw[List.all_eq_true];intro y hy;obtain⟨z,_,rfl⟩:=List.mem_map.1 hy;rfl
 unfold qa7;simp only;rw[if_pos (by rfl)];simp only[List.isEmpty_cons,Bool.false_eq_true,if_false];rw[if_pos ⟨by simpa using hl,trivial,h1⟩];simp
theorem qIV(s:List SymL)(S:MS)(u:List Bd)(pre r:qal)(hd:S.done=false)(ho:S.steps+1<=20000)(hw:∀w,w∈S.ways->small w)(hu:small u):
 qac XV 318 [.ptr pre.length 0,.d (qaU .sub []),.d (binds .sub u)] (pre++some (mB s S)::r)=some (.d (.tup []),pre++some (mB s (if qxa S.ways u then S.step else{S.step with ways:=S.ways++[u]}))::r):=by
 rw[qah XV _ _ _ quD rfl qfS rfl];have h:=qgY s S pre (r++[some [.d (binds .sub u)]]);rw[hd]at h;have hln:S.ways.length<=60:=by
  unfold MS.done at hd;simp only[Bool.or_eq_false_iff,decide_eq_false_iff_not]at hd;omega
 have hl2:pre.length<pre.length+(r.length+1+1):=by omega
 have hn2:¬(pre.length+(r.length+1+1)<=pre.length):=by omega
 have hn3:¬(r.length+1<=r.length):=by omega
 have hwr:IntKind.i64.wrap ((S.steps:Int)+1)=((S.steps+1:Nat):Int):=by rw[IntKind.wrap_i64];omega
 have hg:¬(20000:Int)<((S.steps+1:Nat):Int):=by omega
 have hdo:decide (20000<S.steps+1)=false:=by simp;omega
 have hov:S.over=false:=by unfold MS.done at hd;simp only[Bool.or_eq_false_iff]at hd;exact hd.1
 have e:mB s S=[.d (sg s),.d (qbn S.ways),.d (.int .i64 60),.d (.int .i64 S.steps),.d (.int .i64 20000),.d (.bool false)]:=by unfold mB qyN;rw[hov]
 have e2:mB s S.step=[.d (sg s),.d (qbn S.ways),.d (.int .i64 60),.d (.int .i64 (S.steps+1:Nat)),.d (.int .i64 20000),.d (.bool false)]:=by
  unfold mB qyN MS.step;rw[hdo]
 have e3:mB s {S.step with ways:=S.ways++[u]}=[.d (sg s),.d (qbn (S.ways++[u])),.d (.int .i64 60),.d (.int .i64 (S.steps+1:Nat)),.d (.int .i64 20000),.d (.bool false)]:=by
  unfold mB qyN MS.step;rw[hdo]
 have hcon:=quc S.ways u (pre++some (mB s S.step)::r) [] (by omega) hw hu;have hcp:=qzk u hu;have hap:=qxJ S.ways U u (by omega);simp only[yg_,List.length_cons,yh_,List.cons_append]at hcon;rw[e2]at hcon;rw[e]at h;rw[e];cases hh:qxa S.ways u with
 |true=>
  rw[hh]at hcon;simp only[if_true];rw[e2];generalize ((S.steps+1:Nat):Int)=m at*
  simp[quD,qkp,qko,qkn,qrr,qkm,qkl,qkk,qkj,qgO,h,hl2,qc0,splice,hwr,hg,hn2,hcon]
 |false=>
  rw[hh]at hcon;simp only[Bool.false_eq_true,if_false];rw[e3];generalize ((S.steps+1:Nat):Int)=m at*
  simp[quD,qkp,qko,qkn,qrr,qkm,qkl,qkk,qUY,qkj,qgO,h,hl2,qc0,splice,hwr,hg,hn2,hn3,hcon,hcp,hap]
theorem qLT(b:Bool)(f:Int)(ps ts:List T):DV.agg [.bool b,.int .i64 f,qaa .sub ps,qaa .sub ts]=(Gl.mk b f ps ts).enc .sub:=rfl
@[simp] theorem Gl.qeP(g:Tag)(x:Gl):(x.enc g).cells=[.bool x.many,.int .i64 x.f,qaa g x.ps,qaa g x.ts]:=rfl
@[simp] theorem Gl.qi0(g:Tag)(x:Gl):(AV.d (x.enc g)).cells=[.d (.bool x.many),.d (.int .i64 x.f),.d (qaa g x.ps),.d (qaa g x.ts)]:=rfl
@[simp] theorem Gl.qiY(g:Tag)(x:Gl):(x.enc g).isCell=false:=rfl
@[simp] theorem Gl.qec(x:Gl):(x.enc .sub).clr=x.enc .sub:=by simp[Gl.enc]
@[simp] theorem quj:DV.clr∘Gl.enc .sub=Gl.enc .sub:=funext fun w=>by simp
theorem qEQ(s:List SymL)(S S':MS)(f:Int)(ps ts:List T)(rest:List Gl)(u:List Bd)(pre r:qal)(hd:S.done=false)(ho:S.steps+1<=20000)
 (hrec:∀r',qac XV 321 [.ptr pre.length 0,.d ((Gl.mk true f ps ts).enc .sub),.d (qaU .sub rest),.d (binds .sub u)] (pre++some (mB s S.step)::r')=some (.d (.tup []),pre++some (mB s S')::r')):
 qac XV 318 [.ptr pre.length 0,.d (qaU .sub (⟨true,f,ps,ts⟩::rest)),.d (binds .sub u)] (pre++some (mB s S)::r)=some (.d (.tup []),pre++some (mB s S')::r):=by
 rw[qah XV _ _ _ quD rfl qfS rfl];have h:=qgY s S pre (r++[some [.d (binds .sub u)]]);rw[hd]at h;have hl2:pre.length<pre.length+(r.length+1+1):=by omega
 have hn2:¬(pre.length+(r.length+1+1)<=pre.length):=by omega
 have hwr:IntKind.i64.wrap ((S.steps:Int)+1)=((S.steps+1:Nat):Int):=by rw[IntKind.wrap_i64];omega
 have hg:¬(20000:Int)<((S.steps+1:Nat):Int):=by omega
 have hdo:decide (20000<S.steps+1)=false:=by simp;omega
 have hov:S.over=false:=by unfold MS.done at hd;simp only[Bool.or_eq_false_iff]at hd;exact hd.1
 have e:mB s S=[.d (sg s),.d (qbn S.ways),.d (.int .i64 60),.d (.int .i64 S.steps),.d (.int .i64 20000),.d (.bool false)]:=by unfold mB qyN;rw[hov]
 have e2:mB s S.step=[.d (sg s),.d (qbn S.ways),.d (.int .i64 60),.d (.int .i64 (S.steps+1:Nat)),.d (.int .i64 20000),.d (.bool false)]:=by
  unfold mB qyN MS.step;rw[hdo]
 have hr:=hrec (r++[some [.d (binds .sub u)],some [.d (.bool true),.d (.int .i64 f),.d (qaa .sub ps),.d (qaa .sub ts)]]);rw[e2]at hr;rw[e]at h;rw[e];have hz3:(((rest.length:Int)+1)==0)=false:=by simp;omega
 have ht1:List.take rest.length (rest.map (Gl.enc .sub))=rest.map (Gl.enc .sub):=List.take_of_length_le (by simp);generalize ((S.steps+1:Nat):Int)=m at*
 generalize mB s S'=X at*
 simp[quD,qkp,qko,qkn,qrr,qkm,qkl,qkk,qL0,qkj,qgO,h,hl2,qc0,splice,hwr,hg,hn2,hz3,cut,ht1,qLT,hr]
theorem qEO(s:List SymL)(S S':MS)(f:Int)(p t:T)(rest:List Gl)(u:List Bd)(pre r:qal)(hd:S.done=false)(ho:S.steps+1<=20000)
 (hrec:∀r',qac XV 322 [.ptr pre.length 0,.d (p.enc .sub),.d (t.enc .sub),.d (qaU .sub rest),.d (binds .sub u)] (pre++some (mB s S.step)::r')=some (.d (.tup []),pre++some (mB s S')::r')):
 qac XV 318 [.ptr pre.length 0,.d (qaU .sub (⟨false,f,[p],[t]⟩::rest)),.d (binds .sub u)] (pre++some (mB s S)::r)=some (.d (.tup []),pre++some (mB s S')::r):=by
 obtain⟨pf,pv,pk⟩:=p;obtain⟨tf,tv,tk⟩:=t;rw[qah XV _ _ _ quD rfl qfS rfl];have h:=qgY s S pre (r++[some [.d (binds .sub u)]]);rw[hd]at h;have hl2:pre.length<pre.length+(r.length+1+1):=by omega
 have hn2:¬(pre.length+(r.length+1+1)<=pre.length):=by omega
 have hn4:¬(r.length+2<=r.length):=by omega
 have hwr:IntKind.i64.wrap ((S.steps:Int)+1)=((S.steps+1:Nat):Int):=by rw[IntKind.wrap_i64];omega
 have hg:¬(20000:Int)<((S.steps+1:Nat):Int):=by omega
 have hdo:decide (20000<S.steps+1)=false:=by simp;omega
 have hov:S.over=false:=by unfold MS.done at hd;simp only[Bool.or_eq_false_iff]at hd;exact hd.1
 have e:mB s S=[.d (sg s),.d (qbn S.ways),.d (.int .i64 60),.d (.int .i64 S.steps),.d (.int .i64 20000),.d (.bool false)]:=by unfold mB qyN;rw[hov]
 have e2:mB s S.step=[.d (sg s),.d (qbn S.ways),.d (.int .i64 60),.d (.int .i64 (S.steps+1:Nat)),.d (.int .i64 20000),.d (.bool false)]:=by
  unfold mB qyN MS.step;rw[hdo]
 have hr:=hrec (r++[some [.d (binds .sub u)],some [.d (.bool false),.d (.int .i64 f),.d (.sl .sub [(T.node pf pv pk).enc .sub]),.d (.sl .sub [(T.node tf tv tk).enc .sub])]]);rw[e2]at hr;rw[e]at h;rw[e];have hz3:(((rest.length:Int)+1)==0)=false:=by simp;omega
 have ht1:List.take rest.length (rest.map (Gl.enc .sub))=rest.map (Gl.enc .sub):=List.take_of_length_le (by simp);generalize ((S.steps+1:Nat):Int)=m at*
 generalize mB s S'=X at*
 simp[quD,qkp,qko,qkn,qrr,qkm,qkl,qkk,qL0,qkj,qgO,qPf,h,hl2,qc0,splice,hwr,hg,hn2,hn4,hz3,cut,ht1,hr]
section
variable (s:List SymL) (p t:T) (rest:List Gl) (u:List Bd) (k:Nat) (Q Q':qal)
theorem qDT(hs:s.length<=1099511627776)(hv:p.f= -1)(hb:qbP u p.v=none)(hu:u.length<=1099511627776)(hk:k<Q.length)(hQ:Q'.length=Q.length)
 (hrec:∀e,qac XV 318 [.ptr k 0,.d (qaU .sub rest),.d (binds .sub (qgp u p.v t))] (Q++e)=some (.d (.tup []),Q'++e)):
 qac XV 322 [.ptr k 0,.d (p.enc .sub),.d (t.enc .sub),.d (qaU .sub rest),.d (binds .sub u)] Q=some (.d (.tup []),Q'):=by
 obtain⟨pf,pv,pk⟩:=p;obtain⟨tf,tv,tk⟩:=t;simp only[T.qbg,T.qdQ]at hv hb hrec;subst hv;rw[qah XV _ _ _ qr6 rfl qew rfl];have h1:=qdk (.node (-1) pv pk);simp only[T.qbg,BEq.rfl]at h1;have h2:=qjV u pv hu;rw[hb]at h2;simp only at h2;have h3:=qDN .sub .sub (by simp) (by simp) u pv (.node tf tv tk) [] hu;have hr:=hrec [some [.d (.int .i64 (-1)),.d (.int .i64 pv),.d (qaa .sub pk)],some [.d (.int .i64 tf),.d (.int .i64 tv),.d (qaa .sub tk)],some [.d (.int .i64 0),.d (.int .i64 0),.d (qaa .sub [])]];generalize qgp u pv (.node tf tv tk)=u2 at*
 simp[qr6,qjk,qjj,qji,qjh,qjg,qjf,qje,qjd,qjc,qf1,qf0,qfZ,qfY,h1,h2,h3,hr,hQ,splice]
theorem qyG(j:Nat)(hv:p.f= -1)(hb:qbP u p.v=some j)(hu:small u)(ht:t.inner<=1099511627776)(hk:k<Q.length)(hQ:Q'.length=Q.length)
 (hrec:(T.cmp (bAt u j).t t==0)=true->∀e,qac XV 318 [.ptr k 0,.d (qaU .sub rest),.d (binds .sub u)] (Q++e)=some (.d (.tup []),Q'++e)) (hno:(T.cmp (bAt u j).t t==0)=false->Q'=Q):
 qac XV 322 [.ptr k 0,.d (p.enc .sub),.d (t.enc .sub),.d (qaU .sub rest),.d (binds .sub u)] Q=some (.d (.tup []),Q'):=by
 obtain⟨pf,pv,pk⟩:=p;simp only[T.qbg,T.qdQ]at hv hb hrec;subst hv;have hj:=(qcd _ _ _ _ (show qaw (fun i=>(bAt u i).v==pv) u.length 0=some j from hb)).2.1;have h3:=same_eq (bAt u j).t t (hu.2 j (by omega)) ht;obtain⟨tf,tv,tk⟩:=t;rw[qah XV _ _ _ qr6 rfl qew rfl];have h1:=qdk (.node (-1) pv pk);simp only[T.qbg,BEq.rfl]at h1;have h2:=qjV u pv hu.1;rw[hb]at h2;simp only at h2;generalize (bAt u j).t=w at*
 obtain⟨wf,wv,wk⟩:=w;cases hc:(T.cmp (.node wf wv wk) (.node tf tv tk)==0)with
 |true=>
  rw[hc]at h3;have hr:=hrec hc [some [.d (.int .i64 (-1)),.d (.int .i64 pv),.d (qaa .sub pk)],some [.d (.int .i64 tf),.d (.int .i64 tv),.d (qaa .sub tk)],some [.d (.int .i64 wf),.d (.int .i64 wv),.d (qaa .sub wk)]];simp[qr6,qjk,qjj,qji,qjh,qjg,qjf,qje,qjd,qjc,qf1,qf0,qfZ,qfY,h1,h2,h3,hr,hQ,splice]
 |false=>
  rw[hc]at h3;rw[hno hc];simp[qr6,qjk,qjj,qji,qjh,qjg,qjf,qje,qjd,qjc,qf1,qf0,qfZ,qfY,h1,h2,h3,splice]
end
theorem qut(a:List DV)(c:List Gl)(g:Tag)(h2:∀y,y∈a->y.cells.length=4)(hl:(a.length+c.length)*64<=140737488355328):qa7 4 64 (.sl U a) (.sl g (c.map (Gl.enc .sub)))=some (.sl U (a++c.map (Gl.enc .sub))):=by
 have h0:(c.map (Gl.enc .sub)).all (fun e=>decide (e.cells.length=4/\e.cells.all DV.isCell=true))=true:=by
  rw[List.all_eq_true];intro y hy;obtain⟨z,_,rfl⟩:=List.mem_map.1 hy;simp[DV.isCell]
 have h1:a.all (fun e=>decide (e.cells.length=4))=true:=by
  rw[List.all_eq_true];intro y hy;simpa using h2 y hy
 unfold qa7;simp only;rw[if_pos h0];cases c with
 |nil=>simp
 |cons x r=>
  simp only[List.map_cons,List.isEmpty_cons,Bool.false_eq_true,if_false];rw[if_pos ⟨by simpa using hl,trivial,h1⟩]
section
variable (s:List SymL) (p t:T) (rest:List Gl) (u:List Bd) (k:Nat) (Q Q':qal)
theorem qyF(hv:p.f≠-1)(hd:p.f≠t.f)(hk:k<Q.length):
 qac XV 322 [.ptr k 0,.d (p.enc .sub),.d (t.enc .sub),.d (qaU .sub rest),.d (binds .sub u)] Q=some (.d (.tup []),Q):=by
 obtain⟨pf,pv,pk⟩:=p;obtain⟨tf,tv,tk⟩:=t;simp only[T.qbg]at hv hd;rw[qah XV _ _ _ qr6 rfl qew rfl];have h1:=qdk (.node pf pv pk);have hb:(pf== -1)=false:=by simpa using hv
 simp only[T.qbg,hb]at h1;have hd2:(pf !=tf)=true:=by simpa using hd
 simp[qr6,qjk,qjj,qji,qjh,qjg,qjf,qje,qjd,qjc,qf1,qf0,qfZ,qfY,h1,hd2]
theorem qyH(tl:List AV)(hs:s.length<=1099511627776)(hv:p.f≠-1)(hd:p.f=t.f)(hbl:qaM s p.f=true)(hk:k<Q.length)(hQ:Q'.length=Q.length)(hbx:Q[k]?=some (some (.d (sg s)::tl)))(hl:rest.length<=1000000000)
 (hrec:∀e,qac XV 318 [.ptr k 0,.d (qaU .sub (qbk p.f p.kids t.kids::rest)),.d (binds .sub u)] (Q++e)=some (.d (.tup []),Q'++e)):
 qac XV 322 [.ptr k 0,.d (p.enc .sub),.d (t.enc .sub),.d (qaU .sub rest),.d (binds .sub u)] Q=some (.d (.tup []),Q'):=by
 obtain⟨pf,pv,pk⟩:=p;obtain⟨tf,tv,tk⟩:=t;simp only[T.qbg,T.qbd]at hv hd hbl hrec;subst hd;rw[qah XV _ _ _ qr6 rfl qew rfl];have h1:=qdk (.node pf pv pk);have hb:(pf== -1)=false:=by simpa using hv
 simp only[T.qbg,hb]at h1;have h2:=qdv s hs pf;rw[hbl]at h2;have hk1:k<Q.length+2:=by omega
 have hr:=hrec [some [.d (.int .i64 pf),.d (.int .i64 pv),.d (qaa .sub pk)],some [.d (.int .i64 pf),.d (.int .i64 tv),.d (qaa .sub tk)]];have hg:∀e,(Q++e)[k]?=some (some (.d (sg s)::tl)):=fun e=>by rw[ye_ hk];exact hbx
 have hx:Q[k]=some (.d (sg s)::tl):=by rw[List.getElem?_eq_getElem hk]at hbx;simpa using hbx
 have hn:¬(Q.length+2<=k):=by omega
 have hn2:¬(Q.length+2<=Q.length):=by omega
 have ha:=qut [(qbk pf pk tk).enc .sub] rest .sub (by simp) (by simp;omega);simp only[List.map_cons,qbk,qaU]at hr ha;simp[qr6,qjk,qjj,qji,qjh,qjg,qjf,qje,qjd,qFi,qjc,qf1,qf0,qfZ,qfY,h1,h2,hk,hk1,hQ,hx,hn,hn2,ha,qLT,hr,splice]
end
theorem qLJ(l:List T)(i:Nat)(h:i<l.length):List.drop i (List.take (i+1) (l.map (T.enc .sub)))=[(tAt l i).enc .sub]:=by
 have h1:i<(l.map (T.enc .sub)).length:=by simpa using h
 rw[List.drop_take,show i+1-i=1 by omega,List.drop_eq_getElem_cons h1];simp[qap h]
theorem quI{α:Type}(Q:List α)(x y:α):(Q++[x,y]).take (Q.length+2)=Q++[x,y]:=List.take_of_length_le (by simp)
def qbo(ps ts:List T)(n:Nat):List Gl:=(List.range n).map fun i=>qbY (tAt ps i) (tAt ts i)
theorem qll(ps ts:List T)(n:Nat):qbo ps ts (n+1)=qbo ps ts n++[qbY (tAt ps n) (tAt ts n)]:=by
 unfold qbo;rw[List.range_succ,List.map_append];rfl
theorem qm5(ps ts:List T)(n:Nat):(qbo ps ts n).length=n:=by unfold qbo;simp
theorem qqZ(l:List Gl):∀y,y∈l.map (Gl.enc .sub)->y.cells.length=4:=fun y hy=>by
 obtain⟨z,_,rfl⟩:=List.mem_map.1 hy;rfl
section
variable (s:List SymL) (p t:T) (rest:List Gl) (u:List Bd) (k:Nat) (Q Q':qal)
theorem qDS(tl:List AV)(hs:s.length<=1099511627776)(hv:p.f≠-1)(hd:p.f=t.f)(hbl:qaM s p.f=false)(hk:k<Q.length)(hbx:Q[k]?=some (some (.d (sg s)::tl)))(hne:p.kids.length≠t.kids.length):
 qac XV 322 [.ptr k 0,.d (p.enc .sub),.d (t.enc .sub),.d (qaU .sub rest),.d (binds .sub u)] Q=some (.d (.tup []),Q):=by
 obtain⟨pf,pv,pk⟩:=p;obtain⟨tf,tv,tk⟩:=t;simp only[T.qbg,T.qbd]at hv hd hbl hne;subst hd;rw[qah XV _ _ _ qr6 rfl qew rfl];have h1:=qdk (.node pf pv pk);have hb:(pf== -1)=false:=by simpa using hv
 simp only[T.qbg,hb]at h1;have h2:=qdv s hs pf;rw[hbl]at h2;have hk1:k<Q.length+2:=by omega
 have hx:Q[k]=some (.d (sg s)::tl):=by rw[List.getElem?_eq_getElem hk]at hbx;simpa using hbx
 have hn:¬(Q.length+2<=k):=by omega
 have hn2:¬(Q.length+2<=Q.length):=by omega
 have h5:((pk.length:Int) !=tk.length)=true:=by simp;omega
 simp[qr6,qjk,qjj,qji,qjh,qjg,qjf,qje,qjd,qFi,qjc,qf1,qf0,qfZ,qfY,h1,h2,h5,hk,hk1,hx,hn,hn2]
theorem qDR(tl:List AV)(hs:s.length<=1099511627776)(hv:p.f≠-1)(hd:p.f=t.f)(hbl:qaM s p.f=false)(hk:k<Q.length)(hQ:Q'.length=Q.length)(hbx:Q[k]?=some (some (.d (sg s)::tl)))(he:p.kids.length=t.kids.length)
 (hl:rest.length<=1000000000) (hpl:p.kids.length<=1000000000)
 (hrec:∀e,qac XV 318 [.ptr k 0,.d (qaU .sub (qbo p.kids t.kids p.kids.length++rest)),.d (binds .sub u)] (Q++e)=some (.d (.tup []),Q'++e)):
 qac XV 322 [.ptr k 0,.d (p.enc .sub),.d (t.enc .sub),.d (qaU .sub rest),.d (binds .sub u)] Q=some (.d (.tup []),Q'):=by
 obtain⟨pf,pv,pk⟩:=p;obtain⟨tf,tv,tk⟩:=t;simp only[T.qbg,T.qbd]at hv hd hbl hrec he hpl;subst hd;rw[qah XV _ _ _ qr6 rfl qew rfl];have h1:=qdk (.node pf pv pk);have hb:(pf== -1)=false:=by simpa using hv
 simp only[T.qbg,hb]at h1;have h2:=qdv s hs pf;rw[hbl]at h2;have hk1:k<Q.length+2:=by omega
 have hx:Q[k]=some (.d (sg s)::tl):=by rw[List.getElem?_eq_getElem hk]at hbx;simpa using hbx
 have hn:¬(Q.length+2<=k):=by omega
 have hn2:¬(Q.length+2<=Q.length):=by omega
 have h5:((pk.length:Int) !=tk.length)=false:=by simp;omega
 have hn3:¬(Q.length+2<=Q.length+1):=by omega
 have h:=qag (X:=XV) (T:=XV.lin 322) (L:=Q.length+2) (live:=[0,3,4,6,7,12,77,78]) (b:=qxw) (n:=pk.length) (γ:=Nat) (st:=fun(_:Unit) i=>⟨[(0,.ptr k 0),(3,.d (qaU .sub rest)),(4,.d (binds .sub u)),(6,.ptr Q.length 0),(7,.ptr (Q.length+1) 0),(12,.d (.sl U ((qbo pk tk i).map (Gl.enc .sub)))),(77,.d (.int .i64 pk.length)),(78,.d (.int .i64 i))],Q++[some [.d (.int .i64 pf),.d (.int .i64 pv),.d (qaa .sub pk)],some [.d (.int .i64 pf),.d (.int .i64 tv),.d (qaa .sub tk)]]⟩) (step:=qcn)
  (F:=fun _=>(.exit 1,⟨[(0,.ptr k 0),(3,.d (qaU .sub rest)),(4,.d (binds .sub u)),(6,.ptr Q.length 0),(7,.ptr (Q.length+1) 0),(12,.d (.sl U ((qbo pk tk pk.length).map (Gl.enc .sub)))),(77,.d (.int .i64 pk.length)),(78,.d (.int .i64 pk.length)),(79,.d (.bool false))],Q++[some [.d (.int .i64 pf),.d (.int .i64 pv),.d (qaa .sub pk)],some [.d (.int .i64 pf),.d (.int .i64 tv),.d (qaa .sub tk)]]⟩)) (R:=fun _=>(.ret,⟨[],[]⟩))
  (fun a=>⟨by simp,by simp[qxw,qsI,qsH,qsF]⟩)
  (fun a i hi=>by
   have hw:=qae (n:=i) (by omega);have hi':i<tk.length:=by omega
   have o1:=qLJ pk i hi;have o2:=qLJ tk i hi';have ha:=qut ((qbo pk tk i).map (Gl.enc .sub)) [qbY (tAt pk i) (tAt tk i)] U (qqZ _) (by rw[List.length_map,qm5];simp;omega);rw[<-List.map_append,<-qll]at ha;generalize hR2:(qbo pk tk (i+1)).map (Gl.enc .sub)=R2 at ha;generalize (qbo pk tk i).map (Gl.enc .sub)=R1 at*
   have hb4:qa7 4 64 (.sl U R1) (.sl U [.agg [.bool false,.int .i64 0,.sl .sub [(tAt pk i).enc .sub],.sl .sub [(tAt tk i).enc .sub]]])=some (.sl U R2):=ha;have h4:i+1<=pk.length:=by omega
   have h6:i+1<=tk.length:=by omega
   have h7:(0:Int)<=(i:Int)+1:=by omega
   unfold qcn;exact⟨_,by simp[qxw,qsI,qsH,qPc,qsF,hi,hw,o1,o2,hb4,splice,h4,h6,h7,hn2,hn3];rfl,by simp[qad,qab,quI,hk1,hR2]⟩)
  pk.length () 0 ⟨[(0,.ptr k 0),(3,.d (qaU .sub rest)),(4,.d (binds .sub u)),(6,.ptr Q.length 0),(7,.ptr (Q.length+1) 0),(12,.d (.sl U [])),(77,.d (.int .i64 pk.length)),(78,.d (.int .i64 0))],Q++[some [.d (.int .i64 pf),.d (.int .i64 pv),.d (qaa .sub pk)],some [.d (.int .i64 pf),.d (.int .i64 tv),.d (qaa .sub tk)]]⟩ (by omega) (by simp[qad,qab,qbo,hk1,quI])
 rw[qkg]at h;simp only[qOe]at h;have ha:=qut ((qbo pk tk pk.length).map (Gl.enc .sub)) rest .sub (qqZ _) (by rw[List.length_map,qm5];omega);have hr:=hrec [some [.d (.int .i64 pf),.d (.int .i64 pv),.d (qaa .sub pk)],some [.d (.int .i64 pf),.d (.int .i64 tv),.d (qaa .sub tk)]];simp only[qaU,List.map_append]at hr;have hcm:((qbo pk tk pk.length).map (Gl.enc .sub)).map DV.clr=(qbo pk tk pk.length).map (Gl.enc .sub):=by rw[List.map_map,quj]
 generalize (qbo pk tk pk.length).map (Gl.enc .sub)=R1 at*
 simp[qr6,qjk,qjj,qji,qjh,qjg,qjf,qje,qjd,qFi,qjc,qf1,qf0,qfZ,qfY,h1,h2,h5,hk,hk1,hx,hn,hn2];rw[h];simp[hQ,ha,hr,hcm]
end
theorem qOP(f:Int)(p:T)(ps ts r:List T)(more rest:List Gl)(u:List Bd)(k:Nat)(Q Q' e:qal)(hk:k<Q.length)(hQ:Q'.length=Q.length)(hl:more.length+1+rest.length<=1099511627776)(hp:ps.length<=1099511627776)
 (hrec:∀e,qac XV 318 [.ptr k 0,.d (qaU .sub (more++(qbk f ps r::rest))),.d (binds .sub u)] (Q++e)=some (.d (.tup []),Q'++e)):
 qac XV 327 [.d (qaa .sub r),.d (qaU .sub more),.d (binds .sub u),.ptr Q.length 0,.ptr (Q.length+1) 0,.ptr (Q.length+2) 0]
  (Q++some [.ptr k 0]::some [.d (.bool true),.d (.int .i64 f),.d (qaa .sub (p::ps)),.d (qaa .sub ts)]::some [.d (qaU .sub rest)]::e)=
 some (.d (.tup []),Q'++some [.ptr k 0]::some [.d (.bool true),.d (.int .i64 f),.d (qaa .sub (p::ps)),.d (qaa .sub ts)]::some [.d (qaU .sub rest)]::e):=by
 rw[qah XV _ _ _ qQH rfl qAi rfl];have hr:=hrec (some [.ptr k 0]::some [.d (.bool true),.d (.int .i64 f),.d (qaa .sub (p::ps)),.d (qaa .sub ts)]::some [.d (qaU .sub rest)]::e);have hc:=qtQ .sub .sub .sub .sub (by simp) (by simp) (by simp) more [qbk f ps r] rest [] (by simp) (by simp;omega);simp only[List.cons_append,List.nil_append]at hc;have ht:List.take ps.length (ps.map (T.enc .sub))=ps.map (T.enc .sub):=List.take_of_length_le (by simp);have hn1:¬(Q.length+(e.length+1+1+1)<=Q.length):=by omega
 have hn2:¬(Q.length+(e.length+1+1+1)<=Q.length+1):=by omega
 have hn3:¬(Q.length+(e.length+1+1+1)<=Q.length+2):=by omega
 simp only[qaU,List.map_cons,List.map_nil]at hc;simp only[qaU,List.map_append,List.map_cons]at hr;have hg:(qbk f ps r).enc .sub= .agg [.bool true,.int .i64 f,qaa .sub ps,qaa .sub r]:=rfl;rw[hg]at hc;simp[qQH,qUX,ht,hn1,hn2,hn3,hc,hr,splice];exact List.take_of_length_le (by simp;omega)
section
variable (s:List SymL) (f:Int) (ts:List T) (rest:List Gl) (u:List Bd) (k:Nat) (Q Q':qal)
theorem qEh(hk:k<Q.length)(hQ:Q'.length=Q.length)(hrec:ts.length=0->∀e,qac XV 318 [.ptr k 0,.d (qaU .sub rest),.d (binds .sub u)] (Q++e)=some (.d (.tup []),Q'++e))(hno:ts.length≠0->Q'=Q):
 qac XV 321 [.ptr k 0,.d ((Gl.mk true f [] ts).enc .sub),.d (qaU .sub rest),.d (binds .sub u)] Q=some (.d (.tup []),Q'):=by
 rw[qah XV _ _ _ qsl rfl qg6 rfl]
 by_cases c:ts.length=0
 ·have hc:ts=[]:=List.length_eq_zero_iff.1 c
  have hr:=hrec c [some [.ptr k 0],some [.d (.bool true),.d (.int .i64 f),.d (qaa .sub []),.d (qaa .sub [])],some [.d (qaU .sub rest)]];subst hc;simp[qsl,qhq,qhp,qho,qhn,qhm,qhl,qhk,qhj,qfd,qfc,qfb,qfa,qe9,qe8,qe7,qe6,qe5,hr,hk,hQ]
 ·have hc:((ts.length:Int)==0)=false:=by simpa using c
  rw[hno c];simp[qsl,qhq,qhp,qho,qhn,qhm,qhl,qhk,qhj,qfd,qfc,qfb,qfa,qe9,qe8,qe7,qe6,qe5,hc,hk]
theorem qyR(p:T)(ps:List T)(j:Nat)(hv:p.f= -1)(hb:qbP u p.v=some j)(hu:small u)(hk:k<Q.length)(hQ:Q'.length=Q.length)(hl:rest.length<=1000000000)(hp:ps.length<=1000000000)
 (htl:ts.length<=1099511627776) (hts:∀x,x∈ts->x.inner<=1099511627776)
 (hrec:∀r,takeN ts (partsOf f (bAt u j).t)= .inl r->∀e,qac XV 318 [.ptr k 0,.d (qaU .sub (qbk f ps r::rest)),.d (binds .sub u)] (Q++e)=some (.d (.tup []),Q'++e)) (hno:∀r,takeN ts (partsOf f (bAt u j).t)= .inr r->Q'=Q):
 qac XV 321 [.ptr k 0,.d ((Gl.mk true f (p::ps) ts).enc .sub),.d (qaU .sub rest),.d (binds .sub u)] Q=some (.d (.tup []),Q'):=by
 obtain⟨pf,pv,pk⟩:=p;simp only[T.qbg,T.qdQ]at hv hb hrec;subst hv;have hj:=(qcd _ _ _ _ (show qaw (fun i=>(bAt u i).v==pv) u.length 0=some j from hb)).2.1;rw[qah XV _ _ _ qsl rfl qg6 rfl];have h1:=qdk (.node (-1) pv pk);simp only[T.qbg,BEq.rfl]at h1;have h2:=qjV u pv hu.1;rw[hb]at h2;simp only at h2;have hw:=hu.2 j (by omega);generalize (bAt u j).t=w at*
 obtain⟨wf,wv,wk⟩:=w;have hwi:∀x,x∈partsOf f (.node wf wv wk)->x.inner<=1099511627776:=fun x hx=>by
  unfold partsOf at hx;split at hx
  ·simp only[T.inner]at hw
   simp only[T.qbd]at hx;have:=T.qay hx;omega
  ·simp at hx;subst hx;exact hw
 have hwl:(partsOf f (.node wf wv wk)).length<=1099511627776:=by
  unfold partsOf;split
  ·have h9:=T.qgB (.node wf wv wk)
   simp only[T.qbd]at h9⊢
   omega
  ·simp
 have htk:=qHn ts (partsOf f (.node wf wv wk)) htl hwl hts hwi;have hp1:(((ps.length:Int)+1)==0)=false:=by simp;omega
 cases hc:takeN ts (partsOf f (.node wf wv wk))with
 |inl r=>
  rw[hc]at htk;have hgo:=qOP f (.node (-1) pv pk) ps ts r [] rest u k Q Q' [some [.d (.int .i64 (-1)),.d (.int .i64 pv),.d (qaa .sub pk)],some [.d (.int .i64 wf),.d (.int .i64 wv),.d (qaa .sub wk)]] hk hQ (by simp;omega) (by omega) (by simpa using hrec r hc);simp only[qaU,List.map_nil]at hgo
  by_cases c:wf=f
  ·have ep:partsOf f (.node wf wv wk)=wk:=by unfold partsOf;rw[if_pos (show(T.node wf wv wk).f=f from c)];rfl
   rw[ep]at htk;subst c;simp only at htk;simp[qsl,qhq,qhp,qho,qhn,qhm,qhl,qhk,qhj,qfd,qfc,qfb,qfa,qe9,qe8,qe7,qe6,qe5,h1,h2,htk,hgo,hk,hQ,hp1,splice,cut]
  ·have ep:partsOf f (.node wf wv wk)=[.node wf wv wk]:=by unfold partsOf;rw[if_neg (show¬(T.node wf wv wk).f=f from c)]
   rw[ep]at htk;have c2:(wf==f)=false:=by simpa using c
   simp only[qaa,List.map_cons,List.map_nil]at htk;simp[qsl,qhq,qhp,qho,qhn,qhm,qhl,qhk,qhj,qfd,qfc,qfb,qfa,qe9,qe8,qe7,qe6,qe5,h1,h2,c2,htk,hgo,hk,hQ,hp1,splice,cut]
 |inr r=>
  rw[hc]at htk;rw[hno r hc]
  by_cases c:wf=f
  ·have ep:partsOf f (.node wf wv wk)=wk:=by unfold partsOf;rw[if_pos (show(T.node wf wv wk).f=f from c)];rfl
   rw[ep]at htk;subst c;simp only at htk;simp[qsl,qhq,qhp,qho,qhn,qhm,qhl,qhk,qhj,qfd,qfc,qfb,qfa,qe9,qe8,qe7,qe6,qe5,h1,h2,htk,hk,hp1,splice,cut]
  ·have ep:partsOf f (.node wf wv wk)=[.node wf wv wk]:=by unfold partsOf;rw[if_neg (show¬(T.node wf wv wk).f=f from c)]
   rw[ep]at htk;have c2:(wf==f)=false:=by simpa using c
   simp only[qaa,List.map_cons,List.map_nil]at htk;simp[qsl,qhq,qhp,qho,qhn,qhm,qhl,qhk,qhj,qfd,qfc,qfb,qfa,qe9,qe8,qe7,qe6,qe5,h1,h2,c2,htk,hk,hp1,splice,cut]
end
theorem sA4{α:Type}{B:List α}{N:Nat}(h:B.length=N)(a b c d e v:α)(r:List α):(B++a::b::c::d::e::r).set (N+4) v=B++a::b::c::d::v::r:=by subst h;rw[List.set_append_right _ _ (by omega),show B.length+4-B.length=4 by omega];rfl
theorem tA4{α:Type}{B:List α}{N:Nat}(h:B.length=N)(a b c d:α)(r:List α):(B++a::b::c::d::r).take (N+4)=B++[a,b,c,d]:=by
 subst h;rw[show B++a::b::c::d::r=(B++[a,b,c,d])++r by simp,List.take_left' (by simp)]
theorem qyP(f:Int)(p:T)(ps ts:List T)(rest:List Gl)(u:List Bd)(k:Nat)(Qs:Nat->qal)(N:Nat)(hN:∀i,(Qs i).length=N)(hv:p.f≠-1)(hk:k<N)(hl:rest.length<=1000000000)(hp:ps.length<=1000000000)(htl:ts.length<=1000000000)
 (hrec:∀i,i<ts.length->∀e,qac XV 318 [.ptr k 0,.d (qaU .sub (qbY p (tAt ts i)::qbk f ps (qbr ts i)::rest)),.d (binds .sub u)] (Qs i++e)=some (.d (.tup []),Qs (i+1)++e)):
 qac XV 321 [.ptr k 0,.d ((Gl.mk true f (p::ps) ts).enc .sub),.d (qaU .sub rest),.d (binds .sub u)] (Qs 0)=some (.d (.tup []),Qs ts.length):=by
 obtain⟨pf,pv,pk⟩:=p;simp only[T.qbg]at hv;rw[qah XV _ _ _ qsl rfl qg6 rfl];have h1:=qdk (.node pf pv pk);have hb:(pf== -1)=false:=by simpa using hv
 simp only[T.qbg,hb]at h1;have h:=qag (X:=XV) (T:=XV.lin 321) (L:=N+4) (live:=[3,5,8,9,43,44,45]) (b:=qxx) (n:=ts.length) (γ:=Nat)
  (st:=fun(_:Unit) i=>⟨[(3,.d (binds .sub u)),(5,.ptr (N+1) 0),(8,.ptr (N+3) 0),(9,.fn 327 [.ptr N 0,.ptr (N+1) 0,.ptr (N+2) 0]),(43,.d (qaa .sub ts)),(44,.d (.int .i64 ts.length)),(45,.d (.int .i64 i))],
   Qs i++[some [.ptr k 0],some [.d (.bool true),.d (.int .i64 f),.d (qaa .sub (.node pf pv pk::ps)),.d (qaa .sub ts)],some [.d (qaU .sub rest)],some [.d (.int .i64 pf),.d (.int .i64 pv),.d (qaa .sub pk)]]⟩) (step:=qcn)
  (F:=fun _=>(.exit 0,⟨[(3,.d (binds .sub u)),(5,.ptr (N+1) 0),(8,.ptr (N+3) 0),(9,.fn 327 [.ptr N 0,.ptr (N+1) 0,.ptr (N+2) 0]),(43,.d (qaa .sub ts)),(44,.d (.int .i64 ts.length)),(45,.d (.int .i64 ts.length)),(46,.d (.bool false))],
   Qs ts.length++[some [.ptr k 0],some [.d (.bool true),.d (.int .i64 f),.d (qaa .sub (.node pf pv pk::ps)),.d (qaa .sub ts)],some [.d (qaU .sub rest)],some [.d (.int .i64 pf),.d (.int .i64 pv),.d (qaa .sub pk)]]⟩)) (R:=fun _=>(.ret,⟨[],[]⟩))
  (fun a=>⟨by simp,by simp[qxx,qB8,qB7,qsK]⟩)
  (fun a i hi=>by
   have hw:=qae (n:=i) (by omega);have hq:=hN i;have hq1:=hN (i+1);have hr:=hrec i hi;have hwo:=qms .sub (by simp) ts i [] hi (by omega);have htt:=qap hi;generalize hti:tAt ts i=t at*
   obtain⟨tf,tv,tk⟩:=t;have hgo:=qOP f (.node pf pv pk) ps ts (qbr ts i) [qbY (.node pf pv pk) (.node tf tv tk)] rest u k (Qs i) (Qs (i+1)) [some [.d (.int .i64 pf),.d (.int .i64 pv),.d (qaa .sub pk)],some [.d (.int .i64 tf),.d (.int .i64 tv),.d (qaa .sub tk)]] (by omega) (by omega) (by simp;omega) (by omega) hr;rw[hq]at hgo;have hpe:qaU .sub [qbY (.node pf pv pk) (.node tf tv tk)]= .sl .sub [.agg [.bool false,.int .i64 0,.sl .sub [(T.node pf pv pk).enc .sub],.sl .sub [(T.node tf tv tk).enc .sub]]]:=rfl;rw[hpe]at hgo;unfold qbr at hgo;simp only[qaa,List.map_append,List.map_take,List.map_drop]at hgo;unfold qcn;refine⟨_,by simp[qxx,qB8,qB7,qPe,qsK,hi,hw,cut,htt,hwo,hgo,sA4 hq,hq,hq1,splice];rfl,?_⟩;simp[qad,qab,tA4 hq1,hq1])
  ts.length () 0 ⟨[(3,.d (binds .sub u)),(5,.ptr (N+1) 0),(8,.ptr (N+3) 0),(9,.fn 327 [.ptr N 0,.ptr (N+1) 0,.ptr (N+2) 0]),(43,.d (qaa .sub ts)),(44,.d (.int .i64 ts.length)),(45,.d (.int .i64 0))],
   Qs 0++[some [.ptr k 0],some [.d (.bool true),.d (.int .i64 f),.d (qaa .sub (.node pf pv pk::ps)),.d (qaa .sub ts)],some [.d (qaU .sub rest)],some [.d (.int .i64 pf),.d (.int .i64 pv),.d (qaa .sub pk)]]⟩ (by omega) (by simp[qad,qab,tA4 (hN 0),hN 0])
 rw[qkg]at h;simp only[qtE]at h;have hq:=hN 0;have hq2:=hN ts.length;have hp1:(((ps.length:Int)+1)==0)=false:=by simp;omega
 simp[qsl,qhq,qhp,qho,qhn,qhm,qhl,qhk,qhj,qfd,qfc,qfb,qfa,qe9,qe8,qe7,qe6,qe5,h1,hp1,hk,hq,splice,cut];rw[h];simp[hq2]
theorem qFQ(ts:List T)(m:Nat)(u:List Bd)(N:Nat)(Bx:qal)(hB:Bx.length=N+5)(hl:ts.length<=30)(hm:m<1099511627776):
 qbw XV (XV.lin 321) (N+5) [3,4,5,8,9,17,18,19,109,110,111] qnv ⟨[(3,.d (binds .sub u)),(4,.ptr N 0),(5,.ptr (N+1) 0),(8,.ptr (N+3) 0),(9,.fn 327 [.ptr N 0,.ptr (N+1) 0,.ptr (N+2) 0]),(17,.d (.int .i64 m)),(18,.d (.sl U [])),(19,.d (.sl U [])),(109,.d (qaa .sub ts)),(110,.d (.int .i64 ts.length)),(111,.d (.int .i64 0))],Bx⟩=
  some (.exit 4,⟨[(3,.d (binds .sub u)),(4,.ptr N 0),(5,.ptr (N+1) 0),(8,.ptr (N+3) 0),(9,.fn 327 [.ptr N 0,.ptr (N+1) 0,.ptr (N+2) 0]),(17,.d (.int .i64 m)),(18,.d (.sl U ((onB ts m ts.length).map (T.enc .sub)))),(19,.d (.sl U ((qeQ ts m ts.length).map (T.enc .sub)))),(109,.d (qaa .sub ts)),(110,.d (.int .i64 ts.length)),(111,.d (.int .i64 ts.length)),(112,.d (.bool false))],Bx⟩):=by
 have h:=qag (X:=XV) (T:=XV.lin 321) (L:=N+5) (live:=[3,4,5,8,9,17,18,19,109,110,111]) (b:=qnv) (n:=ts.length) (γ:=Nat)
  (st:=fun(_:Unit) i=>⟨[(3,.d (binds .sub u)),(4,.ptr N 0),(5,.ptr (N+1) 0),(8,.ptr (N+3) 0),(9,.fn 327 [.ptr N 0,.ptr (N+1) 0,.ptr (N+2) 0]),(17,.d (.int .i64 m)),(18,.d (.sl U ((onB ts m i).map (T.enc .sub)))),(19,.d (.sl U ((qeQ ts m i).map (T.enc .sub)))),(109,.d (qaa .sub ts)),(110,.d (.int .i64 ts.length)),(111,.d (.int .i64 i))],Bx⟩) (step:=qcn)
  (F:=fun _=>(.exit 4,⟨[(3,.d (binds .sub u)),(4,.ptr N 0),(5,.ptr (N+1) 0),(8,.ptr (N+3) 0),(9,.fn 327 [.ptr N 0,.ptr (N+1) 0,.ptr (N+2) 0]),(17,.d (.int .i64 m)),(18,.d (.sl U ((onB ts m ts.length).map (T.enc .sub)))),(19,.d (.sl U ((qeQ ts m ts.length).map (T.enc .sub)))),(109,.d (qaa .sub ts)),(110,.d (.int .i64 ts.length)),(111,.d (.int .i64 ts.length)),(112,.d (.bool false))],Bx⟩)) (R:=fun _=>(.ret,⟨[],[]⟩))
  (fun a=>⟨by simp,by simp[qnv,qn6,qn5,qn4,qn3,qn2,qn1]⟩)
  (fun a i hi=>by
   have hw:=qae (n:=i) (by omega);have h1:=qtr ts m i;have h2:=qoD ts m i;have a1:=qgz (onB ts m i) [tAt ts i] U (by simp;omega);have a2:=qgz (qeQ ts m i) [tAt ts i] U (by simp;omega);simp only[List.map_cons,List.map_nil,List.map_append]at a1 a2;have hs1:=qBE m i (by omega);have hdm:m/2^i<4611686018427387904:=Nat.lt_of_le_of_lt (Nat.div_le_self _ _) (by omega);have hs2:=and_one (m/2^i) hdm;have hs3:=qFR m i;generalize m/2^i=q at hs1 hs2 hs3;generalize q%2=r at hs2 hs3;have htt:=qap hi;have hon:onB ts m (i+1)=if m.testBit i then onB ts m i++[tAt ts i]else onB ts m i:=rfl
   have hof:qeQ ts m (i+1)=if m.testBit i then qeQ ts m i else qeQ ts m i++[tAt ts i]:=rfl
   generalize tAt ts i=t at*
   obtain⟨tf,tv,tk⟩:=t;have tB:∀(x:Option (List AV)) (r:qal),(Bx++x::r).take (N+5)=Bx:=fun x r=>by rw[<-hB];simp
   unfold qcn
   by_cases hb:m.testBit i=true
   ·exact⟨_,by simp[qnv,qn6,qn5,qn4,qn3,qn2,qn1,hi,hw,cut,htt,a1,hs1,hs2,hs3,hb,hB,splice];rfl,by simp[qad,qab,hon,hof,hb,hB,tB]⟩
   ·exact⟨_,by simp[qnv,qn6,qn5,qn4,qn3,qn2,qn1,hi,hw,cut,htt,a2,hs1,hs2,hs3,hb,hB,splice];rfl,by simp[qad,qab,hon,hof,hb,hB,tB]⟩)
  ts.length () 0 ⟨[(3,.d (binds .sub u)),(4,.ptr N 0),(5,.ptr (N+1) 0),(8,.ptr (N+3) 0),(9,.fn 327 [.ptr N 0,.ptr (N+1) 0,.ptr (N+2) 0]),(17,.d (.int .i64 m)),(18,.d (.sl U [])),(19,.d (.sl U [])),(109,.d (qaa .sub ts)),(110,.d (.int .i64 ts.length)),(111,.d (.int .i64 0))],Bx⟩ (by omega) (by simp[qad,qab,onB,qeQ,hB];rw[<-hB];simp)
 rw[qkg]at h;exact h
theorem qsz(n:Nat)(hn:n<=40):qdN .shl .i64 1 (n:Int)=some (.int .i64 ((2^n:Nat):Int)):=by
 unfold qdN;have h0:¬((n:Int)<0):=by omega
 have hb:IntKind.i64.bits=64:=rfl;have hm:min n 64=n:=by omega
 have hp:2^n<=2^40:=Nat.pow_le_pow_right (by omega) hn;simp only[if_neg h0,Int.toNat_natCast,hb,hm,Option.some.injEq,DV.int.injEq,true_and,Int.one_mul];rw[show((2:Int)^n)=((2^n:Nat):Int)by rw[Int.natCast_pow];rfl,IntKind.wrap_i64];generalize 2^n=q at*
 omega
theorem tA5{α:Type}{B:List α}{N:Nat}(h:B.length=N)(a b c d f:α)(r:List α):(B++a::b::c::d::f::r).take (N+5)=B++[a,b,c,d,f]:=by
 subst h;rw[show B++a::b::c::d::f::r=(B++[a,b,c,d,f])++r by simp,List.take_left' (by simp)]
def qBz(D:Nat->Bool)(_:Unit)(i:Nat):Unit⊕Nat:=if D i then .inr i else .inl ()
theorem qjD(s:List SymL)(hs:s.length<=1099511627776)(f:Int)(pv:Int)(pk ps ts:List T)(rest:List Gl)(u:List Bd)(k:Nat)(Qs:Nat->qal)(D:Nat->Bool)(N:Nat)(hN:∀i,(Qs i).length=N)(hk:k<N)(hl:rest.length<=1000000000)(hp:ps.length<=1000000000)(htl:ts.length<=12)(hu:u.length<=1099511627776)
 (hD:∀i e,qac XV 319 [.ptr k 0] (Qs i++e)=some (.d (.bool (D i)),Qs i++e)) (tl:Nat->List AV) (hbx:∀i,(Qs i)[k]?=some (some (.d (sg s)::tl i))) (hcn:∀m,qaQ (onB ts m ts.length)<=1099511627776)
 (i:Nat) (hi:i+1<2^ts.length) (hnd:D i=false)
 (hrec:∀e,qac XV 318 [.ptr k 0,.d (qaU .sub (qbk f ps (qeQ ts (i+1) ts.length)::rest)),.d (binds .sub (qgp u pv (qcV s f (onB ts (i+1) ts.length))))] (Qs i++e)=some (.d (.tup []),Qs (i+1)++e)):
 ∃e,qau XV (XV.lin 321) qnw ⟨[(3,.d (binds .sub u)),(4,.ptr N 0),(5,.ptr (N+1) 0),(8,.ptr (N+3) 0),(9,.fn 327 [.ptr N 0,.ptr (N+1) 0,.ptr (N+2) 0]),(17,.d (.int .i64 (i+1:Nat)))],
  Qs i++[some [.ptr k 0],some [.d (.bool true),.d (.int .i64 f),.d (qaa .sub (.node (-1) pv pk::ps)),.d (qaa .sub ts)],some [.d (qaU .sub rest)],some [.d (.int .i64 (-1)),.d (.int .i64 pv),.d (qaa .sub pk)],some [.d (.int .i64 0),.d (.int .i64 0),.d (qaa .sub [])]]⟩=
  some (.normal,⟨[(3,.d (binds .sub u)),(4,.ptr N 0),(5,.ptr (N+1) 0),(8,.ptr (N+3) 0),(9,.fn 327 [.ptr N 0,.ptr (N+1) 0,.ptr (N+2) 0]),(17,.d (.int .i64 (i+1+1:Nat)))],
   Qs (i+1)++some [.ptr k 0]::some [.d (.bool true),.d (.int .i64 f),.d (qaa .sub (.node (-1) pv pk::ps)),.d (qaa .sub ts)]::some [.d (qaU .sub rest)]::some [.d (.int .i64 (-1)),.d (.int .i64 pv),.d (qaa .sub pk)]::some [.d (.int .i64 0),.d (.int .i64 0),.d (qaa .sub [])]::e⟩):=by
 have h4096:2^ts.length<=2^12:=Nat.pow_le_pow_right (by omega) htl;have hsh:=qsz ts.length (by omega);have hlt:((i+1:Nat):Int)<((2^ts.length:Nat):Int):=by omega
 have hw:=qae (n:=i+1) (by omega);have hq:=hN i;have hq1:=hN (i+1);have hbl:=qFQ ts (i+1) u N (Qs i++[some [.ptr k 0],some [.d (.bool true),.d (.int .i64 f),.d (qaa .sub (.node (-1) pv pk::ps)),.d (qaa .sub ts)],some [.d (qaU .sub rest)],some [.d (.int .i64 (-1)),.d (.int .i64 pv),.d (qaa .sub pk)],some [.d (.int .i64 0),.d (.int .i64 0),.d (qaa .sub [])]]) (by simp[hq]) (by omega) (by omega);have hd:=hD i [some [.ptr k 0],some [.d (.bool true),.d (.int .i64 f),.d (qaa .sub (.node (-1) pv pk::ps)),.d (qaa .sub ts)],some [.d (qaU .sub rest)],some [.d (.int .i64 (-1)),.d (.int .i64 pv),.d (qaa .sub pk)],some [.d (.int .i64 0),.d (.int .i64 0),.d (qaa .sub [])]];rw[hnd]at hd;have hmk:=qtO s hs f (onB ts (i+1) ts.length) (hcn _);have hpu:=qDN .sub .sub (by simp) (by simp) u pv (qcV s f (onB ts (i+1) ts.length)) [] hu;have hgo:=qOP f (.node (-1) pv pk) ps ts (qeQ ts (i+1) ts.length) [] rest (qgp u pv (qcV s f (onB ts (i+1) ts.length))) k (Qs i) (Qs (i+1)) [some [.d (.int .i64 (-1)),.d (.int .i64 pv),.d (qaa .sub pk)],some [.d (.int .i64 0),.d (.int .i64 0),.d (qaa .sub [])]] (by omega) (by omega) (by simp;omega) (by omega) (by simpa using hrec);rw[hq]at hgo;have hg:∀e,(Qs i++e)[k]?=some (some (.d (sg s)::tl i)):=fun e=>by rw[ye_ (by omega)];exact hbx i
 have hx:∀h,(Qs i)[k]'h=some (.d (sg s)::tl i):=fun h=>by have:=hbx i;rw[List.getElem?_eq_getElem h]at this;simpa using this
 have hx2:∀e h,(Qs i++e)[k]'h=some (.d (sg s)::tl i):=fun e h=>by rw[List.getElem_append_left (by omega)];exact hx _
 have hk1:k<N+5:=by omega
 have n0:¬(N+5<=N):=by omega
 have n1:¬(N+5<=N+1):=by omega
 have n3:¬(N+5<=N+3):=by omega
 have nk:¬(N+5<=k):=by omega
 simp only[qtE]at hbl⊢
 refine⟨[],?_⟩;generalize qgp u pv (qcV s f (onB ts (i+1) ts.length))=u2 at*
 generalize qcV s f (onB ts (i+1) ts.length)=mk at*
 generalize onB ts (i+1) ts.length=on at*
 generalize qeQ ts (i+1) ts.length=off at*
 generalize ((2^ts.length:Nat):Int)=M at*
 generalize ((i+1:Nat):Int)=m at*
 generalize ((i+1+1:Nat):Int)=m2 at*
 simp only[qaU,List.map_nil]at hgo;simp[qnw,qoa,qn8,qn7,qn9,hsh,hlt,hd,hq];rw[hbl];simp[qPd,hx2,hk1,n0,n1,n3,nk,hq,hq1,hmk,hpu,hgo,hw]
theorem qyQ(s:List SymL)(hs:s.length<=1099511627776)(f:Int)(pv:Int)(pk ps ts:List T)(rest:List Gl)(u:List Bd)(k:Nat)(Qs:Nat->qal)(D:Nat->Bool)(N:Nat)(hN:∀i,(Qs i).length=N)(hk:k<N)(hl:rest.length<=1000000000)(hp:ps.length<=1000000000)(htl:ts.length<=12)(hu:u.length<=1099511627776)
 (hD:∀i e,qac XV 319 [.ptr k 0] (Qs i++e)=some (.d (.bool (D i)),Qs i++e)) (tl:Nat->List AV) (hbx:∀i,(Qs i)[k]?=some (some (.d (sg s)::tl i))) (hcn:∀m,qaQ (onB ts m ts.length)<=1099511627776)
 (hb:qbP u pv=none) (hDs:∀i,D i=true->D (i+1)=true) (hst:∀i,D i=true->Qs (i+1)=Qs i)
 (hrec:∀i,i+1<2^ts.length->D i=false->∀e,qac XV 318 [.ptr k 0,.d (qaU .sub (qbk f ps (qeQ ts (i+1) ts.length)::rest)),.d (binds .sub (qgp u pv (qcV s f (onB ts (i+1) ts.length))))] (Qs i++e)=some (.d (.tup []),Qs (i+1)++e)):
 qac XV 321 [.ptr k 0,.d ((Gl.mk true f (.node (-1) pv pk::ps) ts).enc .sub),.d (qaU .sub rest),.d (binds .sub u)] (Qs 0)=some (.d (.tup []),Qs (2^ts.length-1)):=by
 rw[qah XV _ _ _ qsl rfl qg6 rfl];have h1:=qdk (.node (-1) pv pk);simp only[T.qbg,BEq.rfl]at h1;have h2:=qjV u pv hu;rw[hb]at h2;simp only at h2;have hsh:=qsz ts.length (by omega);have h:=qag (X:=XV) (T:=XV.lin 321) (L:=N+5) (live:=[3,4,5,8,9,17]) (b:=qnw) (n:=2^ts.length-1) (γ:=Nat)
  (st:=fun(_:Unit) i=>⟨[(3,.d (binds .sub u)),(4,.ptr N 0),(5,.ptr (N+1) 0),(8,.ptr (N+3) 0),(9,.fn 327 [.ptr N 0,.ptr (N+1) 0,.ptr (N+2) 0]),(17,.d (.int .i64 (i+1:Nat)))],Qs i++[some [.ptr k 0],some [.d (.bool true),.d (.int .i64 f),.d (qaa .sub (.node (-1) pv pk::ps)),.d (qaa .sub ts)],some [.d (qaU .sub rest)],some [.d (.int .i64 (-1)),.d (.int .i64 pv),.d (qaa .sub pk)],some [.d (.int .i64 0),.d (.int .i64 0),.d (qaa .sub [])]]⟩) (step:=qBz D)
  (F:=fun _=>(.exit 2,⟨[(3,.d (binds .sub u)),(4,.ptr N 0),(5,.ptr (N+1) 0),(8,.ptr (N+3) 0),(9,.fn 327 [.ptr N 0,.ptr (N+1) 0,.ptr (N+2) 0]),(17,.d (.int .i64 (2^ts.length-1+1:Nat))),(103,.d (.bool false))],Qs (2^ts.length-1)++[some [.ptr k 0],some [.d (.bool true),.d (.int .i64 f),.d (qaa .sub (.node (-1) pv pk::ps)),.d (qaa .sub ts)],some [.d (qaU .sub rest)],some [.d (.int .i64 (-1)),.d (.int .i64 pv),.d (qaa .sub pk)],some [.d (.int .i64 0),.d (.int .i64 0),.d (qaa .sub [])]]⟩)) (R:=fun i=>(.exit 2,⟨[(3,.d (binds .sub u)),(4,.ptr N 0),(5,.ptr (N+1) 0),(8,.ptr (N+3) 0),(9,.fn 327 [.ptr N 0,.ptr (N+1) 0,.ptr (N+2) 0]),(17,.d (.int .i64 (i+1:Nat))),(103,.d (.bool false))],Qs i++[some [.ptr k 0],some [.d (.bool true),.d (.int .i64 f),.d (qaa .sub (.node (-1) pv pk::ps)),.d (qaa .sub ts)],some [.d (qaU .sub rest)],some [.d (.int .i64 (-1)),.d (.int .i64 pv),.d (qaa .sub pk)],some [.d (.int .i64 0),.d (.int .i64 0),.d (qaa .sub [])]]⟩))
  (fun a=>⟨by simp,by
   have hlt:¬((2^ts.length-1+1:Nat):Int)<((2^ts.length:Nat):Int):=by omega
   have hq:=hN (2^ts.length-1);generalize ((2^ts.length:Nat):Int)=M at*
   generalize ((2^ts.length-1+1:Nat):Int)=m at*
   generalize Qs (2^ts.length-1)=Q at*
   simp[qnw,qoa,qn8,qn7,qn9,hsh,hlt,hq]⟩)
  (fun a i hi=>by
   have hq:=hN i;have hq1:=hN (i+1);unfold qBz;cases hd0:D i with
   |true=>
    have hd:=hD i [some [.ptr k 0],some [.d (.bool true),.d (.int .i64 f),.d (qaa .sub (.node (-1) pv pk::ps)),.d (qaa .sub ts)],some [.d (qaU .sub rest)],some [.d (.int .i64 (-1)),.d (.int .i64 pv),.d (qaa .sub pk)],some [.d (.int .i64 0),.d (.int .i64 0),.d (qaa .sub [])]];rw[hd0]at hd;have hlt:(i:Int)+1<((2^ts.length:Nat):Int):=by omega
    generalize ((2^ts.length:Nat):Int)=M at*
    exact⟨by simp,by simp[qnw,qoa,qn8,qn7,qn9,hsh,hlt,hd,hq]⟩
   |false=>
    obtain⟨e,he⟩:=qjD s hs f pv pk ps ts rest u k Qs D N hN hk hl hp htl hu hD tl hbx hcn i (by omega) hd0 (hrec i (by omega) hd0);refine⟨_,he,?_⟩;simp[qad,qab,tA5 hq1,hq1])
  (2^ts.length-1) () 0 ⟨[(3,.d (binds .sub u)),(4,.ptr N 0),(5,.ptr (N+1) 0),(8,.ptr (N+3) 0),(9,.fn 327 [.ptr N 0,.ptr (N+1) 0,.ptr (N+2) 0]),(17,.d (.int .i64 1))],Qs 0++[some [.ptr k 0],some [.d (.bool true),.d (.int .i64 f),.d (qaa .sub (.node (-1) pv pk::ps)),.d (qaa .sub ts)],some [.d (qaU .sub rest)],some [.d (.int .i64 (-1)),.d (.int .i64 pv),.d (qaa .sub pk)],some [.d (.int .i64 0),.d (.int .i64 0),.d (qaa .sub [])]]⟩ (by omega) (by simp[qad,qab,tA5 (hN 0),hN 0])
 have hrun:∀n i,match runN (qBz D) n () i with| .inl _=>True| .inr j=>Qs j=Qs (i+n):=by
  intro n
  induction n with
  |zero=>intro i;trivial
  |succ n ih=>
   intro i;simp only[runN,qBz];cases hd0:D i with
   |true=>
    simp only[if_true];have:∀m,D (i+m)=true/\Qs (i+m)=Qs i:=fun m=>by
     induction m with
     |zero=>exact⟨hd0,rfl⟩
     |succ m ihm=>exact⟨hDs _ ihm.1,by rw[<-Nat.add_assoc,hst _ ihm.1,ihm.2]⟩
    exact(this (n+1)).2.symm
   |false=>
    simp only[Bool.false_eq_true,if_false];have:=ih (i+1);rwa[show i+1+n=i+(n+1)by omega]at this
 have hr:=hrun (2^ts.length-1) 0;have hq:=hN 0;have hp1:(((ps.length:Int)+1)==0)=false:=by simp;omega
 have hq9:=hN (2^ts.length-1);simp only[qtE]at h;simp[qsl,qhq,qhp,qho,qhn,qhm,qhl,qhk,qhj,qfd,qfc,qfb,qfa,qe9,qe8,qe7,qe6,qe5,h1,h2,hp1,hk,hq,sA4 hq,splice,cut];rw[h];cases hrn:runN (qBz D) (2^ts.length-1) () 0 with
 |inl a=>simp[hq9]
 |inr j=>
  rw[hrn]at hr;simp only[Nat.zero_add]at hr;simp[hr,hq9]
mutual
def T.nf(s:List SymL):T->Prop
 | .node f v ks=>T.nfs s ks/\(qaM s f=true->(∀k,k∈ks->k.f≠f)/\Srt ks)
def T.nfs(s:List SymL):List T->Prop
 | []=>True
 |t::r=>t.nf s/\T.nfs s r
end
theorem T.qmb(s:List SymL):∀l:List T,T.nfs s l↔∀t,t∈l->t.nf s
 | []=>by simp[T.nfs]
 |t::r=>by simp[T.nfs,T.qmb s r]
theorem qEN(s:List SymL)(f:Int)(l:List T)(t:T):t∈flatK s f l↔∃k,k∈l/\t∈qxK s f k:=by unfold flatK;simp
mutual
theorem qts(s:List SymL):∀t:T,(t.norm s).nf s
 | .node f v ks=>by
  have hN:=qwW s ks;rw[T.qmb]at hN;simp only[T.norm,T.nf]
  by_cases hb:qaM s f=true
  ·simp only[hb,if_true]
   have hK:∀e,e∈flatK s f (T.norms s ks)->e.nf s/\e.f≠f:=fun e he=>by
    obtain⟨k,h1,h2⟩:=(qEN s f _ e).1 he;have h3:=hN k h1;unfold qxK at h2
    by_cases hk:k.f=f
    ·have:(qaM s f&&k.f==f)=true:=by simp[hb,hk]
     rw[if_pos this]at h2;obtain⟨f',v',ks'⟩:=k;simp only[T.qbg]at hk;subst hk;simp only[T.nf,T.qbd]at h3 h2;exact⟨(T.qmb s ks').1 h3.1 e h2,(h3.2 hb).1 e h2⟩
    ·have:(qaM s f&&k.f==f)=false:=by simp[hk]
     rw[this]at h2;simp at h2;subst h2
     exact⟨h3,hk⟩
   refine⟨?_,fun _=>⟨fun e he=>(hK e ((qd2 _).mem_iff.1 he)).2,qqP _⟩⟩;rw[T.qmb];exact fun e he=>(hK e ((qd2 _).mem_iff.1 he)).1
  ·simp only[hb,Bool.false_eq_true,if_false]
   refine⟨?_,fun h=>absurd h id⟩;rw[T.qmb,qlC s f hb];exact hN
theorem qwW(s:List SymL):∀l:List T,T.nfs s (T.norms s l)
 | []=>by simp[T.norms,T.nfs]
 |t::r=>by simp only[T.norms,T.nfs];exact⟨qts s t,qwW s r⟩
end
theorem qmw:∀l:List T,(∀i,0<i->i<l.length->¬T.cmp (tAt l i) (tAt l (i-1))<0)->Srt l
 | [],_=>List.Pairwise.nil
 | [a],_=>List.pairwise_singleton _ _
 |a::b::r,h=>by
  have ih:=qmw (b::r) (fun i h0 hi=>by
   have:=h (i+1) (by omega) (by simpa using hi);have e:∀j,tAt (a::b::r) (j+1)=tAt (b::r) j:=fun j=>by simp[tAt]
   rw[e i,show i+1-1=(i-1)+1 by omega,e (i-1)]at this;exact this)
  have h0:=h 1 (by omega) (by simp);simp only[tAt,List.getElem?_cons_succ,List.getElem?_cons_zero,Option.getD_some,Nat.sub_self]at h0;have hab:tle a b:=qci h0;refine List.pairwise_cons.2 ⟨fun y hy=> ?_,ih⟩;rcases List.mem_cons.1 hy with rfl|hy
  ·exact hab
  ·exact qfU hab ((List.pairwise_cons.1 ih).1 y hy)
theorem qxu{l:List SymL}{f:Int}(h:qaM l f=true):(qax l f.toNat).ac=true:=by
 unfold qaM at h;simp only[Bool.and_eq_true]at h;exact h.2
theorem qrc(q:Nat->Bool)(n:Nat)(h:(qaw q n 0).isNone=true):∀i,i<n->q i=false:=fun i hi=>by
 have:=(qgX q n 0).2 (by simpa using h) i (by omega) (by omega);exact this
mutual
theorem qoW(l:List SymL):∀t:T,T.form l t=true->t.nf l
 | .node f v ks,h=>by
  simp only[T.form]at h;simp only[T.nf]
  by_cases hf:f= -1
  ·rw[if_pos hf]at h
   have hk:ks=[]:=by
    simp only[Bool.and_eq_true,decide_eq_true_eq]at h;exact List.eq_nil_of_length_eq_zero h.2
   subst hk;exact⟨trivial,fun _=>⟨fun k hk=>by simp at hk,List.Pairwise.nil⟩⟩
  ·rw[if_neg hf]at h
   split at h
   ·simp at h
   ·have hq:=qrc _ _ h
    have hat:∀i,i<ks.length->T.form l (tAt ks i)=true/\qc9 l f ks i=false:=fun i hi=>by
     have:=hq i hi;rw[T.qpj l ks i hi]at this;simpa using this
    refine⟨qxf l ks (fun i hi=>(hat i hi).1),fun hb=>⟨fun k hk=> ?_,qmw ks fun i h0 hi=> ?_⟩⟩
    ·obtain⟨i,hi,rfl⟩:=List.getElem_of_mem hk
     have h2:=(hat i hi).2;rw[qap hi];unfold qc9 at h2;rw[if_pos (qxu hb)]at h2;intro he;rw[if_pos he]at h2;simp at h2
    ·have h2:=(hat i hi).2
     unfold qc9 at h2;rw[if_pos (qxu hb)]at h2;split at h2
     ·simp at h2
     ·rw[if_neg (by omega)]at h2
      simpa using h2
theorem qxf(l:List SymL):∀ks:List T,(∀i,i<ks.length->T.form l (tAt ks i)=true)->T.nfs l ks
 | [],_=>trivial
 |t::r,h=>⟨qoW l t (by have:=h 0 (by simp);simpa[tAt]using this),qxf l r fun i hi=>by have:=h (i+1) (by simpa using hi);simpa[tAt]using this⟩
end
end Go.Proofs.YtbcbkiaineacpaaGreat.VS
