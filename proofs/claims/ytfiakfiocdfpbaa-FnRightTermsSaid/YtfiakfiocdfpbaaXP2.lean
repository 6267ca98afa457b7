/- Contracts of the program's functions on the evaluator without names, and plain lemmas: part 2. -/
import Derived.Test.YtfiakfiocdfpbaaXP1
set_option linter.unusedSimpArgs false
set_option linter.unusedVariables false
namespace Go.Proofs.Ytfiakfiocdfpbaa.VS
def qdk(l:List SymL)(f v:Int)(n:Nat):Bool:=
 if qeu l f=true then
  if v=0 then(if(qaB l f.toNat).ac=true then decide ((n:Int)<2)else !decide ((n:Int)=(qaB l f.toNat).arity))
  else true
 else true
def qcR(l:List SymL)(f:Int)(ks:List T)(i:Nat):Bool:=
 if(qaB l f.toNat).ac=true then(if(tAt ks i).f=f then true else if i=0 then false else decide (T.cmp (tAt ks i) (tAt ks (i-1))<0))else false
mutual
def T.form(l:List SymL):T->Bool
 | .node f v ks=>
  if f= -1 then inB v 0 99&&decide (ks.length=0)
  else if qdk l f v ks.length=true then false
  else(qaY (fun i=> !((T.forms l ks)[i]?).getD false||qcR l f ks i) ks.length 0).isNone
def T.forms(l:List SymL):List T->List Bool
 | []=>[]
 |t::r=>T.form l t::T.forms l r
end
theorem T.qnX(l:List SymL):∀ks:List T,T.forms l ks=ks.map (T.form l)
 | []=>by simp[T.forms]
 |t::r=>by simp[T.forms,T.qnX l r]
theorem T.qiy(l:List SymL)(ks:List T)(i:Nat)(hi:i<ks.length):((T.forms l ks)[i]?).getD false=T.form l (tAt ks i):=by
 rw[T.qnX];simp[qtB hi]
theorem qFV(l:List SymL)(hs:l.length<=1099511627776)(f v:Int)(ks:List T):qau XV (XV.lin 78) (.region true 0 [0,3,62] qyj) ⟨[(0,.d (sg l)),(3,.ptr 0 0),(8,.d (.bool false))],qaK f v ks⟩=some (.normal,⟨[(0,.d (sg l)),(3,.ptr 0 0),(62,.d (.bool (qdk l f v ks.length)))],qaK f v ks⟩):=by
 have hsy:=qqc l hs f;unfold qdk qaK;cases c1:qeu l f with
 |false=>rw[c1]at hsy;simp[qwg,hsy]
 |true=>
  rw[c1]at hsy;obtain⟨g1,g2⟩:=qd3 c1
  by_cases c2:v=0
  ·cases c3:(qaB l f.toNat).ac with
   |true=>simp[qwg,hsy,c2,g1,g2,qas g2,cut,c3]
   |false=>
    by_cases c4:(ks.length:Int)=(qaB l f.toNat).arity
    ·simp[qwg,hsy,c2,g1,g2,qas g2,cut,c3,c4]
    ·have b4:((ks.length:Int) !=(qaB l f.toNat).arity)=true:=by simp[c4]
     simp[qwg,hsy,c2,g1,g2,qas g2,cut,c3,c4,b4]
  ·have b2:(v !=0)=true:=by simp[c2]
   simp[qwg,hsy,c2,b2]
theorem qFU(l:List SymL)(hs:l.length<=1099511627776)(f v:Int)(ks:List T):qau XV (XV.lin 83) (.region true 0 [0,3,64] qye) ⟨[(0,.d (sg l)),(3,.ptr 0 0),(8,.d (.bool false))],qaK f v ks⟩=some (.normal,⟨[(0,.d (sg l)),(3,.ptr 0 0),(64,.d (.bool (qdk l f v ks.length)))],qaK f v ks⟩):=by
 have hsy:=qhg f 0 (l.length-1);have hw:IntKind.i64.wrap ((l.length:Int)-1)=l.length-1:=wrap_i64 (by omega) (by omega);unfold qdk qaK;cases c1:qeu l f with
 |false=>unfold qeu at c1;rw[c1]at hsy;simp[qwe,hsy,hw]
 |true=>
  obtain⟨g1,g2⟩:=qd3 c1;unfold qeu at c1;rw[c1]at hsy
  by_cases c2:v=0
  ·cases c3:(qaB l f.toNat).ac with
   |true=>simp[qwe,hsy,hw,c2,g1,g2,qas g2,cut,c3]
   |false=>
    by_cases c4:(ks.length:Int)=(qaB l f.toNat).arity
    ·simp[qwe,hsy,hw,c2,g1,g2,qas g2,cut,c3,c4]
    ·have b4:((ks.length:Int) !=(qaB l f.toNat).arity)=true:=by simp[c4]
     simp[qwe,hsy,hw,c2,g1,g2,qas g2,cut,c3,c4,b4]
  ·have b2:(v !=0)=true:=by simp[c2]
   simp[qwe,hsy,hw,c2,b2]
theorem qIV(l:List SymL)(hs:l.length<=1099511627776)(f v:Int)(ks:List T)(hf:qeu l f=true)(i:Nat)(hi:i<ks.length)(hl:ks.length<=1099511627776)
 (hbef:∀s s',s∈ks->s'∈ks->qad XV 79 [.d (s.enc .sub),.d (s'.enc .sub)] []=some (.d (.bool (decide (T.cmp s s'<0))),[]))
 (hrec:qad XV 78 [.d (sg l),.d ((tAt ks i).enc .sub)] []=some (.d (.bool (T.form l (tAt ks i))),[])):
 qau XV (XV.lin 78) (.region true 0 [0,3,64,65,66,103] qyh) ⟨[(0,.d (sg l)),(3,.ptr 0 0),(5,.d (.int .i64 i)),(6,.ptr 1 0),(64,.d (qao .sub ks)),(65,.d (.int .i64 ks.length)),(66,.d (.int .i64 i))],qaK f v ks++[some [.d (.int .i64 (tAt ks i).f),.d (.int .i64 (tAt ks i).v),.d (qao .sub (tAt ks i).kids)]]⟩=
  some (.normal,⟨[(0,.d (sg l)),(3,.ptr 0 0),(64,.d (qao .sub ks)),(65,.d (.int .i64 ks.length)),(66,.d (.int .i64 i)),(103,.d (.bool (!T.form l (tAt ks i)||qcR l f ks i)))],qaK f v ks++[some [.d (.int .i64 (tAt ks i).f),.d (.int .i64 (tAt ks i).v),.d (qao .sub (tAt ks i).kids)]]⟩):=by
 obtain⟨g1,g2⟩:=qd3 hf;unfold qaK qcR;cases c1:T.form l (tAt ks i)with
 |false=>rw[c1]at hrec;simp[qwf,hrec]
 |true=>
  rw[c1]at hrec;cases c2:(qaB l f.toNat).ac with
  |false=>simp[qwf,hrec,g1,g2,qas g2,c2,cut]
  |true=>
   by_cases c3:(tAt ks i).f=f
   ·have b3:((tAt ks i).f==f)=true:=by simp[c3]
    simp[qwf,hrec,g1,g2,qas g2,c2,b3,cut];simp[c3]
   ·have b3:((tAt ks i).f==f)=false:=by simp[c3]
    by_cases c4:i=0
    ·subst c4;simp[qwf,hrec,g1,g2,qas g2,c2,c3,b3,cut]
    ·obtain⟨j,rfl⟩:∃j,i=j+1:=⟨i-1,by omega⟩
     have hj:j<ks.length:=by omega
     have hb:=hbef _ _ (qaM hi) (qaM hj);have hw:IntKind.i64.wrap (j:Int)=j:=qih (by omega);have hpos:(0:Int)<((j+1:Nat):Int):=by omega
     simp only[Int.natCast_add,Int.cast_ofNat_Int]at hpos;simp[qwf,hrec,g1,g2,qas g2,c2,c3,b3,hw,hpos,hj,qaD hj,cut,hb]
theorem qvL(l:List SymL)(hs:l.length<=1099511627776)(f v:Int)(ks:List T)(hl:ks.length<=1099511627776)
 (hbef:∀s s',s∈ks->s'∈ks->qad XV 79 [.d (s.enc .sub),.d (s'.enc .sub)] []=some (.d (.bool (decide (T.cmp s s'<0))),[]))
 (hrec:∀s,s∈ks->qad XV 78 [.d (sg l),.d (s.enc .sub)] []=some (.d (.bool (T.form l s)),[])):
 qad XV 78 [.d (sg l),.d ((T.node f v ks).enc .sub)] []=some (.d (.bool (T.form l (.node f v ks))),[]):=by
 rw[qaA XV _ _ _ v78 rfl qxj rfl];have hv:=qyF (.node f v ks);have hin:=qjB v 0 99;simp only[T.qdp]at hv
 by_cases c1:f= -1
 ·have hform:T.form l (.node f v ks)=(inB v 0 99&&decide (ks.length=0)):=by simp[T.form,c1]
  rw[hform];subst c1;simp only[BEq.rfl]at hv;cases c2:inB v 0 99 with
  |false=>rw[c2]at hin;simp[v78,qrd,qrc,qrb,hv,hin]
  |true=>
   rw[c2]at hin
   by_cases c3:ks.length=0
   ·simp[v78,qrd,qrc,qrb,hv,hin,c3]
   ·have b3:((ks.length:Int)==0)=false:=by simp;exact fun h=>c3 (by simp[h])
    simp[v78,qrd,qrc,qrb,hv,hin,b3];exact fun h=>c3 (by simp[h])
 have b1:(f== -1)=false:=by simp[c1]
 rw[b1]at hv;have hh:=qFV l hs f v ks;simp only[qaK,qao,qvc]at hh;cases c2:qdk l f v ks.length with
 |true=>
  have hform:T.form l (.node f v ks)=false:=by simp[T.form,c1,c2]
  rw[hform];rw[c2]at hh;simp[v78,qrd,qrc,qrb,hv,qBM];rw[hh];simp
 |false=>
  have hsy:qeu l f=true:=by
   unfold qdk at c2
   by_cases h:qeu l f=true
   ·exact h
   ·rw[if_neg h]at c2;simp at c2
  have hform:T.form l (.node f v ks)=(qaY (fun i=> !T.form l (tAt ks i)||qcR l f ks i) ks.length 0).isNone:=by
   have e:qaY (fun i=> !((T.forms l ks)[i]?).getD false||qcR l f ks i) ks.length 0=qaY (fun i=> !T.form l (tAt ks i)||qcR l f ks i) ks.length 0:=by
    have key:∀(k i:Nat),i+k=ks.length->qaY (fun i=> !((T.forms l ks)[i]?).getD false||qcR l f ks i) k i=qaY (fun i=> !T.form l (tAt ks i)||qcR l f ks i) k i:=by
     intro k
     induction k with
     |zero=>intro i _;rfl
     |succ k ih=>
      intro i h;simp only[qaY];simp only[T.qiy l ks i (by omega),ih (i+1) (by omega)]
    exact key _ _ (by omega)
   rw[<-e];simp[T.form,c1,c2]
  rw[hform];rw[c2]at hh;have h:=qaJ (X:=XV) (T:=XV.lin 78) (L:=1) (live:=[0,3,64,65,66]) (b:=qwJ) (n:=ks.length) (γ:=Nat) (st:=fun(_:Unit) i=>⟨[(0,.d (sg l)),(3,.ptr 0 0),(64,.d (qao .sub ks)),(65,.d (.int .i64 ks.length)),(66,.d (.int .i64 i))],qaK f v ks⟩) (step:=qev fun i=> !T.form l (tAt ks i)||qcR l f ks i)
   (F:=fun _=>(.exit 0,⟨[(0,.d (sg l)),(3,.ptr 0 0),(64,.d (qao .sub ks)),(65,.d (.int .i64 ks.length)),(66,.d (.int .i64 ks.length)),(67,.d (.bool false))],qaK f v ks⟩)) (R:=fun j=>(.ret,⟨[(4,.d (.bool false))],qaK f v ks++[some [.d (.int .i64 (tAt ks j).f),.d (.int .i64 (tAt ks j).v),.d (qao .sub (tAt ks j).kids)]]⟩))
   (fun a=>⟨by simp,by simp[qwJ,qyi]⟩)
   (fun a i hi=>by
    have hw:=qaw (n:=i) (by omega);have hk:=qIV l hs f v ks hsy i hi hl hbef (hrec _ (qaM hi));unfold qev;simp only[qaK,qao,List.cons_append,List.nil_append,qvc]at hk
    by_cases hq:(!T.form l (tAt ks i)||qcR l f ks i)=true
    ·rw[if_pos hq]
     rw[hq]at hk;refine⟨by simp,?_⟩;simp[qwJ,qyi,qBL,qBK,qtZ,hi,hw,cut,qaD hi,qaK,splice];rw[hk];simp
    ·rw[if_neg hq]
     have hq':(!T.form l (tAt ks i)||qcR l f ks i)=false:=by simpa using hq
     rw[hq']at hk;refine⟨⟨[(0,.d (sg l)),(3,.ptr 0 0),(64,.d (qao .sub ks)),(65,.d (.int .i64 ks.length)),(66,.d (.int .i64 (i+1:Nat)))],qaK f v ks++[some [.d (.int .i64 (tAt ks i).f),.d (.int .i64 (tAt ks i).v),.d (qao .sub (tAt ks i).kids)]]⟩,?_,by simp[qaf,qac,qaK]⟩;simp[qwJ,qyi,qBL,qBK,qtZ,hi,hw,cut,qaD hi,qaK,splice];rw[hk];simp[hw])
   ks.length () 0 ⟨[(0,.d (sg l)),(3,.ptr 0 0),(64,.d (qao .sub ks)),(65,.d (.int .i64 ks.length)),(66,.d (.int .i64 0))],qaK f v ks⟩ (by omega) (by simp[qaf,qac,qaK])
  rw[qzz]at h;simp only[qaK,qao,List.cons_append,List.nil_append,qvc]at h;simp[v78,qrd,qrc,qrb,hv,qBM,qEl];rw[hh];simp;rw[h];cases hq:qaY (fun i=> !T.form l (tAt ks i)||qcR l f ks i) ks.length 0<;>simp[qzB]
theorem qvJ(l:List SymL)(f v:Int)(ks:List T)(c1:f≠-1)(c2:qdk l f v ks.length=false):T.form l (.node f v ks)=(qaY (fun i=> !T.form l (tAt ks i)||qcR l f ks i) ks.length 0).isNone:=by
 have e:qaY (fun i=> !((T.forms l ks)[i]?).getD false||qcR l f ks i) ks.length 0=qaY (fun i=> !T.form l (tAt ks i)||qcR l f ks i) ks.length 0:=by
  have key:∀(k i:Nat),i+k=ks.length->qaY (fun i=> !((T.forms l ks)[i]?).getD false||qcR l f ks i) k i=qaY (fun i=> !T.form l (tAt ks i)||qcR l f ks i) k i:=by
   intro k
   induction k with
   |zero=>intro i _;rfl
   |succ k ih=>
    intro i h;simp only[qaY];simp only[T.qiy l ks i (by omega),ih (i+1) (by omega)]
  exact key _ _ (by omega)
 rw[<-e];simp[T.form,c1,c2]
theorem qnp(l:List SymL)(hs:l.length<=1099511627776)(t:T)(ht:t.inner<=1099511627776):qad XV 78 [.d (sg l),.d (t.enc .sub)] []=some (.d (.bool (T.form l t)),[]):=by
 match t,ht with
 | .node f v ks,ht=>
  simp only[T.inner]at ht;exact qvL l hs f v ks (by omega) (fun s s' h h'=>qlW s s' (by have:=T.qaG h;omega) (by have:=T.qaG h';omega)) (fun s h=>qnp l hs s (by have:=T.qaG h;omega))
termination_by t
decreasing_by
 simp_wf
 have:=List.sizeOf_lt_of_mem h;omega
theorem qIU(l:List SymL)(hs:l.length<=1099511627776)(f v:Int)(ks:List T)(hf:qeu l f=true)(i:Nat)(hi:i<ks.length)(hl:ks.length<=1099511627776)
 (hbef:∀s s',s∈ks->s'∈ks->qad XV 84 [.d (s.enc .sub),.d (s'.enc .sub)] []=some (.d (.bool (decide (T.cmp s s'<0))),[]))
 (hrec:qad XV 83 [.d (sg l),.d ((tAt ks i).enc .sub)] []=some (.d (.bool (T.form l (tAt ks i))),[])):
 qau XV (XV.lin 83) (.region true 0 [0,3,5,116] qyc) ⟨[(0,.d (sg l)),(3,.ptr 0 0),(5,.d (.int .i64 i)),(69,.d (.bool true))],qaK f v ks⟩=
  some (.normal,⟨[(0,.d (sg l)),(3,.ptr 0 0),(5,.d (.int .i64 i)),(116,.d (.bool (!T.form l (tAt ks i)||qcR l f ks i)))],qaK f v ks⟩):=by
 obtain⟨g1,g2⟩:=qd3 hf;unfold qaK qcR;cases c2:(qaB l f.toNat).ac with
 |false=>
  cases c1:T.form l (tAt ks i)with
  |false=>rw[c1]at hrec;simp[qnE,hrec,g1,g2,qas g2,c2,cut,hi,qaD hi]
  |true=>rw[c1]at hrec;simp[qnE,hrec,g1,g2,qas g2,c2,cut,hi,qaD hi]
 |true=>
  by_cases c3:(tAt ks i).f=f
  ·have b3:((tAt ks i).f==f)=true:=by simp[c3]
   simp[qnE,g1,g2,qas g2,c2,b3,cut,hi,qaD hi];simp[c3]
  ·have b3:((tAt ks i).f==f)=false:=by simp[c3]
   by_cases c4:i=0
   ·subst c4
    cases c1:T.form l (tAt ks 0)with
    |false=>rw[c1]at hrec;simp[qnE,hrec,g1,g2,qas g2,c2,c3,b3,cut,hi,qaD hi]
    |true=>rw[c1]at hrec;simp[qnE,hrec,g1,g2,qas g2,c2,c3,b3,cut,hi,qaD hi]
   ·obtain⟨j,rfl⟩:∃j,i=j+1:=⟨i-1,by omega⟩
    have hj:j<ks.length:=by omega
    have hb:=hbef _ _ (qaM hi) (qaM hj);have hw:IntKind.i64.wrap (j:Int)=j:=qih (by omega);have hpos:(0:Int)<((j+1:Nat):Int):=by omega
    have hnat:(((j+1:Nat):Int)).toNat=j+1:=by omega
    simp only[Int.natCast_add,Int.cast_ofNat_Int]at hpos hnat;have hnn:(0:Int)<=(j:Int)+1:=by omega
    by_cases c5:T.cmp (tAt ks (j+1)) (tAt ks j)<0
    ·simp only[c5,decide_true]at hb
     simp[qnE,g1,g2,qas g2,c2,c3,b3,hw,hpos,hnat,hnn,hj,hi,qaD hj,qaD hi,cut,hb,c5]
    ·simp only[c5,decide_false]at hb
     cases c1:T.form l (tAt ks (j+1))with
     |false=>rw[c1]at hrec;simp[qnE,hrec,g1,g2,qas g2,c2,c3,b3,hw,hpos,hnat,hnn,hj,hi,qaD hj,qaD hi,cut,hb,c5]
     |true=>rw[c1]at hrec;simp[qnE,hrec,g1,g2,qas g2,c2,c3,b3,hw,hpos,hnat,hnn,hj,hi,qaD hj,qaD hi,cut,hb,c5]
theorem qrH(l:List SymL)(hs:l.length<=1099511627776)(f v:Int)(ks:List T)(hl:ks.length<=1099511627776)
 (hbef:∀s s',s∈ks->s'∈ks->qad XV 84 [.d (s.enc .sub),.d (s'.enc .sub)] []=some (.d (.bool (decide (T.cmp s s'<0))),[]))
 (hrec:∀s,s∈ks->qad XV 83 [.d (sg l),.d (s.enc .sub)] []=some (.d (.bool (T.form l s)),[])):
 qad XV 83 [.d (sg l),.d ((T.node f v ks).enc .sub)] []=some (.d (.bool (T.form l (.node f v ks))),[]):=by
 rw[qaA XV _ _ _ v83 rfl qxf rfl];have hin:=qhg v 0 99
 by_cases c1:f= -1
 ·have hform:T.form l (.node f v ks)=(inB v 0 99&&decide (ks.length=0)):=by simp[T.form,c1]
  rw[hform];subst c1;cases c2:inB v 0 99 with
  |false=>rw[c2]at hin;simp[v83,qra,qq9,qq8,hin]
  |true=>
   rw[c2]at hin
   by_cases c3:ks.length=0
   ·simp[v83,qra,qq9,qq8,hin,c3]
   ·have b3:((ks.length:Int)==0)=false:=by simp;exact fun h=>c3 (by simp[h])
    simp[v83,qra,qq9,qq8,hin,b3];exact fun h=>c3 (by simp[h])
 have b1:(f== -1)=false:=by simp[c1]
 have hh:=qFU l hs f v ks;simp only[qaK,qao,qvb]at hh;cases c2:qdk l f v ks.length with
 |true=>
  have hform:T.form l (.node f v ks)=false:=by simp[T.form,c1,c2]
  rw[hform];rw[c2]at hh;simp[v83,qra,qq9,qq8,b1,qBJ];rw[hh];simp
 |false=>
  have hsy:qeu l f=true:=by
   unfold qdk at c2
   by_cases h:qeu l f=true
   ·exact h
   ·rw[if_neg h]at c2;simp at c2
  rw[qvJ l f v ks c1 c2];rw[c2]at hh;have h:=qaJ (X:=XV) (T:=XV.lin 83) (L:=1) (live:=[0,3,5]) (b:=qwI) (n:=ks.length) (γ:=Nat) (st:=fun(_:Unit) i=>⟨[(0,.d (sg l)),(3,.ptr 0 0),(5,.d (.int .i64 i))],qaK f v ks⟩) (step:=qev fun i=> !T.form l (tAt ks i)||qcR l f ks i)
   (F:=fun _=>(.exit 0,⟨[(0,.d (sg l)),(3,.ptr 0 0),(5,.d (.int .i64 ks.length)),(69,.d (.bool false))],qaK f v ks⟩)) (R:=fun j=>(.ret,⟨[(4,.d (.bool false))],qaK f v ks⟩))
   (fun a=>⟨by simp,by simp[qwI,qyd,qaK]⟩)
   (fun a i hi=>by
    have hw:=qaw (n:=i) (by omega);have hk:=qIU l hs f v ks hsy i hi hl hbef (hrec _ (qaM hi));unfold qev;simp only[qaK,qao,List.cons_append,List.nil_append,qvb]at hk
    by_cases hq:(!T.form l (tAt ks i)||qcR l f ks i)=true
    ·rw[if_pos hq]
     rw[hq]at hk;refine⟨by simp,?_⟩;simp[qwI,qyd,qBI,qBH,hi,hw,cut,qaD hi,qaK,splice];rw[hk];simp
    ·rw[if_neg hq]
     have hq':(!T.form l (tAt ks i)||qcR l f ks i)=false:=by simpa using hq
     rw[hq']at hk;refine⟨⟨[(0,.d (sg l)),(3,.ptr 0 0),(5,.d (.int .i64 (i+1:Nat)))],qaK f v ks⟩,?_,by simp[qaf,qac,qaK]⟩;simp[qwI,qyd,qBI,qBH,hi,hw,cut,qaD hi,qaK,splice];rw[hk];simp[hw])
   ks.length () 0 ⟨[(0,.d (sg l)),(3,.ptr 0 0),(5,.d (.int .i64 0))],qaK f v ks⟩ (by omega) (by simp[qaf,qac,qaK])
  rw[qzz]at h;simp only[qaK,qao,List.cons_append,List.nil_append,qvb]at h;simp[v83,qra,qq9,qq8,b1,qBJ,qEi];rw[hh];simp;rw[h];cases hq:qaY (fun i=> !T.form l (tAt ks i)||qcR l f ks i) ks.length 0<;>simp[qzA]
theorem qkE(l:List SymL)(hs:l.length<=1099511627776)(t:T)(ht:t.inner<=1099511627776):qad XV 83 [.d (sg l),.d (t.enc .sub)] []=some (.d (.bool (T.form l t)),[]):=by
 match t,ht with
 | .node f v ks,ht=>
  simp only[T.inner]at ht;exact qrH l hs f v ks (by omega) (fun s s' h h'=>qd4 s s' (by have:=T.qaG h;omega) (by have:=T.qaG h';omega)) (fun s h=>qkE l hs s (by have:=T.qaG h;omega))
termination_by t
decreasing_by
 simp_wf
 have:=List.sizeOf_lt_of_mem h;omega
mutual
theorem qtD:∀t:T,T.sum (fun _=>1) t=t.inner+1
 | .node f v ks=>by simp only[T.sum,T.inner];rw[qpm ks];push_cast;omega
theorem qpm:∀l:List T,T.sums (fun _=>1) l=T.inners l+l.length
 | []=>by simp[T.sums,T.inners]
 |t::r=>by simp only[T.sums,T.inners,List.length_cons];rw[qtD t,qpm r];push_cast;omega
end
theorem qm6(t:T)(ht:t.inner<=1099511627776):IntKind.i64.wrap (T.sum (fun _=>1) t)=(t.inner+1:Nat):=by
 rw[qtD];exact qih (n:=t.inner+1) (by omega)
def qdB(l:List SymL)(t:T):Bool:=qiM l&&(decide (t.inner+1<=60)&&T.form l t)
theorem qlU(l:List SymL)(hs:l.length<=1099511627776)(hn:∀i,i<l.length->(qaB l i).name.size<=1099511627776)(t:T)(ht:t.inner<=1099511627776):qad XV 70 [.d (sg l),.d (t.enc .sub)] []=some (.d (.bool (qdB l t)),[]):=by
 rw[qaA XV _ _ _ v70 rfl qxm rfl];have h1:=qnl l hs hn;have h2:=qnm t ht;rw[qm6 t ht]at h2;have h3:=qnp l hs t ht;unfold qdB;cases c1:qiM l with
 |false=>rw[c1]at h1;simp[v70,qyl,qyk,h1]
 |true=>
  rw[c1]at h1
  by_cases c2:t.inner+1<=60
  ·have c2':(((t.inner+1:Nat):Int))<=60:=by omega
   simp only[Int.natCast_add,Int.cast_ofNat_Int]at c2';simp[v70,qyl,qyk,h1,h2,h3,c2,c2']
  ·have c2':¬(((t.inner+1:Nat):Int))<=60:=by omega
   simp only[Int.natCast_add,Int.cast_ofNat_Int]at c2';simp[v70,qyl,qyk,h1,h2,c2,c2']
theorem qlf(l:List SymL)(hs:l.length<=1099511627776)(hn:∀i,i<l.length->(qaB l i).name.size<=1099511627776)(t:T)(ht:t.inner<=1099511627776):qad XV 80 [.d (sg l),.d (t.enc .sub)] []=some (.d (.bool (qdB l t)),[]):=by
 rw[qaA XV _ _ _ v80 rfl qxh rfl];have h1:=qmE l hs hn;have h2:=qhA t ht;rw[qm6 t ht]at h2;have h3:=qkE l hs t ht;unfold qdB;cases c1:qiM l with
 |false=>rw[c1]at h1;simp[v80,qyg,qyf,h1]
 |true=>
  rw[c1]at h1
  by_cases c2:t.inner+1<=60
  ·have c2':(((t.inner+1:Nat):Int))<=60:=by omega
   simp only[Int.natCast_add,Int.cast_ofNat_Int]at c2';simp[v80,qyg,qyf,h1,h2,h3,c2,c2']
  ·have c2':¬(((t.inner+1:Nat):Int))<=60:=by omega
   simp only[Int.natCast_add,Int.cast_ofNat_Int]at c2';simp[v80,qyg,qyf,h1,h2,c2,c2']
end Go.Proofs.Ytfiakfiocdfpbaa.VS
namespace Go.Proofs.Ytfiakfiocdfpbaa.VS
structure Bd where
 v:Int
 t:T
def Bd.enc(g:Tag)(b:Bd):DV:= .agg [.int .i64 b.v,.int .i64 b.t.f,.int .i64 b.t.v,qao g b.t.kids]
def Bd.ok(b:Bd):Prop:=(-9223372036854775808<=b.v/\b.v<=9223372036854775807)/\b.t.ok
abbrev binds(g:Tag)(l:List Bd):DV:= .sl g (l.map (Bd.enc g))
@[simp] theorem Bd.qnZ(g:Tag)(x:Bd):(x.enc g).cells=[.int .i64 x.v,.int .i64 x.t.f,.int .i64 x.t.v,qao g x.t.kids]:=rfl
@[simp] theorem Bd.qk5(g:Tag)(x:Bd):(AV.d (x.enc g)).cells=[.d (.int .i64 x.v),.d (.int .i64 x.t.f),.d (.int .i64 x.t.v),.d (qao g x.t.kids)]:=rfl
@[simp] theorem Bd.qk4(g:Tag)(x:Bd):(x.enc g).isCell=false:=rfl
@[simp] theorem Bd.qGK(g:Tag)(x:Bd):isAgg (x.enc g)=true:=rfl
@[simp] theorem Bd.qe8(g:Tag)(x:Bd):(x.enc g).clr=x.enc .sub:=by
 simp only[Bd.enc,DV.clr,DV.clrs,qao,DV.qaq,qcD]
@[simp high] theorem Bd.qep(g:Tag)(l:List Bd):(l.map (Bd.enc g)).map DV.clr=l.map (Bd.enc .sub):=by simp[List.map_map,Function.comp_def]
@[simp] theorem Bd.agg_enc(g:Tag)(x:Bd):DV.agg [.int .i64 x.v,.int .i64 x.t.f,.int .i64 x.t.v,qao g x.t.kids]=x.enc g:=rfl
end Go.Proofs.Ytfiakfiocdfpbaa.VS
namespace Go.Proofs.Ytfiakfiocdfpbaa.VS
end Go.Proofs.Ytfiakfiocdfpbaa.VS
namespace Go.Proofs.Ytfiakfiocdfpbaa.VS
theorem qj4(a c:List T)(g:Tag)(h:(a.length+c.length)*40<=140737488355328):qbG 3 40 (.sl U (a.map (T.enc U))) (.sl g (c.map (T.enc U)))=some (.sl U ((a++c).map (T.enc U))):=by
 have h1:(c.map (T.enc U)).all (fun e=>decide (e.cells.length=3/\e.cells.all DV.isCell=true))=true:=by
  simp[qaa,qaj]
 have h2:(a.map (T.enc U)).all (fun e=>decide (e.cells.length=3))=true:=by simp
 unfold qbG;simp only;rw[if_pos h1];cases c with
 |nil=>simp
 |cons x r=>
  simp only[List.map_cons,List.isEmpty_cons,Bool.false_eq_true,if_false];rw[if_pos ⟨by simpa using h,trivial,h2⟩];simp
theorem qyA(n:Int):qad XV 147 [.d (.int .i64 n)] []=some (.d ((T.node (-1) n []).enc U),[]):=by
 rw[qaA XV _ _ _ qDr rfl qtf rfl];simp[qDr,qAb,qAa,splice,qaa,qaj,qag,qax,qae];rw[T.qcn];rfl
end Go.Proofs.Ytfiakfiocdfpbaa.VS
namespace Go.Proofs.Ytfiakfiocdfpbaa.VS
mutual
theorem qjR:∀a b:T,T.cmp a b= -(T.cmp b a)
 | .node f v ks,.node f' v' ks'=>by
  have h:=qqt ks ks';simp only[T.cmp]
  repeat' split
  all_goals first|omega|exact h
theorem qqt:∀a b:List T,T.cmps a b= -(T.cmps b a)
 | [],[]=>rfl
 | [],_::_=>rfl
 |_::_,[]=>rfl
 |x::xs,y::ys=>by
  have h1:=qjR x y;have h2:=qqt xs ys;simp only[T.cmps]
  repeat' split
  all_goals omega
end
mutual
theorem qkR:∀a b:T,T.cmp a b=0->a=b
 | .node f v ks,.node f' v' ks',h=>by
  simp only[T.cmp]at h
  repeat' split at h
  all_goals first|omega|skip
  have h1:=qwq ks ks' (by omega) h;have h2:f=f':=by omega
  have h3:v=v':=by omega
  rw[h1,h2,h3]
theorem qwq:∀a b:List T,a.length=b.length->T.cmps a b=0->a=b
 | [],[],_,_=>rfl
 | [],_::_,h,_=>by simp at h
 |_::_,[],h,_=>by simp at h
 |x::xs,y::ys,hl,h=>by
  simp only[T.cmps]at h;split at h
  ·omega
  ·rename_i h0
   rw[qkR x y (by omega),qwq xs ys (by simpa using hl) h]
end
mutual
theorem qAE:∀a b c:T,T.cmp a b<0->T.cmp b c<0->T.cmp a c<0
 | .node f v ks,.node f' v' ks',.node f2 vw2 ks2,h1,h2=>by
  simp only[T.cmp]at h1 h2⊢
  by_cases e1:f<f'
  ·have:f'<=f2:=by
    apply Classical.byContradiction;intro h
    rw[if_neg (by omega),if_pos (by omega)]at h2;omega
   rw[if_pos (by omega)];omega
  ·have e1':f=f':=by
    apply Classical.byContradiction;intro h
    rw[if_neg e1,if_pos (by omega)]at h1;omega
   subst e1'
   by_cases e2:f<f2
   ·rw[if_pos e2];omega
   ·have e2':f=f2:=by
     apply Classical.byContradiction;intro h
     rw[if_neg e2,if_pos (by omega)]at h2;omega
    subst e2';simp only[Int.lt_irrefl,gt_iff_lt,if_false]at h1 h2⊢
    by_cases e3:v<v'
    ·have:v'<=vw2:=by
      apply Classical.byContradiction;intro h
      rw[if_neg (by omega),if_pos (by omega)]at h2;omega
     rw[if_pos (by omega)];omega
    ·have e3':v=v':=by
      apply Classical.byContradiction;intro h
      rw[if_neg e3,if_pos (by omega)]at h1;omega
     subst e3'
     by_cases e4:v<vw2
     ·rw[if_pos e4];omega
     ·have e4':v=vw2:=by
       apply Classical.byContradiction;intro h
       rw[if_neg e4,if_pos (by omega)]at h2;omega
      subst e4';simp only[Int.lt_irrefl,gt_iff_lt,if_false]at h1 h2⊢
      by_cases e5:ks.length<ks'.length
      ·have:ks'.length<=ks2.length:=by
        apply Classical.byContradiction;intro h
        rw[if_neg (by omega),if_pos (by omega)]at h2;omega
       rw[if_pos (by omega)];omega
      ·have e5':ks.length=ks'.length:=by
        apply Classical.byContradiction;intro h
        rw[if_neg e5,if_pos (by omega)]at h1;omega
       by_cases e6:ks.length<ks2.length
       ·rw[if_pos e6];omega
       ·have e6':ks.length=ks2.length:=by
         apply Classical.byContradiction;intro h
         rw[if_neg (by omega),if_pos (by omega)]at h2;omega
        rw[if_neg (by omega),if_neg (by omega)]at h1 h2⊢
        exact qwr ks ks' ks2 e5' (by omega) h1 h2
theorem qwr:∀a b c:List T,a.length=b.length->b.length=c.length->T.cmps a b<0->T.cmps b c<0->T.cmps a c<0
 | [],[],_,_,_,h,_=>by simp[T.cmps]at h
 | [],_::_,_,h,_,_,_=>by simp at h
 |_::_,[],_,h,_,_,_=>by simp at h
 |x::xs,y::ys,[],_,h,_,_=>by simp at h
 |x::xs,y::ys,z::zs,l1,l2,h1,h2=>by
  simp only[T.cmps]at h1 h2⊢
  have t1:=qAE x y z
  by_cases c1:T.cmp x y=0
  ·have:=qkR x y c1
   subst this
   by_cases c2:T.cmp x z=0
   ·simp only[c1,c2,ne_eq,not_true_eq_false,if_false]at h1 h2⊢
    exact qwr xs ys zs (by simpa using l1) (by simpa using l2) h1 h2
   ·simp only[c2,ne_eq,not_false_eq_true,if_true]at h2⊢
    exact h2
  ·simp only[c1,ne_eq,not_false_eq_true,if_true]at h1
   by_cases c2:T.cmp y z=0
   ·have:=qkR y z c2
    subst this;simp only[c1,ne_eq,not_false_eq_true,if_true];exact h1
   ·simp only[c2,ne_eq,not_false_eq_true,if_true]at h2
    have h3:=t1 h1 h2;have c3:T.cmp x z≠0:=by omega
    simp only[c3,ne_eq,not_false_eq_true,if_true];exact h3
end
def tle(a b:T):Prop:=T.cmp a b<=0
theorem qpj(a:T):tle a a:=by
 have:=qjR a a;unfold tle;omega
theorem qey{a b c:T}(h1:tle a b)(h2:tle b c):tle a c:=by
 unfold tle at*
 by_cases c1:T.cmp a b=0
 ·rw[qkR a b c1];exact h2
 by_cases c2:T.cmp b c=0
 ·rw[<-qkR b c c2];exact h1
 have:=qAE a b c (by omega) (by omega);omega
theorem qmw{a b:T}(h1:tle a b)(h2:tle b a):a=b:=by
 have:=qjR a b;unfold tle at*
 exact qkR a b (by omega)
theorem qb9{a b:T}(h:¬T.cmp a b<0):tle b a:=by
 have:=qjR a b;unfold tle;omega
theorem qdJ{a b:T}(h:T.cmp a b<0):tle a b:=by unfold tle;omega
def Srt(l:List T):Prop:=l.Pairwise tle
theorem qxU{a b:List T}(h1:Srt a)(h2:Srt b)(h:a.Perm b):a=b:=List.Perm.eq_of_pairwise (fun _ _ _ _=>qmw) h1 h2 h
end Go.Proofs.Ytfiakfiocdfpbaa.VS
namespace Go.Proofs.Ytfiakfiocdfpbaa.VS
def ins(t:T):List T->List T
 | []=>[t]
 |x::r=>if T.cmp t x<0 then t::x::r else x::ins t r
def qcu:List T->List T->List T
 |acc,[]=>acc
 |acc,t::r=>qcu (ins t acc) r
def qee(l:List T):List T:=qcu [] l
theorem qir(t:T):∀l:List T,(ins t l).Perm (t::l)
 | []=> .refl _
 |x::r=>by
  simp only[ins];split
  ·exact .refl _
  ·exact((qir t r).cons x).trans (.swap t x r)
theorem qvp(t:T):∀l:List T,Srt l->Srt (ins t l)
 | [],_=>List.pairwise_singleton _ _
 |x::r,h=>by
  have h':=List.pairwise_cons.1 h;simp only[ins];split
  ·rename_i hlt
   refine List.pairwise_cons.2 ⟨fun y hy=> ?_,h⟩;rcases List.mem_cons.1 hy with rfl|hy
   ·exact qdJ hlt
   ·exact qey (qdJ hlt) (h'.1 y hy)
  ·rename_i hlt
   refine List.pairwise_cons.2 ⟨fun y hy=> ?_,qvp t r h'.2⟩;have:=(qir t r).mem_iff.1 hy;rcases List.mem_cons.1 this with rfl|hy
   ·exact qb9 hlt
   ·exact h'.1 y hy
theorem qhY:∀(l acc:List T),(qcu acc l).Perm (acc++l)
 | [],acc=>by simp[qcu]
 |t::r,acc=>by
  simp only[qcu];refine(qhY r _).trans ?_;refine((qir t acc).append_right r).trans ?_;exact List.perm_middle.symm
theorem qjy:∀(l acc:List T),Srt acc->Srt (qcu acc l)
 | [],acc,h=>h
 |t::r,acc,h=>by
  simp only[qcu];exact qjy r _ (qvp t acc h)
theorem qdS(l:List T):(qee l).Perm l:=qhY l []
theorem qvo(l:List T):Srt (qee l):=qjy l [] List.Pairwise.nil
theorem qqa{l l':List T}(h:l'.Perm l)(hs:Srt l'):l'=qee l:=qxU hs (qvo l) (h.trans (qdS l).symm)
theorem qdC:∀(a acc b:List T),qcu acc (a++b)=qcu (qcu acc a) b
 | [],acc,b=>rfl
 |t::r,acc,b=>by simp only[List.cons_append,qcu];exact qdC r _ b
def qpb(s:List SymL)(f:Int)(k:T):List T:=if(qa9 s f&&k.f==f)=true then k.kids else [k]
def flatK(s:List SymL)(f:Int)(l:List T):List T:=l.flatMap (qpb s f)
mutual
def T.norm(s:List SymL):T->T
 | .node f v ks=> .node f v (if qa9 s f=true then qee (flatK s f (T.norms s ks))else flatK s f (T.norms s ks))
def T.norms(s:List SymL):List T->List T
 | []=>[]
 |t::r=>t.norm s::T.norms s r
end
theorem T.norms_map(s:List SymL):∀l:List T,T.norms s l=l.map (T.norm s)
 | []=>by simp[T.norms]
 |t::r=>by simp[T.norms,T.norms_map s r]
theorem qAk(s:List SymL)(t:T):(t.norm s).f=t.f:=by cases t;simp[T.norm]
theorem qAj(s:List SymL)(t:T):(t.norm s).v=t.v:=by cases t;simp[T.norm]
theorem qjQ(a b:List T):qdE (a++b)=qdE a+qdE b:=by unfold qdE;rw[qef,List.length_append];omega
theorem qgG{a b:List T}(h:a.Perm b):qdE a=qdE b:=by
 induction h with
 |nil=>rfl
 |cons x _ ih=>rw[qb3,qb3,ih]
 |swap x y l=>rw[qb3,qb3,qb3,qb3];omega
 |trans _ _ h1 h2=>rw[h1,h2]
theorem qwp(s:List SymL)(f:Int)(k:T):qdE (qpb s f k)<=k.inner+1:=by
 unfold qpb;split
 ·rw[qjP];omega
 ·rw[qb3];simp[qdE,T.inners]
theorem qfl(s:List SymL)(f:Int)(k:T)(l:List T):flatK s f (k::l)=qpb s f k++flatK s f l:=rfl
theorem qnu(s:List SymL)(f:Int)(a b:List T):flatK s f (a++b)=flatK s f a++flatK s f b:=by unfold flatK;simp
theorem qfp(s:List SymL)(f:Int):∀l:List T,qdE (flatK s f l)<=qdE l
 | []=>by simp[flatK,qdE,T.inners]
 |k::l=>by
  rw[qfl,qjQ,qb3];have:=qwp s f k;have:=qfp s f l;omega
theorem T.qfs(f v:Int)(ks:List T):(T.node f v ks).inner=qdE ks:=by simp[T.inner,qdE]
mutual
theorem qfi(s:List SymL):∀t:T,(t.norm s).inner<=t.inner
 | .node f v ks=>by
  have h:=qfo s ks;have h2:=qfp s f (T.norms s ks);simp only[T.norm,T.qfs];split
  ·rw[qgG (qdS _)];omega
  ·omega
theorem qfo(s:List SymL):∀l:List T,qdE (T.norms s l)<=qdE l
 | []=>by simp[T.norms]
 |t::r=>by
  have h1:=qfi s t;have h2:=qfo s r;simp only[T.norms,qb3];omega
end
theorem qdh{l:List T}{t:T}(h:t∈l):t.inner<=qdE l:=by have:=T.qaG h;unfold qdE;omega
theorem qdu(l:List T):l.length<=qdE l:=by unfold qdE;omega
def qqG(s:List SymL)(f:Int)(ks:List T)(i:Nat):List T:=flatK s f ((ks.take i).map (T.norm s))
theorem qnT(s:List SymL)(f:Int)(ks:List T):qqG s f ks 0=[]:=by simp[qqG,flatK]
theorem qnU(s:List SymL)(f:Int)(ks:List T)(i:Nat)(h:i<ks.length):qqG s f ks (i+1)=qqG s f ks i++qpb s f ((tAt ks i).norm s):=by
 unfold qqG;rw[qiH ks i h,List.map_append,qnu];simp[flatK]
theorem qqF(s:List SymL)(f:Int)(ks:List T):qqG s f ks ks.length=flatK s f (T.norms s ks):=by
 unfold qqG;rw[List.take_length,T.norms_map]
theorem qnV(s:List SymL)(f:Int)(ks:List T)(i:Nat):qdE (qqG s f ks i)<=qdE ks:=by
 unfold qqG;have h1:=qfp s f ((ks.take i).map (T.norm s));rw[<-T.norms_map]at h1⊢
 have h2:=qfo s (ks.take i);have h3:=qCR ks i;omega
theorem qAp(t:T):∀(l:List T) (j:Nat),j<=l.length->(∀i,i<j->¬T.cmp t (tAt l i)<0)->(j<l.length->T.cmp t (tAt l j)<0)->ins t l=l.take j++t::l.drop j
 | [],j,hj,_,_=>by simp at hj;subst hj;rfl
 |x::r,0,hj,h1,h2=>by
  have:=h2 (by simp);simp only[tAt,List.getElem?_cons_zero,Option.getD_some]at this;simp[ins,this]
 |x::r,j+1,hj,h1,h2=>by
  have h0:=h1 0 (by omega);simp only[tAt,List.getElem?_cons_zero,Option.getD_some]at h0;have:=qAp t r j (by simpa using hj) (fun i hi=>by simpa[tAt]using h1 (i+1) (by omega)) (fun h=>by simpa[tAt]using h2 (by simpa using h));simp[ins,h0,this]
end Go.Proofs.Ytfiakfiocdfpbaa.VS
namespace Go.Proofs.Ytfiakfiocdfpbaa.VS
theorem qwR(a c:List T)(g:Tag)(h:(a.length+c.length)*40<=140737488355328):qbG 3 40 (.sl U (a.map (T.enc U))) (.sl g (c.map (T.enc U)))=some (.sl U ((a++c).map (T.enc U))):=by
 have h1:(c.map (T.enc U)).all (fun e=>decide (e.cells.length=3/\e.cells.all DV.isCell=true))=true:=by
  simp[qaa,qaj]
 have h2:(a.map (T.enc U)).all (fun e=>decide (e.cells.length=3))=true:=by simp
 unfold qbG;simp only;rw[if_pos h1];cases c with
 |nil=>simp
 |cons x r=>
  simp only[List.map_cons,List.isEmpty_cons,Bool.false_eq_true,if_false];rw[if_pos ⟨by simpa using h,trivial,h2⟩];simp
theorem qtT(xs:List DV)(m:Nat):qch xs 0 m=(xs.take m).map DV.clr++xs.drop m:=by
 unfold qch;simp[DV.qaq]
def putAt(t:T)(l:List T):Nat:=match qaY (fun i=>decide (T.cmp t (tAt l i)<0)) l.length 0 with
 |some j=>j
 |none=>l.length
theorem qfI(q:Nat->Bool):∀(k i:Nat),(∀j,qaY q k i=some j->∀m,i<=m->m<j->q m=false)/\(qaY q k i=none->∀m,i<=m->m<i+k->q m=false)
 |0,i=>⟨fun j h=>by simp[qaY]at h,fun _ m h1 h2=>by omega⟩
 |k+1,i=>by
  have ih:=qfI q k (i+1);simp only[qaY]
  by_cases h:q i=true
  ·simp only[h,if_true]
   exact⟨fun j hj m h1 h2=>by simp at hj;omega,fun h=>by simp at h⟩
  ·simp only[h,Bool.false_eq_true,if_false]
   refine⟨fun j hj m h1 h2=> ?_,fun hn m h1 h2=> ?_⟩
   ·by_cases e:m=i
    ·subst e;simpa using h
    ·exact ih.1 j hj m (by omega) h2
   ·by_cases e:m=i
    ·subst e;simpa using h
    ·exact ih.2 hn m (by omega) (by omega)
theorem qpV(t:T)(l:List T):putAt t l<=l.length:=by
 unfold putAt;split
 ·rename_i j h;have:=(qjG _ _ _ _ h).2.1;omega
 ·omega
theorem qu0(t:T)(l:List T):ins t l=l.take (putAt t l)++t::l.drop (putAt t l):=by
 have h:=qfI (fun i=>decide (T.cmp t (tAt l i)<0)) l.length 0;refine qAp t l _ (qpV t l) (fun i hi=> ?_) (fun hlt=> ?_)
 ·unfold putAt at hi
  split at hi
  ·rename_i j hj
   simpa using h.1 j hj i (by omega) hi
  ·rename_i hn
   simpa using h.2 hn i (by omega) (by omega)
 ·unfold putAt at hlt⊢
  split
  ·rename_i j hj
   simpa using (qjG _ _ _ _ hj).2.2
  ·rename_i hn;rw[hn]at hlt;simp at hlt
theorem qp8(l:List T)(t:T)(hl:qdE l<=1099511627776)(ht:t.inner<=1099511627776)(x0 x1 x2 x3:Option (List AV)):qad XV 154 [.d (qao U l),.d (t.enc U)] [x0,x1,x2,x3]=some (.d (.sl U ((ins t l).map (T.enc U))),[x0,x1,x2,x3]):=by
 have hlen:=qdu l;have hlt:=qpV t l;have hb:∀i,i<l.length->qad XV 84 [.d (t.enc .sub),.d ((tAt l i).enc .sub)] []=some (.d (.bool (decide (T.cmp t (tAt l i)<0))),[]):=fun i hi=>qd4 t (tAt l i) ht (by have:=qdh (qaM hi);omega)
 rw[qaA XV _ _ _ qDp rfl qtd rfl];have h:=qaJ (X:=XV) (T:=XV.lin 154) (L:=5) (live:=[0,3,5]) (b:=qkX) (n:=l.length) (st:=fun(_:Unit) i=>⟨[(0,.d (qao U l)),(3,.ptr 4 0),(5,.d (.int .i64 i))],[x0,x1,x2,x3,some [.d (.int .i64 t.f),.d (.int .i64 t.v),.d (qao U t.kids)]]⟩) (step:=qev fun i=>decide (T.cmp t (tAt l i)<0))
  (F:=fun _=>(.exit 0,⟨[(0,.d (qao U l)),(3,.ptr 4 0),(5,.d (.int .i64 l.length)),(19,.d (.bool false))],[x0,x1,x2,x3,some [.d (.int .i64 t.f),.d (.int .i64 t.v),.d (qao U t.kids)]]⟩)) (R:=fun(j:Nat)=>(.exit 0,⟨[(0,.d (qao U l)),(3,.ptr 4 0),(5,.d (.int .i64 j)),(19,.d (.bool false))],[x0,x1,x2,x3,some [.d (.int .i64 t.f),.d (.int .i64 t.v),.d (qao U t.kids)]]⟩))
  (fun a=>⟨by simp,by simp[qkX,qm5,qm4,qwl,qpT,qm3,qm2,qm1]⟩)
  (fun a i hi=>by
   have hw:=qaw (n:=i) (by omega);have hc:=hb i hi;unfold qev
   by_cases hq:decide (T.cmp t (tAt l i)<0)=true
   ·rw[if_pos hq]
    rw[hq]at hc;exact⟨by simp,by simp[qkX,qm5,qm4,qwl,qpT,qm3,qm2,qm1,hi,hw,cut,qaD hi,hc,qae]⟩
   ·rw[if_neg hq]
    have hq':decide (T.cmp t (tAt l i)<0)=false:=by simpa using hq
    rw[hq']at hc;exact⟨⟨[(0,.d (qao U l)),(3,.ptr 4 0),(5,.d (.int .i64 (i+1:Nat)))],[x0,x1,x2,x3,some [.d (.int .i64 t.f),.d (.int .i64 t.v),.d (qao U t.kids)]]⟩,by simp[qkX,qm5,qm4,qwl,qpT,qm3,qm2,qm1,hi,hw,cut,qaD hi,hc,qae],by simp[qaf,qac]⟩)
  l.length () 0 ⟨[(0,.d (qao U l)),(3,.ptr 4 0),(5,.d (.int .i64 0))],[x0,x1,x2,x3,some [.d (.int .i64 t.f),.d (.int .i64 t.v),.d (qao U t.kids)]]⟩ (by omega) (by simp[qaf,qac])
 have h':qbq XV (XV.lin 154) 5 [0,3,5] qkX ⟨[(0,.d (qao U l)),(3,.ptr 4 0),(5,.d (.int .i64 0))],[x0,x1,x2,x3,some [.d (.int .i64 t.f),.d (.int .i64 t.v),.d (qao U t.kids)]]⟩=
  some (.exit 0,⟨[(0,.d (qao U l)),(3,.ptr 4 0),(5,.d (.int .i64 (putAt t l))),(19,.d (.bool false))],[x0,x1,x2,x3,some [.d (.int .i64 t.f),.d (.int .i64 t.v),.d (qao U t.kids)]]⟩):=by
  rw[h,qzz];unfold putAt;cases hq:qaY (fun i=>decide (T.cmp t (tAt l i)<0)) l.length 0<;>simp
 clear h;rw[qu0];generalize putAt t l=m at*
 have hm:¬((m:Int)<0):=by omega
 have a1:=qwR [] (l.take m) .sub (by simp;omega);have a2:=qwR (l.take m) [t] U (by simp;omega);have a3:=qwR (l.take m++[t]) (l.drop m) .sub (by simp;omega);have hall:(l.map (T.enc U)).all (fun e=>decide (e.cells.length=3))=true:=by simp
 have hrest:qch (l.map (T.enc U)) 0 m=(l.take m).map (T.enc .sub)++(l.drop m).map (T.enc U):=by rw[qtT,<-List.map_take,qcD,<-List.map_drop]
 have hall2:((l.take m).map (T.enc .sub)++(l.drop m).map (T.enc U)).all (fun e=>decide (e.cells.length=3))=true:=by
  have q:∀(l:List T) (g:Tag),(l.map (T.enc g)).all (fun e=>decide (e.cells.length=3))=true:=fun l g=>by simp
  rw[List.all_append,q,q];rfl
 have hlen2:((l.take m).map (T.enc .sub)++(l.drop m).map (T.enc U)).length=l.length:=by simp;omega
 have hd2:(((l.take m).map (T.enc .sub)++(l.drop m).map (T.enc U)).take l.length).drop m=(l.drop m).map (T.enc U):=by
  rw[List.take_of_length_le (by rw[hlen2];exact Nat.le_refl _),List.drop_append_of_le_length (by simp;omega),List.drop_of_length_le (by simp;omega)];rfl
 have ht2:(l.map (T.enc U)).take m=(l.take m).map (T.enc U):=List.map_take.symm;simp only[List.map_nil,List.nil_append,List.map_cons,List.map_append,List.append_assoc,List.cons_append]at a1 a2 a3⊢
 generalize hR:(l.take m).map (T.enc .sub)++(l.drop m).map (T.enc U)=R at*
 generalize hL1:(l.take m).map (T.enc U)=L1 at*
 generalize hL2:(l.drop m).map (T.enc U)=L2 at*
 generalize hL3:L1++[T.enc U t]=L3 at*
 generalize hL4:L1++T.enc U t::L2=L4 at*
 simp only[qCl]at h';simp[qDp,qm5,qm4,splice,qaa,qaj,qag,qax,qae];rw[h'];simp[qm3,qm2,qm1,hlt,hm,hall,hall2,hlen2,hrest,hd2,ht2,a1,a2,a3,qae,splice,AV.qaq]
end Go.Proofs.Ytfiakfiocdfpbaa.VS
namespace Go.Proofs.Ytfiakfiocdfpbaa.VS
def nM(s:List SymL)(t:T):DV:=(t.norm s).enc U
theorem qjF(s:List SymL)(f:Int)(h:¬qa9 s f=true):∀l:List T,flatK s f l=l
 | []=>rfl
 |k::l=>by
  rw[qfl,qjF s f h l];have h':qa9 s f=false:=by simpa using h
  simp[qpb,h']
def qw1(s:List SymL)(t:T):List DV:=(t.norm s).kids.map (T.enc U)
theorem qrC(s:List SymL)(t:T):nM s t= .agg [.int .i64 t.f,.int .i64 t.v,.sl U (qw1 s t)]:=by
 unfold nM qw1;rw[T.qcn,qAk,qAj]
theorem qy1(s:List SymL)(t:T):(qw1 s t).map DV.clr=(t.norm s).kids.map (T.enc .sub):=by unfold qw1;exact qcD _ _
theorem qqw(s:List SymL)(t:T):(nM s t).cells=[.int .i64 t.f,.int .i64 t.v,.sl U (qw1 s t)]:=by rw[qrC];rfl
theorem qGG(s:List SymL)(a:List T)(t:T)(h:a.length<=1099511627776):qbG 3 40 (.sl U (a.map (nM s))) (.sl U [nM s t])=some (.sl U (a.map (nM s)++[nM s t])):=by
 unfold qbG;simp only;rw[if_pos (by simp[qqw,qaa,qaj])];simp only[List.isEmpty_cons,Bool.false_eq_true,if_false];rw[if_pos ⟨by simp;omega,trivial,by simp[qqw]⟩]
def rowAt(s:List SymL)(f:Int)(ks:List T)(i:Nat):List DV:=if qa9 s f=true then(qee (qqG s f ks i)).map (T.enc U)else(ks.take i).map (nM s)
theorem rowAt_zero(s:List SymL)(f:Int)(ks:List T):rowAt s f ks 0=[]:=by unfold rowAt;rw[qnT];split<;>rfl
theorem norms_map(s:List SymL):∀l:List T,T.norms s l=l.map (T.norm s)
 | []=>by simp[T.norms]
 |t::r=>by simp[T.norms,norms_map s r]
theorem rowAt_all(s:List SymL)(f v:Int)(ks:List T):DV.agg [.int .i64 f,.int .i64 v,.sl U (rowAt s f ks ks.length)]=nM s (.node f v ks):=by
 rw[qrC];unfold rowAt qw1;rw[qqF,List.take_length];simp only[T.qdp,T.qet,T.norm]
 by_cases hb:qa9 s f=true
 ·simp only[hb,if_true,T.qaS]
 ·simp only[hb,Bool.false_eq_true,if_false,T.qaS]
  rw[qjF s f hb,norms_map,List.map_map];rfl
def nB3(f v:Int)(ks:List T)(R:List DV):qak:=[some [.d (.int .i64 f),.d (.int .i64 v),.d (qao .sub ks)],some [.d (.int .i64 0),.d (.int .i64 0),.d (.sl U [])],some [.d (.int .i64 f),.d (.int .i64 v),.d (.sl U R)]]
def qmf(l:List T)(j:Nat):List DV:=(l.take j).map (T.enc .sub)++(l.drop j).map (T.enc U)
theorem qx5(l:List T)(j:Nat)(h:j<=l.length):(qmf l j).length=l.length:=by unfold qmf;simp;omega
theorem qx6(l:List T)(j:Nat):(qmf l j).map DV.clr=l.map (T.enc .sub):=by
 unfold qmf;rw[List.map_append,qcD,qcD,<-List.map_append,List.take_append_drop]
theorem qBA(l:List T)(j:Nat)(h:j<l.length):(qmf l j)[j]?=some ((tAt l j).enc U):=by
 unfold qmf;rw[List.getElem?_append_right (by simp;omega),List.drop_eq_getElem_cons h,qaD h];simp[Nat.min_eq_left (Nat.le_of_lt h)]
theorem qx4(l:List T)(j:Nat)(h:j<l.length):(qmf l j).set j ((tAt l j).enc .sub)=qmf l (j+1):=by
 unfold qmf;have hm:((l.take j).map (T.enc .sub)).length=j:=by simp;omega
 rw[List.set_append_right _ _ (by rw[hm];exact Nat.le_refl _),hm,Nat.sub_self,List.drop_eq_getElem_cons h,qaD h,List.map_cons,List.set_cons_zero,qiH l j h,List.map_append,List.append_assoc,List.map_cons,List.map_nil];rfl
theorem qx7(l:List T):qmf l l.length=l.map (T.enc .sub):=by unfold qmf;simp
theorem qtP(l:List T):qmf l 0=l.map (T.enc U):=by unfold qmf;simp
theorem qxN(TT:List Nat)(d4:Nat)(s:XS)(b off:Nat)(cs:List AV)(g gt:Tag)(xs:List DV)(k:Nat)(t:T):qto TT d4 3 s b off cs g xs k (some (t.enc gt))=some (qbk TT ⟨s.r,s.B.set b (some (cs.set off (.d (.sl g (xs.set k (t.enc .sub))))))⟩ (some d4) (.d (t.enc gt))):=by
 rw[<-T.qe8 gt t,T.qcn];rfl
theorem qyG(s:List SymL)(hs:s.length<=1099511627776)(f v kf kv:Int)(ks l:List T)(i:Nat)(hl:l.length<=1099511627776):∀(k j:Nat),j+k=l.length->∀acc:List T,qdE acc+qdE (l.drop j)<=1099511627776->∀e:qak,
 qbq XV (XV.lin 153) 4 [0,3,4,5,6,7,8] qqB ⟨[(0,.d (sg s)),(3,.ptr 0 0),(4,.ptr 1 0),(5,.ptr 2 0),(6,.d (.int .i64 i)),(7,.ptr 3 0),(8,.d (.int .i64 j))],nB3 f v ks (acc.map (T.enc U))++[some [.d (.int .i64 kf),.d (.int .i64 kv),.d (.sl U (qmf l j))]]++e⟩=
  some (.exit 3,⟨[(0,.d (sg s)),(3,.ptr 0 0),(4,.ptr 1 0),(5,.ptr 2 0),(6,.d (.int .i64 i)),(7,.ptr 3 0),(8,.d (.int .i64 l.length)),(32,.d (.bool false))],nB3 f v ks ((qcu acc (l.drop j)).map (T.enc U))++[some [.d (.int .i64 kf),.d (.int .i64 kv),.d (.sl U (l.map (T.enc .sub)))]]⟩):=by
 have head:∀(x:Int) (A e:qak),A.length=4->qaf 4 [0,3,4,5,6,7,8] ⟨[(0,.d (sg s)),(3,.ptr 0 0),(4,.ptr 1 0),(5,.ptr 2 0),(6,.d (.int .i64 i)),(7,.ptr 3 0),(8,.d (.int .i64 x))],A++e⟩=some ⟨[(0,.d (sg s)),(3,.ptr 0 0),(4,.ptr 1 0),(5,.ptr 2 0),(6,.d (.int .i64 i)),(7,.ptr 3 0),(8,.d (.int .i64 x))],A⟩:=fun x A e hA=>
  qfj (by simp) (by simp[qac]) hA rfl
 intro k
 induction k with
 |zero=>
  intro j hj acc ha e;have:j=l.length:=by omega
  subst this;refine qaO (head _ _ e (by simp[nB3])) ?_ (by simp);rw[List.drop_length,qx7];simp only[qcu];simp[qqB,qf0,qfZ,qfY,qhW,qhU,qeN,qeM,qeL,qeK,qhT,qhS,qjN,qhR,qhV,qea,nB3,qae]
 |succ k ih=>
  intro j hj acc ha e;have hlt:j<l.length:=by omega
  have hm:=qaM hlt;have h1:=qdh hm;have hd:l.drop j=tAt l j::l.drop (j+1):=by rw[List.drop_eq_getElem_cons hlt,qaD hlt]
  have hw:=qaw (n:=j) (by omega);have r1:=qx5 l j (by omega);have r2:=qx6 l j;have r3:∀h:j<(qmf l j).length,(qmf l j)[j]'h=(tAt l j).enc U:=fun h=>(List.getElem?_eq_some_iff.1 (qBA l j hlt)).2
  have r4:=qx4 l j hlt;rw[hd,qb3]at ha;have hp:=qp8 acc (tAt l j) (by omega) (by omega);rw[hd];simp only[qcu];rw[<-ih (j+1) (by omega) (ins (tAt l j) acc) (by rw[qgG (qir _ _),qb3];omega) []];refine qbp (head _ _ e (by simp[nB3])) ?_;generalize qmf l (j+1)=R1 at*
  generalize qmf l j=R0 at*
  simp[qqB,qf0,qfZ,qfY,qhW,qhU,qeN,qeM,qeL,qeK,qhT,qhS,qjN,qhR,qhV,qea,nB3,hlt,hw,cut,qaD hlt,hp,r1,r2,r3,r4,qxN,qan,VX.linT,splice,qaa,qaj,qag,qax,qae]
theorem qFN(s:List SymL)(hs:s.length<=1099511627776)(f v:Int)(ks:List T)(hl:qdE ks<=1099511627776)(i:Nat)(hi:i<ks.length)
 (hc:qad XV 153 [.d (sg s),.d ((tAt ks i).enc .sub)] []=some (.d (nM s (tAt ks i)),[])):
 ∃e:qak,qau XV (XV.lin 153) qic ⟨[(0,.d (sg s)),(3,.ptr 0 0),(4,.ptr 1 0),(5,.ptr 2 0),(6,.d (.int .i64 i))],nB3 f v ks (rowAt s f ks i)⟩=
  some (.normal,⟨[(0,.d (sg s)),(3,.ptr 0 0),(4,.ptr 1 0),(5,.ptr 2 0),(6,.d (.int .i64 (i+1:Nat)))],nB3 f v ks (rowAt s f ks (i+1))++e⟩):=by
 have hlen:=qdu ks;have hw:=qaw (n:=i) (by omega);have hb:=qhB s hs f;have ht:=qaD hi;have hm:=qdh (qaM hi);have hin:=qfi s (tAt ks i);have hac:=qnU s f ks i hi;have hcn:=qnV s f ks (i+1);have htk:=qiH ks i hi;have hM:=qy1 s (tAt ks i);have hnf:=qAk s (tAt ks i);have hnv:=qAj s (tAt ks i);have happ:=qGG s (ks.take i) (tAt ks i) (by simp;omega);rw[hac,qjQ]at hcn;unfold rowAt;rw[hac,htk];rw[qrC]at hc happ;generalize hk:tAt ks i=k at*
 generalize hr:qqG s f ks i=acc at*
 have hXu:qw1 s k=(k.norm s).kids.map (T.enc U):=rfl;generalize hX:qw1 s k=X at*
 by_cases h1:qa9 s f=true
 ·simp only[h1,if_true]
  by_cases h2:(k.f==f)=true
  ·have e1:qpb s f (k.norm s)=(k.norm s).kids:=by unfold qpb;rw[hnf,h1,h2];rfl
   rw[e1]at hcn⊢
   have hloop:=qyG s hs f v k.f k.v ks (k.norm s).kids i (by have:=qdu (k.norm s).kids;rw[qjP]at this;omega) (k.norm s).kids.length 0 (by omega) (qee acc) (by rw[qgG (qdS acc),List.drop_zero];omega) [];rw[List.drop_zero,qtP,show qcu (qee acc) (k.norm s).kids=qee (acc++(k.norm s).kids)from by unfold qee;rw[qdC]]at hloop;refine⟨[some [.d (.int .i64 k.f),.d (.int .i64 k.v),.d (.sl U ((k.norm s).kids.map (T.enc .sub)))]],?_⟩;have h2n:(k.f !=f)=false:=by simpa using h2
   rw[<-hXu]at hloop;generalize (qee (acc++(k.norm s).kids)).map (T.enc U)=R2 at*
   generalize (qee acc).map (T.enc U)=R1 at*
   generalize (k.norm s).kids=l at*
   simp only[nB3,qve,Int.natCast_zero,List.cons_append,List.nil_append,List.append_nil]at hloop⊢
   simp[qic,qf0,qfZ,qfY,qhW,qhU,qeN,qeM,qeL,qeK,qhT,qhS,qjN,qhR,qhV,qea,hi,hw,cut,ht,hc,hb,h1,h2n,hM,splice,qaa,qaj,qag,qax,qae,AV.qaq];rw[hloop];simp[qic,qf0,qfZ,qfY,qhW,qhU,qeN,qeM,qeL,qeK,qhT,qhS,qjN,qhR,qhV,qea,hw]
  ·have h2':(k.f==f)=false:=by simpa using h2
   have h2n:(k.f !=f)=true:=by simpa using h2
   have e1:qpb s f (k.norm s)=[k.norm s]:=by unfold qpb;rw[hnf,h1,h2'];rfl
   rw[e1]at hcn⊢
   rw[show qee (acc++[k.norm s])=ins (k.norm s) (qee acc)from by unfold qee;rw[qdC];rfl];have hp:=qp8 (qee acc) (k.norm s) (by rw[qgG (qdS acc)];omega) (by omega);have hke:(k.norm s).enc U= .agg [.int .i64 k.f,.int .i64 k.v,.sl U X]:=by rw[T.qcn,hnf,hnv,hXu]
   simp only[hke]at hp;refine⟨[some [.d (.int .i64 k.f),.d (.int .i64 k.v),.d (qao .sub (k.norm s).kids)]],?_⟩;generalize ins (k.norm s) (qee acc)=R2 at*
   generalize qee acc=R1 at*
   generalize (k.norm s).kids=l at*
   simp[qic,qf0,qfZ,qfY,qhW,qhU,qeN,qeM,qeL,qeK,qhT,qhS,qjN,qhR,qhV,qea,nB3,hi,hw,cut,ht,hc,hb,h1,h2n,hM,hp,qan,VX.linT,splice,qaa,qaj,qag,qax,qae,AV.qaq]
 ·have h1':qa9 s f=false:=by simpa using h1
  simp only[h1',Bool.false_eq_true,if_false];refine⟨[some [.d (.int .i64 k.f),.d (.int .i64 k.v),.d (qao .sub (k.norm s).kids)]],?_⟩;rw[List.map_append,List.map_cons,List.map_nil,qrC,hX];generalize hR2:(ks.take i).map (nM s)++[.agg [.int .i64 k.f,.int .i64 k.v,.sl U X]]=R2 at*
  generalize (ks.take i).map (nM s)=R1 at*
  generalize (k.norm s).kids=l at*
  simp[qic,qf0,qfZ,qfY,qhW,qhU,qeN,qeM,qeL,qeK,qhT,qhS,qjN,qhR,qhV,qea,nB3,hi,hw,cut,ht,hc,hb,h1',happ,hM,splice,qaa,qaj,qag,qax,qae,AV.qaq]
end Go.Proofs.Ytfiakfiocdfpbaa.VS
namespace Go.Proofs.Ytfiakfiocdfpbaa.VS
theorem qCb(s:List SymL)(hs:s.length<=1099511627776)(f v:Int)(ks:List T)(hl:qdE ks<=1099511627776)
 (hc:∀t,t∈ks->qad XV 153 [.d (sg s),.d (t.enc .sub)] []=some (.d (nM s t),[])):∀(k i:Nat),i+k=ks.length->∀e:qak,
 qbq XV (XV.lin 153) 3 [0,3,4,5,6] qic ⟨[(0,.d (sg s)),(3,.ptr 0 0),(4,.ptr 1 0),(5,.ptr 2 0),(6,.d (.int .i64 i))],nB3 f v ks (rowAt s f ks i)++e⟩=
  some (.exit 0,⟨[(0,.d (sg s)),(3,.ptr 0 0),(4,.ptr 1 0),(5,.ptr 2 0),(6,.d (.int .i64 ks.length)),(18,.d (.bool false))],nB3 f v ks (rowAt s f ks ks.length)⟩):=by
 have head:∀(x:Int) (A e:qak),A.length=3->qaf 3 [0,3,4,5,6] ⟨[(0,.d (sg s)),(3,.ptr 0 0),(4,.ptr 1 0),(5,.ptr 2 0),(6,.d (.int .i64 x))],A++e⟩=some ⟨[(0,.d (sg s)),(3,.ptr 0 0),(4,.ptr 1 0),(5,.ptr 2 0),(6,.d (.int .i64 x))],A⟩:=fun x A e hA=>
  qfj (by simp) (by simp[qac]) hA rfl
 intro k
 induction k with
 |zero=>
  intro i hi e;have:i=ks.length:=by omega
  subst this;refine qaO (head _ _ e (by simp[nB3])) ?_ (by simp);generalize rowAt s f ks ks.length=R;simp[qic,qf0,qfZ,qfY,qhW,qhU,qeN,qeM,qeL,qeK,qhT,qhS,qjN,qhR,qhV,qea,nB3,qae]
 |succ k ih=>
  intro i hi e;have hlt:i<ks.length:=by omega
  obtain⟨e',he⟩:=qFN s hs f v ks hl i hlt (hc _ (qaM hlt));rw[<-ih (i+1) (by omega) e'];exact qbp (head _ _ e (by simp[nB3])) he
theorem qon(s:List SymL)(hs:s.length<=1099511627776)(f v:Int)(ks:List T)(hl:qdE ks<=1099511627776)
 (hc:∀t,t∈ks->qad XV 153 [.d (sg s),.d (t.enc .sub)] []=some (.d (nM s t),[])):
 qad XV 153 [.d (sg s),.d ((T.node f v ks).enc .sub)] []=some (.d (nM s (.node f v ks)),[]):=by
 rw[qaA XV _ _ _ qDq rfl qte rfl];have hloop:=qCb s hs f v ks hl hc ks.length 0 (by omega) [];rw[<-rowAt_all];simp only[rowAt_zero,List.append_nil,qve,nB3,Int.natCast_zero]at hloop;generalize rowAt s f ks ks.length=R at*
 simp[qDq,qf0,qfZ,qfY,splice,qaa,qaj,qag,qax,qae,AV.qaq];rw[hloop];simp[qea,splice,qaa,qaj,qag,qax,qae,AV.qaq]
theorem qiL(s:List SymL)(hs:s.length<=1099511627776)(t:T)(ht:t.inner<=1099511627776):qad XV 153 [.d (sg s),.d (t.enc .sub)] []=some (.d (nM s t),[]):=by
 match t,ht with
 | .node f v ks,ht=>
  rw[T.qfs]at ht;exact qon s hs f v ks ht fun x hx=>qiL s hs x (by have:=qdh hx;omega)
termination_by t
decreasing_by
 simp_wf
 have:=List.sizeOf_lt_of_mem hx;omega
end Go.Proofs.Ytfiakfiocdfpbaa.VS
namespace Go.Proofs.Ytfiakfiocdfpbaa.VS
def dst(n:Int)(neg:Bool)(s:ByteArray):XS:=⟨[(0,.d (.int .i64 n)),(3,.d (.bool neg)),(4,.d (.str s))],[]⟩
end Go.Proofs.Ytfiakfiocdfpbaa.VS
namespace Go.Proofs.Ytfiakfiocdfpbaa.VS
end Go.Proofs.Ytfiakfiocdfpbaa.VS
namespace Go.Proofs.Ytfiakfiocdfpbaa.VS
end Go.Proofs.Ytfiakfiocdfpbaa.VS
namespace Go.Proofs.Ytfiakfiocdfpbaa.VS
def qfO:List SymL:=[⟨⟨#[116,116]⟩,0,false⟩,⟨⟨#[97]⟩,0,false⟩,⟨⟨#[98]⟩,0,false⟩,⟨⟨#[103]⟩,1,false⟩,⟨⟨#[104]⟩,2,false⟩,⟨⟨#[102]⟩,2,true⟩,⟨⟨#[107]⟩,2,true⟩]
theorem qlR:qad XV 155 [] []=some (.d (.sl U (qfO.map SymL.enc)),[]):=by
 rw[qaA XV _ _ _ qDo rfl qtc rfl];simp[qDo,qz9,qz8,qfO,qaC,List.replicate,splice]
structure SigD(l:List SymL):Prop where
 len:l.length<=9
 sym:∀s,s∈l->s.name.size<=9/\-1<=s.arity/\s.arity<=4
theorem SigD.ok{l:List SymL}(h:SigD l):∀s,s∈l->s.ok:=fun s hs=>by
 obtain⟨h1,h2,h3⟩:=h.sym s hs;exact⟨by unfold maxLen;omega,by omega,by omega⟩
theorem SigD.nm{l:List SymL}(h:SigD l)(n:Nat)(hn:9<=n):∀i,i<l.length->(qaB l i).name.size<=n:=fun i hi=>by
 have:=(h.sym _ (qmz hi)).1;omega
theorem qCn(x y:Int)(r:DV):(DV.int .u8 x).like r=(DV.int .u8 y).like r:=by cases r<;>rfl
theorem qyM(bs:List Int):(bs.map (DV.int .u8)).flatMap DV.cells=bs.map (DV.int .u8):=by
 induction bs with
 |nil=>rfl
 |cons b r ih=>simp only[List.map_cons,List.flatMap_cons,ih,DV.cells,List.singleton_append]
theorem qhu(rs:List DV):∀bs:List Int,DV.xrests rs (bs.map (.int .u8))=true
 | []=>by simp[DV.xrests]
 |b::r=>by simp[DV.xrests,DV.xrest,qhu rs r]
theorem qn7(rs:List DV)(h:rs.all (fun r=> !(DV.int .u8 0).like r)=true)(bs:List Int):DV.xrest rs (.sl .sub (bs.map (.int .u8)))=true:=by
 simp only[DV.xrest,qhu,Bool.and_true,qyM];cases bs with
 |nil=>rfl
 |cons b r=>
  have:(rs.all fun r=> !(DV.int .u8 b).like r)=true:=by
   rw[<-h];congr 1;funext r;rw[qCn b 0]
  simp[this]
theorem qe9(rs:List DV)(h:rs.all (fun r=> !(DV.int .u8 0).like r)=true)(bs:List Int)(pos st:Int):qbs rs (qbf bs pos st)=true:=by
 simp only[qbs,qbf,List.all_cons,List.all_nil,AV.xrest];rw[qn7 rs h bs];simp only[DV.xrest,Bool.and_self]
@[simp] theorem qFR(s:SymL):qa8 s.enc=true:=rfl
@[simp] theorem qDP(rs:List DV)(s:SymL):DV.xrest rs s.enc=true:=by
 show DV.xrest rs (.agg [.str s.name,.int .i64 s.arity,.bool s.ac])=true;simp only[DV.xrest,DV.xrests,Bool.and_self]
theorem qcV(bs:List Int)(pos st:Int):AV.clrs (qbf bs pos st)=qbf bs pos st:=by simp[qbf]
def sc7:List AV:=[.d (.str ⟨#[116,116]⟩),.d (.int .i64 0),.d (.bool false),.d (.str ⟨#[97]⟩),.d (.int .i64 0),.d (.bool false),.d (.str ⟨#[98]⟩),.d (.int .i64 0),.d (.bool false),.d (.str ⟨#[103]⟩),.d (.int .i64 1),.d (.bool false),.d (.str ⟨#[104]⟩),.d (.int .i64 2),.d (.bool false),.d (.str ⟨#[102]⟩),.d (.int .i64 2),.d (.bool true),.d (.str ⟨#[107]⟩),.d (.int .i64 2),.d (.bool true)]
theorem qlk{l:List SymL}(h:SigD l)(i:Nat)(s:SymL)(hs:s.name.size<=9/\-1<=s.arity/\s.arity<=4):SigD (l.set i s):=
 ⟨by rw[List.length_set];exact h.len,fun x hx=>by
  rcases List.mem_or_eq_of_mem_set hx with h1|h1
  ·exact h.sym x h1
  ·subst h1;exact hs⟩
theorem qhD:SigD qfO:=by
 refine⟨by decide,fun s hs=> ?_⟩;simp only[qfO,List.mem_cons,List.not_mem_nil,or_false]at hs;rcases hs with rfl|rfl|rfl|rfl|rfl|rfl|rfl<;>exact⟨by decide,by decide,by decide⟩
theorem qvj(bs:List Int)(hl:bs.length<=1099511627776)(pos st:Int)(hp:0<=pos/\pos<=bs.length):
 ∃(l:List SymL) (g:Tag) (pos' st':Int),SigD l/\(0<=pos'/\pos'<=bs.length)/\qad XV 195 [.ptr 0 0] [some (qbf bs pos st)]=some (.d (.sl g (l.map SymL.enc)),[some (qbf bs pos' st')]):=by
 have h0:qcf bs 0 [some (qbf bs pos st)]:=⟨pos,st,hp,rfl⟩;obtain⟨r,B1,hr,⟨pos1,st1,hp1,rfl⟩,hc⟩:=qca bs hl _ 0 h0 10 (by omega) (by omega);simp only[List.set_cons_zero]at hc;rw[qsD XV _ _ _ qsw rfl qs0 rfl (m:=1) rfl rfl];simp only[qho,qjT,qcV];have hsg:=qlR;have hs1:∀rs,rs.all (fun r=> !(DV.int .u8 0).like r)=true->qbs rs (qbf bs pos1 st1)=true:=fun rs h=>qe9 rs h bs pos1 st1
 have h1:∀C,qcf bs 0 [some (qbf bs pos1 st1),some C]:=fun C=>⟨pos1,st1,hp1,rfl⟩
 have h2:qcf bs 0 [some (qbf bs pos1 st1)]:=⟨pos1,st1,hp1,rfl⟩
 by_cases c0:r=0
 ·subst c0
  obtain⟨j,hj,B2,⟨pos2,st2,hp2,rfl⟩,hc2⟩:=qng bs hl _ 0 (h1 sc7) [⟨#[]⟩,⟨#[65]⟩,⟨#[116,116]⟩,⟨#[97,98,99,100,101,102,103,104,105]⟩,⟨#[49,97]⟩,⟨#[97,49]⟩] (by simp) (by simp);have hall:∀x:ByteArray,x∈([⟨#[]⟩,⟨#[65]⟩,⟨#[116,116]⟩,⟨#[97,98,99,100,101,102,103,104,105]⟩,⟨#[49,97]⟩,⟨#[97,49]⟩]:List ByteArray)->x.size<=9:=fun x hx=>by
   simp only[List.mem_cons,List.not_mem_nil,or_false]at hx;rcases hx with rfl|rfl|rfl|rfl|rfl|rfl<;>decide
  have hx:=hall _ (List.getElem_mem hj);generalize ([⟨#[]⟩,⟨#[65]⟩,⟨#[116,116]⟩,⟨#[97,98,99,100,101,102,103,104,105]⟩,⟨#[49,97]⟩,⟨#[97,49]⟩]:List ByteArray)[j]=nm at hc2 hx;refine⟨qfO.set 1 ⟨nm,0,false⟩,.sub,pos2,st2,qlk qhD 1 _ ⟨hx,by simp,by simp⟩,hp2,?_⟩;simp only[qfO,sc7,List.map_cons,List.map_nil,List.set_cons_zero]at hsg hc2⊢
  simp[qsw,qhN,qhM,qhL,qhK,qhJ,qhI,qhH,qhG,qhF,qhE,qeJ,qeI,qeH,qeG,qeF,qeE,hc,hsg,hs1,DV.like,hc2,qaC,List.replicate,splice,qdT,qag,qax,qac,qci,AV.frz,AV.frzC,qdw,chunks,cut,qaa,qdj]
 by_cases c1:r=1
 ·subst c1
  obtain⟨j,hj,B2,⟨pos2,st2,hp2,rfl⟩,hc2⟩:=qdv bs hl _ 0 (h1 sc7) [-1,3,4] (by simp) (by simp);have hall:∀x:Int,x∈([-1,3,4]:List Int)->-1<=x/\x<=4:=fun x hx=>by
   simp only[List.mem_cons,List.not_mem_nil,or_false]at hx;omega
  have hx:=hall _ (List.getElem_mem hj);generalize ([-1,3,4]:List Int)[j]=k at hc2 hx;refine⟨qfO.set 2 ⟨⟨#[98]⟩,k,false⟩,.sub,pos2,st2,qlk qhD 2 _ ⟨by simp[ByteArray.size],hx⟩,hp2,?_⟩;simp only[qfO,sc7,List.map_cons,List.map_nil,List.set_cons_zero]at hsg hc2⊢
  simp[qsw,qhN,qhM,qhL,qhK,qhJ,qhI,qhH,qhG,qhF,qhE,qeJ,qeI,qeH,qeG,qeF,qeE,hc,hsg,hs1,DV.like,hc2,qaC,List.replicate,splice,qdT,qag,qax,qac,qci,AV.frz,AV.frzC,qdw,chunks,cut,qaa,qdj]
 by_cases c2:r=2
 ·subst c2
  refine⟨qfO.set 3 ⟨⟨#[103]⟩,1,true⟩,.sub,pos1,st1,qlk qhD 3 _ ⟨by decide,by simp,by simp⟩,hp1,?_⟩;simp only[qfO,List.map_cons,List.map_nil]at hsg⊢
  simp[qsw,qhN,qhM,qhL,qhK,qhJ,qhI,qhH,qhG,qhF,qhE,qeJ,qeI,qeH,qeG,qeF,qeE,hc,hsg,hs1,DV.like,qaC,List.replicate,splice,qdT,qag,qax,qac,qci,AV.frz,AV.frzC,qdw,chunks,cut,qaa,qdj]
 by_cases c3:r=3
 ·subst c3
  refine⟨qfO.drop 1,.sub,pos1,st1,⟨by decide,fun s hs=>qhD.sym s (List.mem_of_mem_drop hs)⟩,hp1,?_⟩;simp only[qfO,List.map_cons,List.map_nil]at hsg⊢
  simp[qsw,qhN,qhM,qhL,qhK,qhJ,qhI,qhH,qhG,qhF,qhE,qeJ,qeI,qeH,qeG,qeF,qeE,hc,hsg]
 by_cases c4:r=4
 ·subst c4
  obtain⟨r2,B2,hr2,⟨pos2,st2,hp2,rfl⟩,hc2⟩:=qca bs hl _ 0 h2 4 (by omega) (by omega);refine⟨qfO.take r2.toNat,.sub,pos2,st2,⟨by simp[qfO];omega,fun s hs=>qhD.sym s (List.mem_of_mem_take hs)⟩,hp2,?_⟩;simp only[List.set_cons_zero]at hc2;have hle:r2.toNat<=7:=by omega
  rw[List.map_take];simp only[qfO,List.map_cons,List.map_nil]at hsg⊢
  simp[qsw,qhN,qhM,qhL,qhK,qhJ,qhI,qhH,qhG,qhF,qhE,qeJ,qeI,qeH,qeG,qeF,qeE,hc,hsg,hc2,hr2.1,hle]
 by_cases c5:r=5
 ·subst c5
  obtain⟨j,hj,B2,⟨pos2,st2,hp2,rfl⟩,hc2⟩:=qng bs hl _ 0 h2 [⟨#[120,50]⟩,⟨#[120,49]⟩] (by simp) (by simp);have hall:∀x:ByteArray,x∈([⟨#[120,50]⟩,⟨#[120,49]⟩]:List ByteArray)->x.size<=9:=fun x hx=>by
   simp only[List.mem_cons,List.not_mem_nil,or_false]at hx;rcases hx with rfl|rfl<;>decide
  have hx:=hall _ (List.getElem_mem hj);generalize ([⟨#[120,50]⟩,⟨#[120,49]⟩]:List ByteArray)[j]=nm at hc2 hx;refine⟨qfO++[⟨⟨#[120,49]⟩,0,false⟩,⟨nm,0,false⟩],U,pos2,st2,⟨by simp[qfO],fun s hs=> ?_⟩,hp2,?_⟩
  ·rcases List.mem_append.1 hs with h|h
   ·exact qhD.sym s h
   ·simp only[List.mem_cons,List.not_mem_nil,or_false]at h
    rcases h with rfl|rfl
    ·exact⟨by decide,by simp,by simp⟩
    ·exact⟨hx,by simp,by simp⟩
  ·simp only[List.set_cons_zero]at hc2
   simp only[qfO,List.map_cons,List.map_nil]at hsg hc2⊢
   simp[qsw,qhN,qhM,qhL,qhK,qhJ,qhI,qhH,qhG,qhF,qhE,qeJ,qeI,qeH,qeG,qeF,qeE,hc,hsg,hc2,qaC,List.replicate,splice,qdT,qaa,qdj,qbG]
 ·refine⟨qfO,.sub,pos1,st1,qhD,hp1,?_⟩
  simp only[qfO,List.map_cons,List.map_nil]at hsg⊢
  have b:∀k:Int,r≠k->(r==k)=false:=fun k h=>by simpa using h
  simp[qsw,qhN,qhM,qhL,qhK,qhJ,qhI,qhH,qhG,qhF,qhE,qeJ,qeI,qeH,qeG,qeF,qeE,hc,hsg,b _ c0,b _ c1,b _ c2,b _ c3,b _ c4,b _ c5,qac,qci,AV.frz,AV.frzC]
end Go.Proofs.Ytfiakfiocdfpbaa.VS
namespace Go.Proofs.Ytfiakfiocdfpbaa.VS
mutual
def T.rng:T->Prop
 | .node _ v ks=>(-9223372036854775808<=v/\v<=9223372036854775807)/\T.rngs ks
def T.rngs:List T->Prop
 | []=>True
 |t::r=>t.rng/\T.rngs r
end
theorem T.qfr:∀l:List T,T.rngs l↔∀t,t∈l->t.rng
 | []=>by simp[T.rngs]
 |t::r=>by simp[T.rngs,T.qfr r]
end Go.Proofs.Ytfiakfiocdfpbaa.VS
namespace Go.Proofs.Ytfiakfiocdfpbaa.VS
theorem qcw{bs:List Int}{q:Nat}{B R B':qak}(hq:q<B.length)(h:qce bs q (B++R) B'):∃B1,qce bs q B B1/\B1.length=B.length/\B'=B1++R:=by
 obtain⟨pos,st,hp,rfl⟩:=h;exact⟨B.set q (some (qbf bs pos st)),⟨pos,st,hp,rfl⟩,by simp,by rw[List.set_append_left _ _ hq]⟩
theorem qcf.app{bs:List Int}{q:Nat}{B:qak}(h:qcf bs q B)(R:qak):qcf bs q (B++R):=by
 have hq:=h.lt;obtain⟨pos,st,hp,hb⟩:=h;exact⟨pos,st,hp,by have:=qc7 hb;simp[qa1,List.getElem?_append_left hq,this]⟩
theorem qjM(A:qak)(c:Option (List AV))(L:Nat)(h:A.length=L):(A++[c])[L]?=some c:=by subst h;simp
theorem qkN(A:qak)(c c':Option (List AV))(L:Nat)(h:A.length=L):(A++[c]).set L c'=A++[c']:=by subst h;simp
theorem qv7(A:qak)(c:Option (List AV))(L:Nat)(h:A.length=L):(A++[c]).take L=A:=by subst h;simp
theorem qlK(bs:List Int)(hl:bs.length<=1099511627776)(B:qak)(i:Nat)(h:qcf bs i B)(n:Int)(hn:0<n)(hn2:n<=256):∃(b:Bool) (B':qak),qce bs i B B'/\qad XV 162 [.ptr i 0,.d (.int .i64 n)] B=some (.d (.bool b),B'):=by
 obtain⟨r,B',hr,hT,hc⟩:=qca bs hl B i h n hn hn2;have hi:=h.lt;have hlen:=hT.len;have htake:List.take B.length B'=B':=List.take_of_length_le (by omega);refine⟨r==0,B',hT,?_⟩;rw[qaA XV _ _ _ qDj rfl qs7 rfl];simp[qDj,qzV,qzU,hc,htake,hi]
theorem qp9(f:Int)(ks:List T):qad XV 164 [.d (.int .i64 f),.d (qao .sub ks)] []=some (.d ((T.node f 0 ks).enc .sub),[]):=by
 rw[qaA XV _ _ _ qDh rfl qs5 rfl];simp[qDh,qzR,qzQ,splice,qaa,qaj,qag,qax,qae]
theorem qtq{n:Nat}(h:n<9223372036854775808):IntKind.i64.wrap (((n+1:Nat):Int)-1)=n:=by
 rw[show((n+1:Nat):Int)-1=n by omega];exact wrap_i64 (by omega) (by omega)
def qjw:VCode:=(.seq (.seq (.region false 0 [0,2,6,20] qmV) (.cond (.t 20) (.seq (.region false 0 [6] quK) .ret) .skip)) (.seq (.region false 0 [6] qpO) .ret))
def qo0:VCode:=(.seq (.region false 0 [0,1,2,6,7] qpN) (.seq (.region false 0 [0,1,2,6,7,8] qpM) (.seq (.seq (.region false 0 [0,1,2,6,7,8,39] qpL) (.cond (.t 39) (.region false 0 [6,7,8] qpK) .skip)) (.seq (.region false 0 [6] qpJ) .ret))))
def qhq:VCode:= .seq (.seq (.region false 0 [0,1,2,6,14] qkz) (.cond (.t 14) qjw .skip)) qo0
theorem qBn:qDg=⟨3,[.cell 6 true 3],.seq (.region false 1 [0,1,2,6] quL) qhq⟩:=rfl
theorem qqq(bs:List Int)(hl:bs.length<=1099511627776)(deep vars:Int)(hv:vars<=256)(B:qak)(q:Nat)(h:qcf bs q B)(L:Nat)(hL:B.length=L)(C:Option (List AV))(hC:C=some [.d (.int .i64 0),.d (.int .i64 0),.d (.sl U [])]):
 ∃(t:T) (g:Tag) (B':qak),(t.inner=0/\t.rng)/\qce bs q B B'/\B'.length=L/\
  qau XV (XV.lin 166) qjw ⟨[(0,.ptr q 0),(1,.d (.int .i64 deep)),(2,.d (.int .i64 vars)),(6,.ptr L 0),(14,.d (.bool true))],B++[C]⟩=
   some (.ret,⟨[(6,.ptr L 0)],B'++[some [.d (.int .i64 t.f),.d (.int .i64 t.v),.d (.sl g (t.kids.map (T.enc g)))]]⟩):=by
 subst hC;have hq:=h.lt;have leaf2:∀B1:qak,qce bs q B B1->B1.length=L->∃(t:T) (g:Tag) (B':qak),(t.inner=0/\t.rng)/\qce bs q B B'/\B'.length=L/\
  ∀b20:AV,qau XV (XV.lin 166) (.seq (.region false 0 [6] qpO) .ret) ⟨[(0,.ptr q 0),(2,.d (.int .i64 vars)),(6,.ptr L 0),(20,b20)],B1++[some [.d (.int .i64 0),.d (.int .i64 0),.d (.sl U [])]]⟩=
   some (.ret,⟨[(6,.ptr L 0)],B'++[some [.d (.int .i64 t.f),.d (.int .i64 t.v),.d (.sl g (t.kids.map (T.enc g)))]]⟩):=by
  intro B1 hT1 hL1;obtain⟨r,B2,hr,hT2,hc⟩:=qca bs hl _ q ((hT1.at hq).app [some [.d (.int .i64 0),.d (.int .i64 0),.d (.sl U [])]]) 2 (by omega) (by omega);obtain⟨B3,hT3,hL3,rfl⟩:=qcw (by omega) hT2;rw[hL1]at hL3;have hw:IntKind.i64.wrap (1+r)=1+r:=wrap_i64 (by omega) (by omega);refine⟨.node (1+r) 0 [],U,B3,by simp[T.inner,T.inners,T.rng,T.rngs],hT1.trans hT3,hL3,fun b20=> ?_⟩;simp[qpO,hc,hw,hL3,qjM,qkN,splice,qaa,qaj,qag,qax]
 by_cases hv0:0<vars
 ·obtain⟨b,B2,hT2,hc⟩:=qlK bs hl _ q (h.app [some [.d (.int .i64 0),.d (.int .i64 0),.d (.sl U [])]]) 2 (by omega) (by omega)
  obtain⟨B3,hT3,hL3,rfl⟩:=qcw hq hT2;cases b with
  |true=>
   obtain⟨r,B4,hr,hT4,hc4⟩:=qca bs hl _ q ((hT3.at hq).app [some [.d (.int .i64 0),.d (.int .i64 0),.d (.sl U [])]]) vars hv0 hv;obtain⟨B5,hT5,hL5,rfl⟩:=qcw (by omega) hT4;have hlv:=qyA r;rw[hL3,hL]at hL5;refine⟨.node (-1) r [],U,B5,by simp[T.inner,T.inners,T.rng,T.rngs];omega,hT3.trans hT5,hL5,?_⟩;simp[qjw,qmV,quK,hv0,hc,hc4,hlv,hL5,qjM,qkN,splice,qaa,qaj,qag,qax]
  |false=>
   obtain⟨t,g,B',h1,h2,h3,h4⟩:=leaf2 B3 hT3 (by omega);refine⟨t,g,B',h1,h2,h3,?_⟩;have h4':=h4 (.d (.bool false));simp only[qju]at h4';simp[qjw,qmV,hv0,hc];simpa using h4'
 ·obtain⟨t,g,B',h1,h2,h3,h4⟩:=leaf2 B (by
   obtain⟨pos,st,hp,hb⟩:=h;refine⟨pos,st,hp,?_⟩;apply List.ext_getElem?;intro j
   by_cases hj:q=j
   ·subst hj;rw[List.getElem?_set_self',qc7 hb];simp
   ·rw[List.getElem?_set_ne hj]) hL
  refine⟨t,g,B',h1,h2,h3,?_⟩;have h4':=h4 (.d (.bool false));simp only[qju]at h4';simp[qjw,qmV,hv0];simpa using h4'
theorem qiv(L:Nat)(B B':qak)(q:Nat)(deep vars:Int)(t:T)(g:Tag)(hq:q<B.length)(hL:B.length=L)(hL':B'.length=L)
 (h:qau XV (XV.lin 166) qhq ⟨[(0,.ptr q 0),(1,.d (.int .i64 deep)),(2,.d (.int .i64 vars)),(6,.ptr L 0)],B++[some [.d (.int .i64 0),.d (.int .i64 0),.d (.sl U [])]]⟩=
  some (.ret,⟨[(6,.ptr L 0)],B'++[some [.d (.int .i64 t.f),.d (.int .i64 t.v),.d (.sl g (t.kids.map (T.enc g)))]]⟩)):
 qad XV 166 [.ptr q 0,.d (.int .i64 deep),.d (.int .i64 vars)] B=some (.d (t.enc g),B'):=by
 rw[qaA XV _ _ _ qDg rfl qs3 rfl,qBn];simp only[qju]at h;obtain⟨f,v,ks⟩:=t;simp only[T.qdp,T.qet,T.qaS]at h;simp[quL,hL,qjM,qkN,hq];rw[h];simp[hL',qjM,qv7,qae]
theorem qfJ(bs:List Int)(hl:bs.length<=1099511627776):∀(d:Nat),d<=8->∀(vars:Int),vars<=256->∀(B:qak) (q:Nat),qcf bs q B->
 ∃(t:T) (g:Tag) (B':qak),(t.inner+2<=2^(d+1)/\t.rng)/\qce bs q B B'/\qad XV 166 [.ptr q 0,.d (.int .i64 d),.d (.int .i64 vars)] B=some (.d (t.enc g),B'):=by
 intro d
 induction d with
 |zero=>
  intro _ vars hv B q hs;obtain⟨t,g,B',h1,h2,h3,h4⟩:=qqq bs hl 0 vars hv B q hs B.length rfl _ rfl;refine⟨t,g,B',⟨by omega,h1.2⟩,h2,qiv B.length B B' q 0 vars t g hs.lt rfl h3 ?_⟩;simp only[qju]at h4⊢
  simp[qhq,qkz];rw[h4];simp
 |succ d ih=>
  intro hd vars hv B q hs;have hq:=hs.lt;obtain⟨b,B2,hT2,hc⟩:=qlK bs hl _ q (hs.app [some [.d (.int .i64 0),.d (.int .i64 0),.d (.sl U [])]]) 3 (by omega) (by omega);obtain⟨B3,hT3,hL3,rfl⟩:=qcw hq hT2;have hne:(((d+1:Nat):Int)==0)=false:=by simpa using (show¬(((d+1:Nat):Int)=0)by omega)
  cases b with
  |true=>
   obtain⟨t,g,B',h1,h2,h3,h4⟩:=qqq bs hl ((d+1:Nat):Int) vars hv B3 q (hT3.at hq) B.length hL3 _ rfl;refine⟨t,g,B',⟨by have:2^1<=2^(d+1+1):=Nat.pow_le_pow_right (by omega) (by omega);omega,h1.2⟩,hT3.trans h2,qiv B.length B B' q _ vars t g hq rfl h3 ?_⟩;simp only[qju]at h4⊢
   generalize ((d+1:Nat):Int)=D at*
   simp[qhq,qkz,hne,hc];rw[h4];simp
  |false=>
   obtain⟨j,hj,B4,hT4,hc4⟩:=qdv bs hl _ q ((hT3.at hq).app [some [.d (.int .i64 0),.d (.int .i64 0),.d (.sl U [])]]) [3,4,5,5,6] (by simp) (by simp);obtain⟨B5,hT5,hL5,rfl⟩:=qcw (by omega) hT4;generalize ([3,4,5,5,6]:List Int)[j]=f at hc4;obtain⟨t1,g1,B6,hi1,hT6,hc6⟩:=ih (by omega) vars hv _ q ((hT5.at (by omega)).app [some [.d (.int .i64 0),.d (.int .i64 0),.d (.sl U [])]]);obtain⟨B7,hT7,hL7,rfl⟩:=qcw (by omega) hT6;have hw:=qtq (n:=d) (by omega)
   by_cases hf:3<f
   ·obtain⟨t2,g2,B8,hi2,hT8,hc8⟩:=ih (by omega) vars hv _ q ((hT7.at (by omega)).app [some [.d (.int .i64 0),.d (.int .i64 0),.d (.sl U [])]])
    obtain⟨B9,hT9,hL9,rfl⟩:=qcw (by omega) hT8;have hof:qad XV 164 [.d (.int .i64 f),.d (.sl .sub [t1.enc .sub,t2.enc .sub])] []=some (.d (.agg [.int .i64 f,.int .i64 0,.sl .sub [t1.enc .sub,t2.enc .sub]]),[]):=by
     have:=qp9 f [t1,t2];rw[T.qcn]at this;exact this
    refine⟨.node f 0 [t1,t2],.sub,B9,⟨by simp only[T.inner,T.inners,List.length_cons,List.length_nil];rw[Nat.pow_succ];omega,by simp[T.rng,T.rngs,hi1.2,hi2.2]⟩,hT3.trans (hT5.trans (hT7.trans hT9)),qiv B.length B B9 q _ vars _ .sub hq rfl (by omega) ?_⟩;have e9:B9.length=B.length:=by omega
    have e7:B7.length=B.length:=by omega
    have e5:B5.length=B.length:=by omega
    simp only[List.map_cons,List.map_nil]at hc4;generalize ((d+1:Nat):Int)=D at*
    generalize (d:Int)=D0 at*
    simp[qhq,qo0,qkz,qpN,qpM,qpL,qpK,qpJ,hne,hc,hc4,hw,hc6,hf,hc8,hof,e9,qaC,List.replicate,qjM,qkN,splice,qaa,qaj,qag,qax,qbG]
   ·have hof:qad XV 164 [.d (.int .i64 f),.d (.sl .sub [t1.enc .sub])] []=some (.d (.agg [.int .i64 f,.int .i64 0,.sl .sub [t1.enc .sub]]),[]):=by
     have:=qp9 f [t1];rw[T.qcn]at this;exact this
    refine⟨.node f 0 [t1],.sub,B7,⟨by simp only[T.inner,T.inners,List.length_cons,List.length_nil];rw[Nat.pow_succ];omega,by simp[T.rng,T.rngs,hi1.2]⟩,hT3.trans (hT5.trans hT7),qiv B.length B B7 q _ vars _ .sub hq rfl (by omega) ?_⟩;have e7:B7.length=B.length:=by omega
    have e5:B5.length=B.length:=by omega
    simp only[List.map_cons,List.map_nil]at hc4;generalize ((d+1:Nat):Int)=D at*
    generalize (d:Int)=D0 at*
    simp[qhq,qo0,qkz,qpN,qpM,qpL,qpK,qpJ,hne,hc,hc4,hw,hc6,hf,hof,e7,qaC,List.replicate,qjM,qkN,splice,qaa,qaj,qag,qax,qbG]
end Go.Proofs.Ytfiakfiocdfpbaa.VS
namespace Go.Proofs.Ytfiakfiocdfpbaa.VS
theorem qzj(s:List SymL)(f:Int)(k:T)(h:k.rng):T.rngs (qpb s f k):=by
 unfold qpb;split
 ·obtain⟨a,b,c⟩:=k;exact h.2
 ·exact⟨h,trivial⟩
theorem qlm{a b:List T}(h1:T.rngs a)(h2:T.rngs b):T.rngs (a++b):=by
 rw[T.qfr]at*
 intro t ht;rcases List.mem_append.1 ht with h|h
 ·exact h1 t h
 ·exact h2 t h
theorem qnt(s:List SymL)(f:Int):∀l:List T,T.rngs l->T.rngs (flatK s f l)
 | [],_=>by simp[flatK,T.rngs]
 |k::l,h=>by rw[qfl];exact qlm (qzj s f k h.1) (qnt s f l h.2)
mutual
theorem qp0(s:List SymL):∀t:T,t.rng->(t.norm s).rng
 | .node f v ks,h=>by
  have h2:=qnt s f _ (qna s ks h.2);simp only[T.norm];split
  ·refine⟨h.1,?_⟩
   rw[T.qfr]at h2⊢
   exact fun t ht=>h2 t ((qdS _).mem_iff.1 ht)
  ·exact⟨h.1,h2⟩
theorem qna(s:List SymL):∀l:List T,T.rngs l->T.rngs (T.norms s l)
 | [],_=>trivial
 |t::r,h=>⟨qp0 s t h.1,qna s r h.2⟩
end
theorem qnA(bs:List Int)(hl:bs.length<=1099511627776)(vars:Int)(hv:vars<=256)(B:qak)(q:Nat)(h:qcf bs q B):
 ∃(t:T) (B':qak),(t.inner<=6/\t.rng)/\(∃u,t=T.norm qfO u)/\qce bs q B B'/\qad XV 163 [.ptr q 0,.d (.int .i64 vars)] B=some (.d (t.enc U),B'):=by
 have hq:=h.lt;obtain⟨t,g,B1,hi,hT,hc⟩:=qfJ bs hl 2 (by omega) vars hv _ q (h.app [some [.d (.int .i64 0),.d (.int .i64 0),.d (.sl U [])]]);obtain⟨B2,hT2,hL2,rfl⟩:=qcw hq hT;have hn:=qiL qfO (by decide) t (by omega);have hin:=qfi qfO t;refine⟨t.norm qfO,B2,⟨by omega,qp0 qfO t hi.2⟩,⟨t,rfl⟩,hT2,?_⟩;rw[qaA XV _ _ _ qDi rfl qs6 rfl];have hsg:=qlR;rw[qrC]at hn;have e:(t.norm qfO).enc U= .agg [.int .i64 t.f,.int .i64 t.v,.sl U (qw1 qfO t)]:=by rw[<-qrC];rfl
 rw[e];generalize qw1 qfO t=X at*
 have hc':qad XV 166 [AV.ptr q 0,AV.d (DV.int IntKind.i64 2),AV.d (DV.int IntKind.i64 vars)] (B++[some [AV.d (DV.int IntKind.i64 0),AV.d (DV.int IntKind.i64 0),AV.d (DV.sl U [])]])=some (AV.d (t.enc g),B2++[some [AV.d (DV.int IntKind.i64 0),AV.d (DV.int IntKind.i64 0),AV.d (DV.sl U [])]]):=hc;simp[qDi,qzT,qzS,hq,hsg,hc',hn,hL2,qjM,qkN,qv7,qae,splice,qaa,qaj,qag,qax]
end Go.Proofs.Ytfiakfiocdfpbaa.VS
namespace Go.Proofs.Ytfiakfiocdfpbaa.VS
def fc(l:List T):List DV:=l.flatMap fun t=>(t.enc U).cells
def fcs(l:List T):List DV:=l.flatMap fun t=>(t.enc .sub).cells
theorem qI0(l:List T):(l.map (T.enc U)).flatMap DV.cells=fc l:=by unfold fc;rw[List.flatMap_map]
theorem qhk(t:T)(l:List T):fc (t::l)= .int .i64 t.f:: .int .i64 t.v:: .sl U (t.kids.map (T.enc U))::fc l:=by
 unfold fc;rw[List.flatMap_cons,T.qcn];rfl
theorem qgz(t:T)(l:List T):fcs (t::l)= .int .i64 t.f:: .int .i64 t.v:: .sl .sub (t.kids.map (T.enc .sub))::fcs l:=by
 unfold fcs;rw[List.flatMap_cons,T.qcn];rfl
theorem qF3(a b:List T):fc (a++b)=fc a++fc b:=by unfold fc;simp
theorem qvP(a b:List T):fcs (a++b)=fcs a++fcs b:=by unfold fcs;simp
theorem qnv:∀l:List T,(fc l).map DV.clr=fcs l
 | []=>rfl
 |t::l=>by rw[qhk,qgz,List.map_cons,List.map_cons,List.map_cons,qnv l];simp
theorem qfz:∀l:List T,(fc l).length=l.length*3
 | []=>rfl
 |t::l=>by rw[qhk];simp[qfz l];omega
theorem qvO:∀l:List T,(fcs l).length=l.length*3
 | []=>rfl
 |t::l=>by rw[qgz];simp[qvO l];omega
theorem qgv(f:AV->Option DV):∀(a b:List AV) {x y:List DV},qdw f a=some x->qdw f b=some y->qdw f (a++b)=some (x++y)
 | [],b,x,y,h1,h2=>by simp[qdw]at h1;subst h1;simpa using h2
 |v::a,b,x,y,h1,h2=>by
  simp only[qdw]at h1;obtain⟨d,e1,h1⟩:=Option.bind_eq_some_iff.1 h1;obtain⟨x',e2,rfl⟩:=Option.map_eq_some_iff.1 h1;simp only[List.cons_append,qdw,e1,qgv f a b e2 h2,Option.bind_some,Option.map_some]
theorem qkK(M:qak)(n:Nat):∀l:List DV,qdw (AV.frzC M n) (l.map .d)=some l
 | []=>rfl
 |d::l=>by
  simp only[List.map_cons,qdw,qAs,qkK M n l,Option.bind_some,Option.map_some]
theorem qjS{d:DV}{k:IntKind}{n:Int}(h:d.clr= .int k n):d= .int k n:=by
 cases d<;>simp[DV.clr]at h⊢<;>exact h
theorem qr8{d:DV}{l:List DV}(h:d.clr= .sl .sub l):∃g xs,d= .sl g xs/\DV.clrs xs=l:=by
 cases d<;>simp[DV.clr]at h
 exact⟨_,_,rfl,h⟩
theorem qoW{t:T}{l:List T}{ds:List DV}(h:ds.map DV.clr=fcs (t::l)):∃g xs r,ds= .int .i64 t.f:: .int .i64 t.v:: .sl g xs::r/\DV.clrs xs=t.kids.map (T.enc .sub)/\r.map DV.clr=fcs l:=by
 rw[qgz]at h
 match ds,h with
 | [],h=>simp at h
 | [_],h=>simp at h
 | [_,_],h=>simp at h
 |d0::d1::d2::r,h=>
  simp only[List.map_cons,List.cons.injEq]at h;obtain⟨h0,h1,h2,h3⟩:=h;obtain⟨g,xs,rfl,hx⟩:=qr8 h2;exact⟨g,xs,r,by rw[qjS h0,qjS h1],hx,h3⟩
theorem qqn:∀(l:List T) (ds:List DV),ds.map DV.clr=fcs l->ds.all DV.isCell=true
 | [],ds,h=>by
  have:ds=[]:=by simpa[fcs]using h
  subst this;rfl
 |t::l,ds,h=>by
  obtain⟨g,xs,r,rfl,hx,hr⟩:=qoW h;simp[qaa,qaj];simpa using qqn l r hr
theorem qkL:∀(l:List T) (ds:List DV),ds.map DV.clr=fcs l->∃xs,chunks true 3 l.length ds=some xs/\xs.map DV.clr=l.map (T.enc .sub)
 | [],ds,h=>⟨[],rfl,rfl⟩
 |t::l,ds,h=>by
  obtain⟨g,xs,r,rfl,hx,hr⟩:=qoW h;obtain⟨ys,h1,h2⟩:=qkL l r hr;refine⟨.agg [.int .i64 t.f,.int .i64 t.v,.sl g xs]::ys,?_,?_⟩
  ·simp[chunks,cut,qaa,qaj,h1,DV.cells]
  ·rw[List.map_cons,List.map_cons,h2,T.qcn]
   simp only[DV.clr,DV.clrs,hx]
theorem qC3(B:qak)(i:Nat)(h:2<=i):qa1 (qci 2 B) i=qa1 B i:=by
 unfold qa1 qci;rw[List.getElem?_append_right (by simp;exact h),List.length_replicate,List.getElem?_drop,show 2+(i-2)=i by omega]
def Ctx(j:Nat)(B:qak)(A D:List T)(N:Nat):Prop:=
 ∀(B':qak) (cs:List AV) (u:T) (ds:List DV),B'.length=6->(∀i,j<i->B'[i]?=B[i]?)->B'[j]?=some (some cs)->qdw (AV.frzC (qci 2 B') (j+1)) cs=some ds->ds.map DV.clr=fcs (A++u::D)->
  ∃(c5:List AV) (ds5:List DV) (t':T),B'[5]?=some (some c5)/\qdw (AV.frzC (qci 2 B') 6) c5=some ds5/\ds5.map DV.clr=fcs [t']/\t'.inner<=N+u.inner/\(u.rng->t'.rng)
theorem Ctx.base(B:qak):Ctx 5 B [] [] 0:=fun B' cs u ds h1 h2 h3 h4 h5=>⟨cs,ds,u,h3,h4,h5,by omega,id⟩
theorem qfh:∀a b:List T,T.inners (a++b)=T.inners a+T.inners b
 | [],b=>by simp[T.inners]
 |t::a,b=>by simp only[List.cons_append,T.inners,qfh a b];omega
theorem Ctx.step{j:Nat}{B B1:qak}{A D A' D':List T}{N m:Nat}{f v:Int}(hj:2<=j)(h:Ctx (j+1) B A D N)(hag:∀i,j+1<i->B1[i]?=B[i]?)
 (hat:B1[j+1]?=some (some ((fc A).map .d++([.d (.int .i64 f),.d (.int .i64 v),.tsl true j 3 m]++(fc D).map .d)))) (hm:A'.length+1+D'.length=m) (hv: -9223372036854775808<=v/\v<=9223372036854775807) (hA:T.rngs A') (hD:T.rngs D'):Ctx j B1 A' D' (N+(m+T.inners A'+T.inners D')):=by
 intro B' cs u ds h1 h2 h3 h4 h5;have hlen:ds.length=m*3:=by
  have:=congrArg List.length h5;rw[List.length_map,qvO]at this;rw[this];simp only[List.length_append,List.length_cons];rw[<-hm];congr 1;omega
 obtain⟨xs,hx1,hx2⟩:=qkL _ _ h5;have hm':(A'++u::D').length=m:=by simp only[List.length_append,List.length_cons];omega
 rw[hm']at hx1;have htsl:AV.frzC (qci 2 B') (j+1+1) (.tsl true j 3 m)=some (.sl .sub xs):=by
  simp only[AV.frzC];rw[qC3 _ _ hj];simp only[qa1,h3,Option.bind_some,h4,hlen,if_true,hx1,Option.map_some]
 have hmid:qdw (AV.frzC (qci 2 B') (j+1+1)) [.d (.int .i64 f),.d (.int .i64 v),.tsl true j 3 m]=some [.int .i64 f,.int .i64 v,.sl .sub xs]:=by
  simp only[qdw,htsl,qAs,Option.bind_some,Option.map_some]
 have hfr:=qgv _ _ _ (qkK (qci 2 B') (j+1+1) (fc A)) (qgv _ _ _ hmid (qkK (qci 2 B') (j+1+1) (fc D)));have hclr:(fc A++([DV.int .i64 f,DV.int .i64 v,DV.sl .sub xs]++fc D)).map DV.clr=fcs (A++(T.node f v (A'++u::D'))::D):=by
  rw[List.map_append,List.map_append,qnv,qnv,qvP,qgz];simp only[List.map_cons,List.map_nil,DV.clr,DV.qaq,hx2,T.qdp,T.qet,T.qaS,List.cons_append,List.nil_append]
 obtain⟨c5,ds5,t',e1,e2,e3,e4,e4r⟩:=h B' _ _ _ h1 (fun i hi=>by rw[h2 i (by omega),hag i hi]) (by rw[h2 (j+1) (by omega),hat]) hfr hclr;refine⟨c5,ds5,t',e1,e2,e3,?_,fun hu=>e4r ⟨hv,qlm hA ⟨hu,hD⟩⟩⟩;have e5:(T.node f v (A'++u::D')).inner=m+(T.inners A'+(u.inner+T.inners D')):=by rw[T.qgP,T.qaS,hm',qfh];rfl
 omega
end Go.Proofs.Ytfiakfiocdfpbaa.VS
namespace Go.Proofs.Ytfiakfiocdfpbaa.VS
def qcI(A:List T)(x0 x1 x2:AV)(D:List T):List AV:=(fc A).map .d++([x0,x1,x2]++(fc D).map .d)
theorem qc1(A:List T)(x0 x1 x2:AV)(D:List T):(qcI A x0 x1 x2 D).length=A.length*3+3+D.length*3:=by
 unfold qcI;simp[qfz];omega
theorem qpp(A:List T)(x0 x1 x2:AV)(D:List T):(qcI A x0 x1 x2 D)[A.length*3+2]?=some x2:=by
 unfold qcI;rw[List.getElem?_append_right (by simp[qfz])];simp[qfz]
theorem qtQ(A:List T)(x0 x1 x2 y:AV)(D:List T):(qcI A x0 x1 x2 D).set (A.length*3+2) y=qcI A x0 x1 y D:=by
 unfold qcI;rw[List.set_append_right _ _ (by simp[qfz])];simp[qfz]
theorem qBC(A:List T)(x0 x1 x2 y:AV)(D:List T):(qcI A x0 x1 x2 D).set (A.length*3) y=qcI A y x1 x2 D:=by
 unfold qcI;rw[List.set_append_right _ _ (by simp[qfz])];simp[qfz]
theorem qBB(A:List T)(x0 x1 x2 y:AV)(D:List T):(qcI A x0 x1 x2 D).set (A.length*3+1) y=qcI A x0 y x2 D:=by
 unfold qcI;rw[List.set_append_right _ _ (by simp[qfz])];simp[qfz]
theorem qgV{cs:List AV}{k:Nat}(h:k<cs.length)(y:AV):splice cs k [y]=cs.set k y:=by
 unfold splice;rw[List.set_eq_take_append_cons_drop,if_pos h];simp
theorem qBE(A:List T)(x0 x1 x2 y:AV)(D:List T):splice (qcI A x0 x1 x2 D) (A.length*3) [y]=qcI A y x1 x2 D:=by
 rw[qgV (by rw[qc1];omega),qBC]
theorem qBD(A:List T)(x0 x1 x2 y:AV)(D:List T):splice (qcI A x0 x1 x2 D) (A.length*3+1) [y]=qcI A x0 y x2 D:=by
 rw[qgV (by rw[qc1];omega),qBB]
theorem qtR(A:List T)(x0 x1 x2 y:AV)(D:List T):splice (qcI A x0 x1 x2 D) (A.length*3+2) [y]=qcI A x0 x1 y D:=by
 rw[qgV (by rw[qc1];omega),qtQ]
def TR(rs:List DV):Prop:=rs.all (fun r=> !(DV.int .u8 0).like r)=true
theorem qGJ:∀l:List T,TR (fc l)
 | []=>rfl
 |t::l=>by
  have:=qGJ l;unfold TR at this⊢
  rw[qhk];simp only[List.all_cons,this,Bool.and_true];rfl
mutual
theorem qya(rs:List DV):∀t:T,DV.xrest rs (t.enc U)=true
 | .node f v ks=>by
  rw[T.qcn];simp only[qmn,qfE,qml,qsL,qgT,Bool.and_true,Bool.true_and,T.qaS];exact qeC rs ks
theorem qeC(rs:List DV):∀l:List T,DV.xrests rs (l.map (T.enc U))=true
 | []=>by simp only[List.map_nil,qgT]
 |t::l=>by simp only[List.map_cons,qfE,qya rs t,qeC rs l,Bool.and_true]
end
theorem qtW(rs:List DV):∀l:List T,DV.xrests rs (fc l)=true
 | []=>by simp[fc]
 |t::l=>by rw[qhk];simp[qeC,qtW rs l]
theorem qfm(rs:List DV):∀l:List T,qbs rs ((fc l).map .d)=true
 | []=>by simp[fc]
 |t::l=>by rw[qhk];simp[qeC,qfm rs l]
theorem qgE(rs:List DV)(a b:List AV):qbs rs (a++b)=(qbs rs a&&qbs rs b):=by simp[qbs]
theorem qgL(rs:List DV)(B:qak)(i:Nat)(cs:List AV)(h:qaW rs B=true)(hc:qbs rs cs=true):qaW rs (B.set i (some cs))=true:=by
 unfold qaW at h⊢
 rw[List.all_eq_true]at h⊢
 intro x hx;rcases List.mem_or_eq_of_mem_set hx with h1|h1
 ·exact h x h1
 ·subst h1;exact hc
structure WS(bs:List Int)(j k:Nat)(B:qak)(A D:List T)(f v:Int)(ks:List T)(N:Nat):Prop where
 jk:j+k=5
 j2:2<=j
 len:B.length=6
 seed:qcf bs 0 B
 one:B[1]?=some (some [.d (.int .i64 0),.d (.int .i64 0),.d (.sl U [])])
 free:∀i,2<=i->i<j->B[i]?=some none
 at_:B[j]?=some (some (qcI A (.d (.int .i64 f)) (.d (.int .i64 v)) (.d (.sl U (ks.map (T.enc U)))) D))
 rest:∀rs,TR rs->qaW rs B=true
 ctx:Ctx j B A D N
 siz:N+(T.node f v ks).inner<=6
 rg:(T.node f v ks).rng
theorem WS.turn{bs:List Int}{j k:Nat}{B:qak}{A D:List T}{f v:Int}{ks:List T}{N:Nat}(h:WS bs j k B A D f v ks N){B':qak}(hT:qce bs 0 B B'):WS bs j k B' A D f v ks N:=by
 have h0:=hT.at (by rw[h.len];omega);obtain⟨pos,st,hp,rfl⟩:=hT;have e:∀i,1<=i->(B.set 0 (some (qbf bs pos st)))[i]?=B[i]?:=fun i hi=>by rw[List.getElem?_set_ne (by omega)]
 have hj:=h.j2;refine⟨h.jk,h.j2,by simp[h.len],h0,by rw[e 1 (by omega)];exact h.one,fun i h1 h2=>by rw[e i (by omega)];exact h.free i h1 h2,by rw[e j (by omega)];exact h.at_,fun rs hr=>qgL rs B 0 _ (h.rest rs hr) (qe9 rs hr bs pos st),?_,h.siz,h.rg⟩;intro B' cs u ds h1 h2;exact h.ctx B' cs u ds h1 (fun i hi=>by rw[h2 i hi,e i (by omega)])
theorem qF1{bs:List Int}{j k:Nat}{B:qak}{A D:List T}{f v:Int}{ks:List T}{N:Nat}(h:WS bs (j+1) k B A D f v ks N)(hk:0<ks.length)(hj:2<=j)(x5 x22:DV)(h5:∀rs,DV.xrest rs x5=true):
 qn0 (.focC 4 2 [0,2,3,4,5]) ⟨[(0,.ptr 0 0),(2,.ptr 1 0),(3,.ptr 5 0),(4,.ptr (j+1) (A.length*3)),(5,.d x5),(22,.d x22)],B⟩=
  some ⟨[(0,.ptr 0 0),(2,.ptr 1 0),(3,.ptr 5 0),(4,.ptr (j+1) (A.length*3)),(5,.d x5)],(B.set (j+1) (some (qcI A (.d (.int .i64 f)) (.d (.int .i64 v)) (.tsl true j 3 ks.length) D))).set j (some ((fc ks).map .d))⟩:=by
 have hat:=h.at_;have hfree:=h.free j hj (by omega);have hr:=h.rest (fc ks) (qGJ ks);have hc:qbs (fc ks) (qcI A (.d (.int .i64 f)) (.d (.int .i64 v)) (.tsl true j 3 ks.length) D)=true:=by
  unfold qcI;rw[qgE,qgE,qfm,qfm];simp
 have hb:=qgL (fc ks) B (j+1) _ hr hc;have hx:=qtW (fc ks) ks;have hg:=qpp A (.d (.int .i64 f)) (.d (.int .i64 v)) (.d (.sl U (ks.map (T.enc U)))) D;have hs:=qtQ A (.d (.int .i64 f)) (.d (.int .i64 v)) (.d (.sl U (ks.map (T.enc U)))) (.tsl true j 3 ks.length) D;have hlen:(ks.map (T.enc U)).length=ks.length:=by simp
 cases ks with
 |nil=>simp at hk
 |cons k0 kr=>
  have hfc:(T.enc U k0::kr.map (T.enc U)).flatMap DV.cells=fc (k0::kr):=by rw[<-qI0];rfl
  have hag:qa8 (k0.enc U)=true:=by rw[T.qcn];rfl
  have hcl:(k0.enc U).cells.length=3:=by simp
  have hbg:qa1 B (j+1)=some (qcI A (.d (.int .i64 f)) (.d (.int .i64 v)) (.d (.sl U (T.enc U k0::kr.map (T.enc U)))) D):=by simp only[qa1,hat,List.map_cons]
  simp only[List.map_cons]at hg hs hlen;have hw:xFc 2 [0,2,3,4,5] ⟨[(0,.ptr 0 0),(2,.ptr 1 0),(3,.ptr 5 0),(4,.ptr (j+1) (A.length*3)),(5,.d x5),(22,.d x22)],B⟩ j (A.length*3) (qcI A (.d (.int .i64 f)) (.d (.int .i64 v)) (.d (.sl U (T.enc U k0::kr.map (T.enc U)))) D) (some (.d (.sl U (T.enc U k0::kr.map (T.enc U)))))=
   some ⟨[(0,.ptr 0 0),(2,.ptr 1 0),(3,.ptr 5 0),(4,.ptr (j+1) (A.length*3)),(5,.d x5)],(B.set (j+1) (some (qcI A (.d (.int .i64 f)) (.d (.int .i64 v)) (.tsl true j 3 (k0::kr).length) D))).set j (some ((fc (k0::kr)).map .d))⟩:=by
   rw[qvC,hfc,hag,hcl,show(kr.map (T.enc U)).length+1=(k0::kr).length from by simp,hs,if_pos ⟨by simp[qbQ,hfree],by simp[keep,lk,h5],hb,hx⟩];rfl
  rw[qAr];simp only[lk,Nat.reduceEqDiff,if_false,if_true];rw[qvD,hbg,Option.bind_some,hg];exact hw
end Go.Proofs.Ytfiakfiocdfpbaa.VS
namespace Go.Proofs.Ytfiakfiocdfpbaa.VS
theorem qej(bs:List Int)(pos st:Int):qay (qbf bs pos st)=some [.sl .sub (bs.map (.int .u8)),.int .i64 pos,.int .i64 st]:=by simp[qbf]
theorem qfx{B:qak}{i j:Nat}{c:Option (List AV)}(h:i≠j):(B.set i c)[j]?=B[j]?:=by rw[List.getElem?_set_ne h]
theorem qx8{ks:List T}{r:Nat}(h:r<ks.length):(fc ks).map AV.d=qcI (ks.take r) (.d (.int .i64 (tAt ks r).f)) (.d (.int .i64 (tAt ks r).v)) (.d (.sl U ((tAt ks r).kids.map (T.enc U)))) (ks.drop (r+1)):=by
 have e:ks=ks.take r++tAt ks r::ks.drop (r+1):=by
  conv=>lhs;rw[<-List.take_append_drop r ks,List.drop_eq_getElem_cons h,qaD h]
 conv=>lhs;rw[e,qF3,qhk]
 unfold qcI;simp
theorem qIW(bs:List Int)(hl:bs.length<=1099511627776){j k:Nat}{B:qak}{A D:List T}{f v:Int}{ks:List T}{N:Nat}(h:WS bs (j+1) k B A D f v ks N)(hk:0<ks.length)(hj:2<=j):
 ∃(B':qak) (A' D':List T) (f' v':Int) (ks':List T) (N':Nat),WS bs j (k+1) B' A' D' f' v' ks' N'/\
  qau XV (XV.lin 161) (.seq (.block 1 (.ghost (.focC 4 2 [0,2,3,4,5]) (.region true 0 [0,2,3,4,5] qmW))) (.region false 0 [0,2,3,4,5] qpP)) ⟨[(0,.ptr 0 0),(2,.ptr 1 0),(3,.ptr 5 0),(4,.ptr (j+1) (A.length*3)),(5,.d (.int .i64 k)),(22,.d (.bool true))],B⟩=
   some (.normal,⟨[(0,.ptr 0 0),(2,.ptr 1 0),(3,.ptr 5 0),(4,.ptr j (A'.length*3)),(5,.d (.int .i64 ((k+1:Nat):Int)))],B'⟩):=by
 have hfo:=qF1 h hk hj (.int .i64 k) (.bool true) (fun rs=>by simp);have hlen:=h.len;have hjk:=h.jk;obtain⟨pos,st,hp,hb0⟩:=h.seed;have hb0':=qc7 hb0;have hs1:qcf bs 0 [some (qbf bs pos st)]:=⟨pos,st,hp,rfl⟩;have hsz:=h.siz;rw[T.qfs]at hsz;have hcn:=qdu ks;obtain⟨r,B1,hr,⟨pos1,st1,hp1,rfl⟩,hc⟩:=qca bs hl _ 0 hs1 ks.length (by omega) (by omega);simp only[List.set_cons_zero]at hc;have hrl:r.toNat<ks.length:=by omega
 have hw:=qaw (n:=k) (by omega);generalize hR:qcI A (.d (.int .i64 f)) (.d (.int .i64 v)) (.tsl true j 3 ks.length) D=R at hfo;have hR2:R[A.length*3+2]?=some (.tsl true j 3 ks.length):=by rw[<-hR];exact qpp _ _ _ _ _
 have hRl:A.length*3+2<R.length:=by rw[<-hR,qc1];omega
 have g0:((B.set (j+1) (some R)).set j (some ((fc ks).map .d)))[0]?=some (some (qbf bs pos st)):=by rw[qfx (by omega),qfx (by omega)];exact hb0'
 have g1:((B.set (j+1) (some R)).set j (some ((fc ks).map .d)))[j+1]?=some (some R):=by rw[qfx (by omega),List.getElem?_set_self (by omega)]
 have g2:((B.set (j+1) (some R)).set j (some ((fc ks).map .d))).length=6:=by simp[hlen]
 have gj:((B.set (j+1) (some R)).set j (some ((fc ks).map .d)))[j]?=some (some ((fc ks).map .d)):=by rw[List.getElem?_set_self (by simp;omega)]
 have gi:∀i,i≠j->i≠j+1->((B.set (j+1) (some R)).set j (some ((fc ks).map .d)))[i]?=B[i]?:=fun i h1 h2=>by rw[qfx (Ne.symm h1),qfx (Ne.symm h2)]
 have grest:∀rs,TR rs->qaW rs ((B.set (j+1) (some R)).set j (some ((fc ks).map .d)))=true:=fun rs hrs=>by
  refine qgL _ _ _ _ (qgL _ _ _ _ (h.rest rs hrs) ?_) (qfm rs ks);rw[<-hR];unfold qcI;rw[qgE,qgE,qfm,qfm];simp
 generalize hB2:(B.set (j+1) (some R)).set j (some ((fc ks).map .d))=B2 at*
 have hn6:¬6<=j+1:=by omega
 have g0':∀h:0<B2.length,B2[0]'h=some (qbf bs pos st):=fun h=>(List.getElem?_eq_some_iff.1 g0).2
 have hR3:∀h:A.length*3+2<R.length,R[A.length*3+2]'h= .tsl true j 3 ks.length:=fun h=>(List.getElem?_eq_some_iff.1 hR2).2
 have hmin:min r.toNat ks.length=r.toNat:=by omega
 have hsd:=qej bs pos st;have hsd1:=qej bs pos1 st1;have hcl:=qcV bs pos st;have hcl1:=qcV bs pos1 st1;generalize qbf bs pos st=S0 at*
 refine⟨B2.set 0 (some (qbf bs pos1 st1)),ks.take r.toNat,ks.drop (r.toNat+1),(tAt ks r.toNat).f,(tAt ks r.toNat).v,(tAt ks r.toNat).kids,N+(ks.length+T.inners (ks.take r.toNat)+T.inners (ks.drop (r.toNat+1))),?_,?_⟩
 ·have e:ks=ks.take r.toNat++tAt ks r.toNat::ks.drop (r.toNat+1):=by
   conv=>lhs;rw[<-List.take_append_drop r.toNat ks,List.drop_eq_getElem_cons hrl,qaD hrl]
  refine⟨by omega,hj,by simp[g2],⟨pos1,st1,hp1,qqz (by omega)⟩,by rw[qfx (by omega),gi 1 (by omega) (by omega)];exact h.one,fun i h1 h2=>by rw[qfx (by omega),gi i (by omega) (by omega)];exact h.free i h1 (by omega),by rw[qfx (by omega),gj];exact congrArg (some∘some) (qx8 hrl),fun rs hrs=>qgL _ _ _ _ (grest rs hrs) (qe9 rs hrs bs pos1 st1),?_,?_,?_⟩
  ·refine Ctx.step hj h.ctx (fun i hi=>by rw[qfx (by omega),gi i (by omega) (by omega)]) (by rw[qfx (by omega),g1,<-hR];rfl) ?_ h.rg.1 ?_ ?_
   ·have:=congrArg List.length e
    simp only[List.length_append,List.length_cons]at this;omega
   ·have:=h.rg.2;rw[T.qfr]at this⊢;exact fun t ht=>this t (List.mem_of_mem_take ht)
   ·have:=h.rg.2;rw[T.qfr]at this⊢;exact fun t ht=>this t (List.mem_of_mem_drop ht)
  ·have e2:T.inners ks=T.inners (ks.take r.toNat)+((tAt ks r.toNat).inner+T.inners (ks.drop (r.toNat+1))):=by
    conv=>lhs;rw[e,qfh]
    rfl
   have e3:(T.node (tAt ks r.toNat).f (tAt ks r.toNat).v (tAt ks r.toNat).kids).inner=(tAt ks r.toNat).inner:=by cases tAt ks r.toNat;rfl
   have e4:(T.node f v ks).inner=ks.length+T.inners ks:=by rw[T.qgP,T.qaS]
   have:=h.siz;omega
  ·have:=h.rg.2
   rw[T.qfr]at this;have h3:=this _ (qaM hrl);generalize tAt ks r.toNat=x at h3;cases x;exact h3
 ·generalize qbf bs pos1 st1=S1 at*
  simp only[qvd];simp only[qdm,qsE,qn4,hfo,Option.bind_some];simp[qGt,qpP,g2,g0,g1,gj,hR2,hRl,hsd,hsd1,hcl,hcl1,hc,hr.1,hr.2,hw,hn6,qae,hR3,hmin,g0',qqv]
end Go.Proofs.Ytfiakfiocdfpbaa.VS
namespace Go.Proofs.Ytfiakfiocdfpbaa.VS
theorem qCa(bs:List Int)(hl:bs.length<=1099511627776):∀(n j k:Nat) (B:qak) (A D:List T) (f v:Int) (ks:List T) (N:Nat),n+2=j->WS bs j k B A D f v ks N->
 ∀s0,qaf 6 [0,2,3,4,5] s0=some ⟨[(0,.ptr 0 0),(2,.ptr 1 0),(3,.ptr 5 0),(4,.ptr j (A.length*3)),(5,.d (.int .i64 k))],B⟩->
 ∃(j' k':Nat) (B':qak) (A' D':List T) (f' v':Int) (ks':List T) (N':Nat),WS bs j' k' B' A' D' f' v' ks' N'/\
  qbq XV (XV.lin 161) 6 [0,2,3,4,5] qjZ s0=some (.exit 0,⟨[(0,.ptr 0 0),(2,.ptr 1 0),(3,.ptr 5 0),(4,.ptr j' (A'.length*3)),(5,.d (.int .i64 k')),(22,.d (.bool false))],B'⟩):=by
 intro n
 induction n with
 |zero=>
  intro j k B A D f v ks N hn h s0 h0;refine⟨j,k,B,A,D,f,v,ks,N,h,qaO h0 ?_ (by simp)⟩;have hjk:=h.jk;have hk:¬((k:Int)<3):=by omega
  simp[qjZ,qkA,hk]
 |succ n ih=>
  intro j k B A D f v ks N hn h s0 h0;have hjk:=h.jk;have hk:(k:Int)<3:=by omega
  have hat:=h.at_;have hrow:=qpp A (.d (.int .i64 f)) (.d (.int .i64 v)) (.d (.sl U (ks.map (T.enc U)))) D;generalize hR:qcI A (.d (.int .i64 f)) (.d (.int .i64 v)) (.d (.sl U (ks.map (T.enc U)))) D=R at*
  have hRl:A.length*3+2<R.length:=by rw[<-hR,qc1];omega
  have hR3:∀h:A.length*3+2<R.length,R[A.length*3+2]'h= .d (.sl U (ks.map (T.enc U))):=fun h=>(List.getElem?_eq_some_iff.1 hrow).2
  have hBl:j<B.length:=by rw[h.len];omega
  have hB3:∀h:j<B.length,B[j]'h=some R:=fun h=>(List.getElem?_eq_some_iff.1 hat).2
  by_cases hks:0<ks.length
  ·obtain⟨b,B1,hT,hc⟩:=qlK bs hl B 0 h.seed 2 (by omega) (by omega)
   have h1:=h.turn hT;cases b with
   |true=>
    refine⟨j,k,B1,A,D,f,v,ks,N,h1,qaO h0 ?_ (by simp)⟩;simp[qjZ,qkA,hk,hks,hc,hBl,hB3,hRl,hR3,qae]
   |false=>
    subst hn;obtain⟨B',A',D',f',v',ks',N',hW,hgo⟩:=qIW bs hl h1 hks (by omega);obtain⟨j',k',B'',A'',D'',f'',v'',ks'',N'',hW2,hl2⟩:=ih (n+2) (k+1) B' A' D' f' v' ks' N' rfl hW ⟨[(0,.ptr 0 0),(2,.ptr 1 0),(3,.ptr 5 0),(4,.ptr (n+2) (A'.length*3)),(5,.d (.int .i64 ((k+1:Nat):Int)))],B'⟩ (qfj (e:=[]) (by simp) (by simp[qac];omega) hW.len (by simp));refine⟨j',k',B'',A'',D'',f'',v'',ks'',N'',hW2,?_⟩;rw[<-hl2];refine qbp h0 ?_;rw[<-hgo];generalize hG:VCode.seq (.block 1 (.ghost (.focC 4 2 [0,2,3,4,5]) (.region true 0 [0,2,3,4,5] qmW))) (.region false 0 [0,2,3,4,5] qpP)=G;rw[show qjZ= .seq (.seq (.region false 0 [0,2,3,4,5,22] qkA) (.cond (.t 22) .skip (.exit 0))) G from by rw[<-hG];rfl];simp[qkA,hk,hks,hc,hBl,hB3,hRl,hR3,qae]
  ·refine⟨j,k,B,A,D,f,v,ks,N,h,qaO h0 ?_ (by simp)⟩
   have hk0:ks.length=0:=by omega
   simp[qjZ,qkA,hk,hk0,hBl,hB3,hRl,hR3,qae]
end Go.Proofs.Ytfiakfiocdfpbaa.VS
namespace Go.Proofs.Ytfiakfiocdfpbaa.VS
theorem WS.read{bs:List Int}{j k:Nat}{B:qak}{A D:List T}{f v:Int}{ks:List T}{N:Nat}(h:WS bs j k B A D f v ks N){B':qak}(hl:B'.length=6)(hi:∀i,j<i->B'[i]?=B[i]?)(u:T)(g:Tag)(X:List DV)(hX:X.map DV.clr=u.kids.map (T.enc .sub))
 (hj:B'[j]?=some (some (qcI A (.d (.int .i64 u.f)) (.d (.int .i64 u.v)) (.d (.sl g X)) D))):
 ∃(c5:List AV) (ds5:List DV) (t':T),B'[5]?=some (some c5)/\qdw (AV.frzC (qci 2 B') 6) c5=some ds5/\ds5.map DV.clr=fcs [t']/\t'.inner<=N+u.inner/\(u.rng->t'.rng):=by
 refine h.ctx B' _ u (fc A++([.int .i64 u.f,.int .i64 u.v,.sl g X]++fc D)) hl hi hj ?_ ?_
 ·unfold qcI
  exact qgv _ _ _ (qkK _ _ _) (qgv _ _ _ (qkK _ _ [.int .i64 u.f,.int .i64 u.v,.sl g X]) (qkK _ _ _))
 ·rw[List.map_append,List.map_append,qnv,qnv,qvP,qgz]
  simp only[List.map_cons,List.map_nil,DV.clr,DV.qaq,hX,List.cons_append,List.nil_append]
theorem qF2(B:qak)(S0 Z:Option (List AV))(z0 z1 z2:AV)(hlen:B.length=6)(h0:B[0]?=some S0)(h1:B[1]?=some (some [z0,z1,z2]))(r:List (Nat×AV))(h2:lk r 2=some (.ptr 1 0))(h3:lk r 3=some (.ptr 5 0))(t:T)(c5:List AV)(ds5:List DV)
 (e1:B[5]?=some (some c5)) (e2:qdw (AV.frzC (qci 2 B) 6) c5=some ds5) (e3:ds5.map DV.clr=fcs [t]):
 ∃C,qau XV (XV.lin 161) (.seq (.ghost (.frzB 3 2 [2]) (.region false 0 [2] qlF)) .ret) ⟨r,B⟩=some (.ret,⟨[(2,.ptr 1 0)],[S0,some [.d (.int .i64 t.f),.d (.int .i64 t.v),.d (qao .sub t.kids)],C]⟩):=by
 have hk:keep r [2]=[(2,.ptr 1 0)]:=by simp[keep,h2]
 have htk:B.take 2=[S0,some [z0,z1,z2]]:=by
  match B,hlen with
  | [b0,b1,b2,b3,b4,b5],_=>simp at h0 h1⊢;exact⟨h0,h1⟩
 obtain⟨g,xs,r',rfl,hx,hr⟩:=qoW e3;have hr0:r'=[]:=by simpa[fcs]using hr
 subst hr0;have hcell:=qqn _ _ e3;have hbg:qa1 B 5=some c5:=by simp only[qa1,e1]
 refine⟨some [.d (.int .i64 t.f),.d (.int .i64 t.v),.d (qao .sub t.kids)],?_⟩;have hx':xs.map DV.clr=t.kids.map (T.enc .sub):=by rw[<-DV.qaq];exact hx
 have hgh:qn0 (.frzB 3 2 [2]) ⟨r,B⟩=some ⟨[(3,.ptr 2 0),(2,.ptr 1 0)],[S0,some [z0,z1,z2],some [.d (.int .i64 t.f),.d (.int .i64 t.v),.d (qao .sub t.kids)]]⟩:=by
  rw[qAq];simp only[h3];rw[qvB,if_pos ⟨by omega,by simp,by rw[hk];simp[qac],by omega⟩,hbg,Option.bind_some,hlen,e2,Option.bind_some,if_pos hcell,hk,htk];simp[hx']
 simp only[qdm,qn4,hgh,Option.bind_some];simp[qlF,splice,qaa,qaj,qag,qax,qae]
end Go.Proofs.Ytfiakfiocdfpbaa.VS
namespace Go.Proofs.Ytfiakfiocdfpbaa.VS
def qlZ:VCode:= .seq (.ghost (.frzB 3 2 [2]) (.region false 0 [2] qlF)) .ret
def qdF:VCode:= .seq (.region false 0 [0,2,3,4,38] qjf) (.block 2 (.seq (.region false 0 [0,2,3,4,38,39] qje) (.cond (.t 39) (.region false 0 [2,3] quT) (.seq (.region false 0 [0,2,3,4,38,47] qg9) (.cond (.t 47) (.region false 0 [2,3] qoH) (.seq (.region false 0 [0,2,3,4,38,55] qjg) (.cond (.t 55) (.regionT 0 [2,3] qlH qfX) (.seq (.region false 0 [0,2,3,69] qlG) (.cond (.t 69) (.seq (.region false 0 [2] qoG) .ret) .skip)))))))))
theorem qBp:qDk=⟨1,[.cell 2 true 3],.seq (.region false 1 [0,2] quX) (.seq (.region false 4 [0,2,3] quW) (.seq (.region false 0 [0,2,3,4] quV) (.seq (.seq (.region false 0 [0,2,3,4,5] quU) (.block 0 (.loop [0,2,3,4,5] qjZ))) (.seq qdF qlZ))))⟩:=rfl
def qC9(bs:List Int)(B:qak)(n:Nat):Prop:=B.length=6/\qcf bs 0 B/\B[1]?=some (some [.d (.int .i64 0),.d (.int .i64 0),.d (.sl U [])])/\
 ∃(c5:List AV) (ds5:List DV) (t':T),B[5]?=some (some c5)/\qdw (AV.frzC (qci 2 B) 6) c5=some ds5/\ds5.map DV.clr=fcs [t']/\t'.inner<=n/\t'.rng
theorem WS.read5{bs:List Int}{j k:Nat}{B:qak}{A D:List T}{f v:Int}{ks:List T}{N:Nat}(h:WS bs j k B A D f v ks N)(u:T)(g:Tag)(X:List DV)(hX:X.map DV.clr=u.kids.map (T.enc .sub))(n:Nat)(hn:N+u.inner<=n)(hur:u.rng):
 qC9 bs (B.set j (some (qcI A (.d (.int .i64 u.f)) (.d (.int .i64 u.v)) (.d (.sl g X)) D))) n:=by
 have hj:=h.j2;have hjk:=h.jk;have hlen:=h.len;obtain⟨c5,ds5,t',e1,e2,e3,e4,e5⟩:=h.read (B':=B.set j (some (qcI A (.d (.int .i64 u.f)) (.d (.int .i64 u.v)) (.d (.sl g X)) D))) (by simp[hlen]) (fun i hi=>by rw[qfx (by omega)]) u g X hX (by rw[List.getElem?_set_self (by omega)]);refine⟨by simp[hlen],?_,by rw[qfx (by omega)];exact h.one,c5,ds5,t',e1,e2,e3,by omega,e5 hur⟩;obtain⟨pos,st,hp,hb⟩:=h.seed;exact⟨pos,st,hp,by simp only[qa1];rw[qfx (by omega),qc7 hb]⟩
theorem qjx(ks:List T):(ks.map (T.enc U)).map DV.clr=ks.map (T.enc .sub):=qcD _ _
theorem qsh(bs:List Int)(hl:bs.length<=1099511627776){j k:Nat}{B:qak}{A D:List T}{f v:Int}{ks:List T}{N:Nat}(h:WS bs j k B A D f v ks N)(x5 x22:DV):
 (∃(r':List (Nat×AV)) (B':qak),qau XV (XV.lin 161) qdF ⟨[(0,.ptr 0 0),(2,.ptr 1 0),(3,.ptr 5 0),(4,.ptr j (A.length*3)),(5,.d x5),(22,.d x22)],B⟩=some (.normal,⟨r',B'⟩)/\lk r' 2=some (.ptr 1 0)/\lk r' 3=some (.ptr 5 0)/\qC9 bs B' 12)\/
 (∃(t:T) (g:Tag) (B':qak),qau XV (XV.lin 161) qdF ⟨[(0,.ptr 0 0),(2,.ptr 1 0),(3,.ptr 5 0),(4,.ptr j (A.length*3)),(5,.d x5),(22,.d x22)],B⟩=some (.ret,⟨[(2,.ptr 1 0)],B'⟩)/\qcf bs 0 B'/\B'.length=6/\B'[1]?=some (some [.d (.int .i64 t.f),.d (.int .i64 t.v),.d (.sl g (t.kids.map (T.enc g)))])/\t.inner<=14/\t.rng):=by
 obtain⟨r,B1,hr,hT1,hc⟩:=qca bs hl B 0 h.seed 12 (by omega) (by omega);have h1:=h.turn hT1;have hat:=h1.at_;have hjl:j<B1.length:=by have:=h1.jk;rw[h1.len];omega
 have hj2:=h.j2;have hjk:=h.jk;have hsz:=h.siz;have keepT:∀(B':qak),qce bs 0 B1 B'->B'[j]?=some (some (qcI A (.d (.int .i64 f)) (.d (.int .i64 v)) (.d (.sl U (ks.map (T.enc U)))) D)):=fun B' hT=>(h1.turn hT).at_
 by_cases c0:r=0
 ·subst c0
  obtain⟨i,hi,B2,hT2,hc2⟩:=qdv bs hl B1 0 h1.seed [-2,-1,0,5,7] (by simp) (by simp);generalize ([-2,-1,0,5,7]:List Int)[i]=x at hc2;have h2:=h1.turn hT2;have hat2:=h2.at_;have hl2:=h2.len;have hB2:∀h:j<B2.length,B2[j]'h=some (qcI A (.d (.int .i64 f)) (.d (.int .i64 v)) (.d (.sl U (ks.map (T.enc U)))) D):=fun h=>(List.getElem?_eq_some_iff.1 hat2).2
  have hrl:=qc1 A (.d (.int .i64 f)) (.d (.int .i64 v)) (.d (.sl U (ks.map (T.enc U)))) D;have hsp:=qBE A (.d (.int .i64 f)) (.d (.int .i64 v)) (.d (.sl U (ks.map (T.enc U)))) (.d (.int .i64 x)) D;have hle:A.length*3+1<=A.length*3+3+D.length*3:=by omega
  have hj6:j<6:=by omega
  have hin:∀a b:Int,(T.node a b ks).inner=(T.node f v ks).inner:=fun a b=>by simp only[T.inner]
  have hres:=h2.read5 (.node x v ks) U (ks.map (T.enc U)) (qjx ks) 12 (by rw[hin];omega) ⟨h.rg.1,h.rg.2⟩;simp only[T.qdp,T.qet]at hres;refine .inl ⟨[(2,.ptr 1 0),(3,.ptr 5 0)],_,?_,rfl,rfl,hres⟩;simp only[List.map_cons,List.map_nil]at hc2;generalize qcI A (.d (.int .i64 f)) (.d (.int .i64 v)) (.d (.sl U (ks.map (T.enc U)))) D=R at*
  generalize qcI A (.d (.int .i64 x)) (.d (.int .i64 v)) (.d (.sl U (ks.map (T.enc U)))) D=R' at*
  simp[qdF,qjf,qje,quT,hc,hc2,hl2,hB2,hj6,hrl,hsp,hle,qaC,List.replicate,qaa,qag,qax,qbo]
 by_cases c1:r=1
 ·subst c1
  obtain⟨i,hi,B2,hT2,hc2⟩:=qdv bs hl B1 0 h1.seed [-1,1,99,100] (by simp) (by simp);have hxx:∀y:Int,y∈([-1,1,99,100]:List Int)->-9223372036854775808<=y/\y<=9223372036854775807:=fun y hy=>by
   simp only[List.mem_cons,List.not_mem_nil,or_false]at hy;omega
  have hxr:=hxx _ (List.getElem_mem hi);generalize ([-1,1,99,100]:List Int)[i]=x at hc2 hxr;have h2:=h1.turn hT2;have hat2:=h2.at_;have hl2:=h2.len;have hB2:∀h:j<B2.length,B2[j]'h=some (qcI A (.d (.int .i64 f)) (.d (.int .i64 v)) (.d (.sl U (ks.map (T.enc U)))) D):=fun h=>(List.getElem?_eq_some_iff.1 hat2).2
  have hrl:=qc1 A (.d (.int .i64 f)) (.d (.int .i64 v)) (.d (.sl U (ks.map (T.enc U)))) D;have hsp:=qBD A (.d (.int .i64 f)) (.d (.int .i64 v)) (.d (.sl U (ks.map (T.enc U)))) (.d (.int .i64 x)) D;have hle:A.length*3+1+1<=A.length*3+3+D.length*3:=by omega
  have hj6:j<6:=by omega
  have hin:∀a b:Int,(T.node a b ks).inner=(T.node f v ks).inner:=fun a b=>by simp only[T.inner]
  have hres:=h2.read5 (.node f x ks) U (ks.map (T.enc U)) (qjx ks) 12 (by rw[hin];omega) ⟨hxr,h.rg.2⟩;simp only[T.qdp,T.qet]at hres;refine .inl ⟨[(2,.ptr 1 0),(3,.ptr 5 0)],_,?_,rfl,rfl,hres⟩;simp only[List.map_cons,List.map_nil]at hc2;generalize qcI A (.d (.int .i64 f)) (.d (.int .i64 v)) (.d (.sl U (ks.map (T.enc U)))) D=R at*
  generalize qcI A (.d (.int .i64 f)) (.d (.int .i64 x)) (.d (.sl U (ks.map (T.enc U)))) D=R' at*
  simp[qdF,qjf,qje,qg9,qoH,hc,hc2,hl2,hB2,hj6,hrl,hsp,hle,qaC,List.replicate,qaa,qag,qax,qbo]
 have n0:(r==0)=false:=by simpa using c0
 have n1:(r==1)=false:=by simpa using c1
 by_cases c2:r=2
 ·subst c2
  have hs:=h1.seed;obtain⟨pos,st,hp,hb0⟩:=hs;obtain⟨t2,g2,B2,hi2,⟨pos2,st2,hp2,rfl⟩,hc2⟩:=qfJ bs hl 1 (by omega) 2 (by omega) [some (qbf bs pos st)] 0 ⟨pos,st,hp,rfl⟩;simp only[List.set_cons_zero]at hc2;have h2:=h1.turn (B':=B1.set 0 (some (qbf bs pos2 st2))) ⟨pos2,st2,hp2,rfl⟩;have hl1:=h1.len;have hB1:∀h:j<B1.length,B1[j]'h=some (qcI A (.d (.int .i64 f)) (.d (.int .i64 v)) (.d (.sl U (ks.map (T.enc U)))) D):=fun h=>(List.getElem?_eq_some_iff.1 hat).2
  have hX:(ks.map (T.enc U)++[t2.enc g2]).map DV.clr=(T.node f v (ks++[t2])).kids.map (T.enc .sub):=by
   rw[List.map_append,qcD,T.qaS,List.map_append];simp
  have hin:N+(T.node f v (ks++[t2])).inner<=12:=by
   have e1:(T.node f v (ks++[t2])).inner=ks.length+1+(T.inners ks+(t2.inner+0)):=by
    rw[T.qgP,T.qaS,qfh];simp only[List.length_append,List.length_cons,List.length_nil,T.inners]
   have e2:(T.node f v ks).inner=ks.length+T.inners ks:=by rw[T.qgP,T.qaS]
   omega
  have hres:=h2.read5 (.node f v (ks++[t2])) U _ hX 12 hin ⟨h.rg.1,qlm h.rg.2 ⟨hi2.2,trivial⟩⟩;simp only[T.qdp,T.qet]at hres;have hj0:(0:Nat)≠j:=by omega
  have hkl:(ks.length+1)*40<=140737488355328:=by
   have e2:(T.node f v ks).inner=ks.length+T.inners ks:=by rw[T.qgP,T.qaS]
   omega
  have ha:qbG 3 40 (.sl U (ks.map (T.enc U))) (.sl .sub [t2.enc g2])=some (.sl U (ks.map (T.enc U)++[t2.enc g2])):=by
   unfold qbG;simp only;rw[if_pos (by simp[qaa,qaj])];simp only[List.isEmpty_cons,Bool.false_eq_true,if_false];rw[if_pos ⟨by simpa using hkl,trivial,by simp⟩]
  have hrl:=qc1 A (.d (.int .i64 f)) (.d (.int .i64 v)) (.d (.sl .sub (ks.map (T.enc .sub)))) D;have hg2:=qpp A (.d (.int .i64 f)) (.d (.int .i64 v)) (.d (.sl U (ks.map (T.enc U)))) D;have hsp:=qtR A (.d (.int .i64 f)) (.d (.int .i64 v)) (.d (.sl .sub (ks.map (T.enc .sub)))) (.d (.sl U (ks.map (T.enc U)++[t2.enc g2]))) D;have hRl:A.length*3+2<(qcI A (.d (.int .i64 f)) (.d (.int .i64 v)) (.d (.sl U (ks.map (T.enc U)))) D).length:=by rw[qc1];omega
  have hclr:qcc B1 j (A.length*3+2) 1=B1.set j (some (qcI A (.d (.int .i64 f)) (.d (.int .i64 v)) (.d (.sl .sub (ks.map (T.enc .sub)))) D)):=by
   unfold qcc;simp only[qa1,hat];rw[List.drop_eq_getElem_cons hRl,(List.getElem?_eq_some_iff.1 hg2).2];simp only[List.take_succ_cons,List.take_zero,AV.clrs,AV.clr,DV.clr,DV.qaq,qcD];rw[qtR]
  have hld:qae B1 false 1 j (A.length*3+2)=some (.d (.sl U (ks.map (T.enc U)))):=by
   simp only[qae,qa1,hat,Option.bind_some,Bool.false_eq_true,if_false,hg2]
  have heq:((B1.set j (some (qcI A (.d (.int .i64 f)) (.d (.int .i64 v)) (.d (.sl .sub (ks.map (T.enc .sub)))) D))).set 0 (some (qbf bs pos2 st2))).set j (some (qcI A (.d (.int .i64 f)) (.d (.int .i64 v)) (.d (.sl U (ks.map (T.enc U)++[t2.enc g2]))) D))=(B1.set 0 (some (qbf bs pos2 st2))).set j (some (qcI A (.d (.int .i64 f)) (.d (.int .i64 v)) (.d (.sl U (ks.map (T.enc U)++[t2.enc g2]))) D)):=by
   rw[List.set_comm _ _ (Ne.symm hj0),List.set_set]
  rw[<-heq]at hres;have hle:A.length*3+2+1<=A.length*3+3+D.length*3:=by omega
  have hj6:j<6:=by omega
  have hn6:¬6<=j:=by omega
  have hj0':¬j=0:=by omega
  refine .inl ⟨[(2,.ptr 1 0),(3,.ptr 5 0)],_,?_,rfl,rfl,hres⟩;have g0:(B1.set j (some (qcI A (.d (.int .i64 f)) (.d (.int .i64 v)) (.d (.sl .sub (ks.map (T.enc .sub)))) D)))[0]?=some (some (qbf bs pos st)):=by rw[qfx (Ne.symm hj0),qc7 hb0]
  have gl:(B1.set j (some (qcI A (.d (.int .i64 f)) (.d (.int .i64 v)) (.d (.sl .sub (ks.map (T.enc .sub)))) D))).length=6:=by simp[hl1]
  have gj:((B1.set j (some (qcI A (.d (.int .i64 f)) (.d (.int .i64 v)) (.d (.sl .sub (ks.map (T.enc .sub)))) D))).set 0 (some (qbf bs pos2 st2)))[j]?=some (some (qcI A (.d (.int .i64 f)) (.d (.int .i64 v)) (.d (.sl .sub (ks.map (T.enc .sub)))) D)):=by rw[qfx hj0,List.getElem?_set_self (by omega)]
  clear hres heq hat keepT hB1;generalize hR':qcI A (.d (.int .i64 f)) (.d (.int .i64 v)) (.d (.sl .sub (ks.map (T.enc .sub)))) D=R' at*
  generalize qcI A (.d (.int .i64 f)) (.d (.int .i64 v)) (.d (.sl U (ks.map (T.enc U)++[t2.enc g2]))) D=R'' at*
  generalize hB3:B1.set j (some R')=B3 at*
  have g0':∀h:0<B3.length,B3[0]'h=some (qbf bs pos st):=fun h=>(List.getElem?_eq_some_iff.1 g0).2
  have hsd:=qej bs pos st;have hsd1:=qej bs pos2 st2;have hcl:=qcV bs pos st;have hcl1:=qcV bs pos2 st2;generalize qbf bs pos st=S0 at*
  generalize qbf bs pos2 st2=S1 at*
  have gj':∀h:j<(B3.set 0 (some S1)).length,(B3.set 0 (some S1))[j]'h=some R':=fun h=>(List.getElem?_eq_some_iff.1 gj).2
  have hc2':qad XV 166 [.ptr 0 0,.d (.int .i64 1),.d (.int .i64 2)] [some S0]=some (.d (t2.enc g2),[some S1]):=hc2;simp[qdF,qjf,qje,qg9,qjg,qCO,hc,hl1,gl,hn6,hj6,hld,hclr,hc2',g0',hsd,hsd1,hcl,hcl1,ha,hsp,hrl,hle,gj',gj,qaC,List.replicate,qaa,qaj,qag,qax,qbo,-qcc,-qae,lk,hj0']
 have n2:(r==2)=false:=by simpa using c2
 by_cases c3:r=3
 ·subst c3
  obtain⟨t2,g2,B2,hi2,hT2,hc2⟩:=qfJ bs hl 3 (by omega) 3 (by omega) B1 0 h1.seed;have h2:=h1.turn hT2;have hl2:=h2.len;have h21:=h2.one;have hB21:∀h:1<B2.length,B2[1]'h=some [.d (.int .i64 0),.d (.int .i64 0),.d (.sl U [])]:=fun h=>(List.getElem?_eq_some_iff.1 h21).2
  obtain⟨f2,vw2,ks2⟩:=t2;obtain⟨pos2,st2,hp2,hb2⟩:=h2.seed;have hc2':qad XV 166 [.ptr 0 0,.d (.int .i64 3),.d (.int .i64 3)] B1=some (.d ((T.node f2 vw2 ks2).enc g2),B2):=hc2;refine .inr ⟨.node f2 vw2 ks2,g2,B2.set 1 (some [.d (.int .i64 f2),.d (.int .i64 vw2),.d (.sl g2 (ks2.map (T.enc g2)))]),?_,⟨pos2,st2,hp2,by simp only[qa1];rw[qfx (by omega),qc7 hb2]⟩,by simp[hl2],by rw[List.getElem?_set_self (by omega)];simp,by have:=hi2.1;simp at this;omega,hi2.2⟩;simp[qdF,qjf,qje,qg9,qjg,qlG,qoG,hc,hc2',hl2,hB21,splice,qaa,qaj,qag,qax,qbo]
 have n3:(r==3)=false:=by simpa using c3
 have hin:qC9 bs B1 12:=by
  have:=h1.read5 (.node f v ks) U (ks.map (T.enc U)) (qjx ks) 12 (by omega) h.rg;simp only[T.qdp,T.qet]at this;rwa[show B1.set j (some (qcI A (.d (.int .i64 f)) (.d (.int .i64 v)) (.d (.sl U (ks.map (T.enc U)))) D))=B1 from by
   apply List.ext_getElem?;intro i
   by_cases hij:j=i
   ·subst hij;rw[List.getElem?_set_self',hat];simp
   ·rw[List.getElem?_set_ne hij]]at this
 refine .inl ⟨[(0,.ptr 0 0),(2,.ptr 1 0),(3,.ptr 5 0),(69,.d (.bool false))],B1,?_,rfl,rfl,hin⟩;simp[qdF,qjf,qje,qg9,qjg,qlG,hc,n0,n1,n2,n3]
end Go.Proofs.Ytfiakfiocdfpbaa.VS
namespace Go.Proofs.Ytfiakfiocdfpbaa.VS
theorem qvi(bs:List Int)(hl:bs.length<=1099511627776)(pos st:Int)(hp:0<=pos/\pos<=bs.length):
 ∃(t:T) (g:Tag) (pos' st':Int),(t.inner<=14/\t.rng)/\(0<=pos'/\pos'<=bs.length)/\qad XV 161 [.ptr 0 0] [some (qbf bs pos st)]=some (.d (t.enc g),[some (qbf bs pos' st')]):=by
 have hs0:qcf bs 0 [some (qbf bs pos st),some [.d (.int .i64 0),.d (.int .i64 0),.d (.sl U [])],none,none,none,none]:=⟨pos,st,hp,rfl⟩;obtain⟨t0,B1,hi0,_,⟨pos1,st1,hp1,rfl⟩,hc⟩:=qnA bs hl 3 (by omega) _ 0 hs0;simp only[List.set_cons_zero]at hc;obtain⟨f,v,ks⟩:=t0;have hW:WS bs 5 0 [some (qbf bs pos1 st1),some [.d (.int .i64 0),.d (.int .i64 0),.d (.sl U [])],none,none,none,some [.d (.int .i64 f),.d (.int .i64 v),.d (.sl U (ks.map (T.enc U)))]] [] [] f v ks 0:=by
  refine⟨rfl,by omega,rfl,⟨pos1,st1,hp1,rfl⟩,rfl,fun i h1 h2=> ?_,rfl,fun rs hr=> ?_,Ctx.base _,by omega,hi0.2⟩
  ·rcases i with _|_|_|_|_|i<;>first|omega|rfl
  ·simp[qe9 rs hr bs pos1 st1,qeC]
 obtain⟨j,k,B2,A,D,f',v',ks',N,hW2,hloop⟩:=qCa bs hl 3 5 0 _ [] [] f v ks 0 rfl hW ⟨[(0,.ptr 0 0),(2,.ptr 1 0),(3,.ptr 5 0),(4,.ptr 5 0),(5,.d (.int .i64 0))],[some (qbf bs pos1 st1),some [.d (.int .i64 0),.d (.int .i64 0),.d (.sl U [])],none,none,none,some [.d (.int .i64 f),.d (.int .i64 v),.d (.sl U (ks.map (T.enc U)))]]⟩ (by simp[qaf,qac]);have hcase:=qsh bs hl hW2 (.int .i64 k) (.bool false);have start:∀q:Option (AV×qak),qD0 1 [.cell 2 true 3] (qau XV (XV.lin 161) (.seq qdF qlZ) ⟨[(0,.ptr 0 0),(2,.ptr 1 0),(3,.ptr 5 0),(4,.ptr j (A.length*3)),(5,.d (.int .i64 k)),(22,.d (.bool false))],B2⟩)=q->qad XV 161 [.ptr 0 0] [some (qbf bs pos st)]=q:=by
  intro q hq;rw[qsD XV _ _ _ qDk rfl qs8 rfl (m:=1) rfl rfl,qBp];simp only[qho,qjT,qcV];rw[<-hq];simp only[qvd]at hloop⊢
  generalize VCode.seq qdF qlZ=G;simp[quX,quW,quV,quU,hc,splice,qaa,qaj,qag,qax];rw[hloop];simp
 rcases hcase with⟨r',B',e1,e2,e3,hlen,⟨pos2,st2,hp2,hb⟩,hone,c5,ds5,t',q1,q2,q3,q4,q5⟩|⟨t,g,B',e1,⟨pos2,st2,hp2,hb⟩,hlen,hone,hi,hir⟩
 ·obtain⟨C,hf⟩:=qF2 B' (some (qbf bs pos2 st2)) none _ _ _ hlen (qc7 hb) hone r' e2 e3 t' c5 ds5 q1 q2 q3
  refine⟨t',.sub,pos2,st2,⟨by omega,q5⟩,hp2,start _ ?_⟩;rw[qdm,e1];simp only[qhw];unfold qlZ;rw[hf];obtain⟨f2,vw2,ks2⟩:=t';simp[qae]
 ·refine⟨t,g,pos2,st2,⟨hi,hir⟩,hp2,start _ ?_⟩
  rw[qdm,e1];simp only[qmt];obtain⟨f2,vw2,ks2⟩:=t
  match B',hlen with
  | [b0,b1,b2,b3,b4,b5],_=>
   have hb0:=qc7 hb;simp at hb0 hone;subst hb0;subst hone
   simp[qae]
end Go.Proofs.Ytfiakfiocdfpbaa.VS
