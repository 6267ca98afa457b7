/- Contracts of the program's functions on the evaluator without names, and plain lemmas: part 2. -/
import Derived.Test.YtfiakfiocdfpbaaXP1
set_option linter.unusedSimpArgs false
set_option linter.unusedVariables false
namespace Go.Proofs.Ytfiakfiocdfpbaa.VS
theorem qgk(a b:T)(ha:a.inner<=1099511627776)(hb:b.inner<=1099511627776):qac XV 79 [.d (a.enc .sub),.d (b.enc .sub)] []=some (.d (.bool (decide (T.cmp a b<0))),[]):=by
 rw[qas XV _ _ _ v79 rfl qwL rfl];have h:=qhe a b ha hb;simp[v79,qDD,qDC,h]
theorem qk0(f v:Int)(ks:List T)(f' v':Int)(ks':List T)(hl:ks.length<=1099511627776)(hl':ks'.length<=1099511627776)
 (hsame:∀s s',s∈ks->s'∈ks'->qac XV 3 [.d (s.enc .sub),.d (s'.enc .sub)] []=some (.d (.bool (T.cmp s s'==0)),[]))
 (hrec:∀s s',s∈ks->s'∈ks'->qac XV 84 [.d (s.enc .sub),.d (s'.enc .sub)] []=some (.d (.bool (decide (T.cmp s s'<0))),[])):
 qac XV 84 [.d ((T.node f v ks).enc .sub),.d ((T.node f' v' ks').enc .sub)] []=some (.d (.bool (decide (T.cmp (.node f v ks) (.node f' v' ks')<0))),[]):=by
 rw[qas XV _ _ _ v84 rfl qwG rfl];rw[qlP]
 by_cases c1:f=f'
 case neg=>
  have b1:(f !=f')=true:=by simp[c1]
  have e:decide (qoA f f' v v' ks.length ks'.length (T.cmps ks ks')<0)=decide (f<f'):=by
   unfold qoA;by_cases h1:f<f'
   ·simp[h1]
   ·have h2:f>f':=by omega
    simp[h1,h2]
  rw[e];simp[v84,qlc,qlb,qla,qk9,qk8,qk7,qk6,qk5,qk4,qhS,qhR,qk3,qfK,b1]
 subst c1
 by_cases c2:v=v'
 case neg=>
  have b2:(v !=v')=true:=by simp[c2]
  have e:decide (qoA f f v v' ks.length ks'.length (T.cmps ks ks')<0)=decide (v<v'):=by
   unfold qoA;by_cases h1:v<v'
   ·simp[h1]
   ·have h2:v>v':=by omega
    simp[h1,h2]
  rw[e];simp[v84,qlc,qlb,qla,qk9,qk8,qk7,qk6,qk5,qk4,qhS,qhR,qk3,qfK,b2]
 subst c2
 by_cases c3:ks.length=ks'.length
 case neg=>
  have b3:((ks.length:Int) !=ks'.length)=true:=by simp;omega
  have e:decide (qoA f f v v ks.length ks'.length (T.cmps ks ks')<0)=decide (ks.length<ks'.length):=by
   unfold qoA;by_cases h1:ks.length<ks'.length
   ·simp[h1]
   ·have h2:ks'.length<ks.length:=by omega
    simp[h1,h2]
  rw[e];simp[v84,qlc,qlb,qla,qk9,qk8,qk7,qk6,qk5,qk4,qhS,qhR,qk3,qfK,b3]
 have hcp:qoA f f v v ks.length ks'.length (T.cmps ks ks')=T.cmps ks ks':=by simp[qoA,c3]
 rw[hcp];have h:=qaB (X:=XV) (T:=[]) (L:=2) (live:=[2,3,5]) (b:=qvZ) (n:=ks.length) (γ:=Int) (st:=fun(_:Unit) i=>⟨[(2,.ptr 0 0),(3,.ptr 1 0),(5,.d (.int .i64 i))],qgG f v ks f v ks'⟩) (step:=qmf ks ks')
  (F:=fun _=>(.exit 0,⟨[(2,.ptr 0 0),(3,.ptr 1 0),(5,.d (.int .i64 ks.length)),(44,.d (.bool false))],qgG f v ks f v ks'⟩)) (R:=fun r=>(.ret,⟨[(4,.d (.bool (decide (r<0))))],qgG f v ks f v ks'⟩))
  (fun _=>⟨by simp,by simp[qvZ,qlc,qlb,qla,qk9,qk8,qk7,qk6,qk5,qk4,qhS,qhR,qk3,qfK,qgG]⟩)
  (fun _ i hi=>by
   have hw:=qay (n:=i) (by omega);have hi2:i<ks'.length:=by omega
   have hs:=hsame _ _ (qaU hi) (qaU hi2);have hc:=hrec _ _ (qaU hi) (qaU hi2);unfold qmf qgG
   by_cases h0:T.cmp (tAt ks i) (tAt ks' i)=0
   ·rw[h0]at hs⊢
    simp only[ne_eq,not_true_eq_false,if_false];refine⟨_,by simp[qvZ,qlc,qlb,qla,qk9,qk8,qk7,qk6,qk5,qk4,qhS,qhR,qk3,qfK,hi,hi2,hw,cut,qaH hi,qaH hi2,hs];rfl,?_⟩;simp[qai,qab]
   ·simp only[ne_eq,h0,not_false_eq_true,if_true]
    have h0':(T.cmp (tAt ks i) (tAt ks' i)==0)=false:=by simp[h0]
    rw[h0']at hs;refine⟨by simp,?_⟩;simp[qvZ,qlc,qlb,qla,qk9,qk8,qk7,qk6,qk5,qk4,qhS,qhR,qk3,qfK,hi,hi2,hw,cut,qaH hi,qaH hi2,hs,hc])
  ks.length () 0 ⟨[(2,.ptr 0 0),(3,.ptr 1 0),(5,.d (.int .i64 0))],qgG f v ks f v ks'⟩ (by omega) (by simp[qai,qab,qgG])
 rw[qGn ks ks' c3 _ _ (by omega)]at h;simp only[List.drop_zero,qgG,qam]at h;simp[v84,qlc,qlb,qla,qk9,qk8,qk7,qk6,qk5,qk4,qhS,qhR,qk3,qfK,c3];rw[c3]at h;rw[h]
 by_cases h0:T.cmps ks ks'=0<;>simp[h0,v84,qlc,qlb,qla,qk9,qk8,qk7,qk6,qk5,qk4,qhS,qhR,qk3,qfK]
theorem qc2(a b:T)(ha:a.inner<=1099511627776)(hb:b.inner<=1099511627776):qac XV 84 [.d (a.enc .sub),.d (b.enc .sub)] []=some (.d (.bool (decide (T.cmp a b<0))),[]):=by
 match a,b,ha,hb with
 | .node f v ks,.node f' v' ks',ha,hb=>
  simp only[T.inner]at ha hb;exact qk0 f v ks f' v' ks' (by omega) (by omega) (fun s s' hs hs'=>qis s s' (by have:=T.qaC hs;omega) (by have:=T.qaC hs';omega)) (fun s s' hs hs'=>qc2 s s' (by have:=T.qaC hs;omega) (by have:=T.qaC hs';omega))
termination_by a
decreasing_by
 simp_wf
 have:=List.sizeOf_lt_of_mem hs;omega
end Go.Proofs.Ytfiakfiocdfpbaa.VS
namespace Go.Proofs.Ytfiakfiocdfpbaa.VS
def qdk(l:List SymL)(f v:Int)(n:Nat):Bool:=
 if qek l f=true then
  if v=0 then(if(qaz l f.toNat).ac=true then decide ((n:Int)<2)else !decide ((n:Int)=(qaz l f.toNat).arity))
  else true
 else true
def qdi(l:List SymL)(f:Int)(ks:List T)(i:Nat):Bool:=
 if(qaz l f.toNat).ac=true then(if(tAt ks i).f=f then true else if i=0 then false else decide (T.cmp (tAt ks i) (tAt ks (i-1))<0))else false
mutual
def T.form(l:List SymL):T->Bool
 | .node f v ks=>
  if f= -1 then inB v 0 99&&decide (ks.length=0)
  else if qdk l f v ks.length=true then false
  else(qap (fun i=> !((T.forms l ks)[i]?).getD false||qdi l f ks i) ks.length 0).isNone
def T.forms(l:List SymL):List T->List Bool
 | []=>[]
 |t::r=>T.form l t::T.forms l r
end
theorem T.qnr(l:List SymL):∀ks:List T,T.forms l ks=ks.map (T.form l)
 | []=>by simp[T.forms]
 |t::r=>by simp[T.forms,T.qnr l r]
theorem T.qlV(l:List SymL)(ks:List T)(i:Nat)(hi:i<ks.length):((T.forms l ks)[i]?).getD false=T.form l (tAt ks i):=by
 rw[T.qnr];simp[qtx hi]
theorem qFr(l:List SymL)(hs:l.length<=1099511627776)(f v:Int)(ks:List T):qaD XV (XV.lin 78) (.region true 0 [0,3,62] qxK) ⟨[(0,.d (sg l)),(3,.ptr 0 0),(8,.d (.bool false))],qah f v ks⟩=some (.normal,⟨[(0,.d (sg l)),(3,.ptr 0 0),(62,.d (.bool (qdk l f v ks.length)))],qah f v ks⟩):=by
 have hsy:=qpL l hs f;unfold qdk qah;cases c1:qek l f with
 |false=>rw[c1]at hsy;simp[qvy,hsy]
 |true=>
  rw[c1]at hsy;obtain⟨g1,g2⟩:=qdT c1
  by_cases c2:v=0
  ·cases c3:(qaz l f.toNat).ac with
   |true=>simp[qvy,hsy,c2,g1,g2,qau g2,cut,c3]
   |false=>
    by_cases c4:(ks.length:Int)=(qaz l f.toNat).arity
    ·simp[qvy,hsy,c2,g1,g2,qau g2,cut,c3,c4]
    ·have b4:((ks.length:Int) !=(qaz l f.toNat).arity)=true:=by simp[c4]
     simp[qvy,hsy,c2,g1,g2,qau g2,cut,c3,c4,b4]
  ·have b2:(v !=0)=true:=by simp[c2]
   simp[qvy,hsy,c2,b2]
theorem qFq(l:List SymL)(hs:l.length<=1099511627776)(f v:Int)(ks:List T):qaD XV (XV.lin 83) (.region true 0 [0,3,64] qxF) ⟨[(0,.d (sg l)),(3,.ptr 0 0),(8,.d (.bool false))],qah f v ks⟩=some (.normal,⟨[(0,.d (sg l)),(3,.ptr 0 0),(64,.d (.bool (qdk l f v ks.length)))],qah f v ks⟩):=by
 have hsy:=qg3 f 0 (l.length-1);have hw:IntKind.i64.wrap ((l.length:Int)-1)=l.length-1:=wrap_i64 (by omega) (by omega);unfold qdk qah;cases c1:qek l f with
 |false=>unfold qek at c1;rw[c1]at hsy;simp[qvw,hsy,hw]
 |true=>
  obtain⟨g1,g2⟩:=qdT c1;unfold qek at c1;rw[c1]at hsy
  by_cases c2:v=0
  ·cases c3:(qaz l f.toNat).ac with
   |true=>simp[qvw,hsy,hw,c2,g1,g2,qau g2,cut,c3]
   |false=>
    by_cases c4:(ks.length:Int)=(qaz l f.toNat).arity
    ·simp[qvw,hsy,hw,c2,g1,g2,qau g2,cut,c3,c4]
    ·have b4:((ks.length:Int) !=(qaz l f.toNat).arity)=true:=by simp[c4]
     simp[qvw,hsy,hw,c2,g1,g2,qau g2,cut,c3,c4,b4]
  ·have b2:(v !=0)=true:=by simp[c2]
   simp[qvw,hsy,hw,c2,b2]
theorem qIM(l:List SymL)(hs:l.length<=1099511627776)(f v:Int)(ks:List T)(hf:qek l f=true)(i:Nat)(hi:i<ks.length)(hl:ks.length<=1099511627776)
 (hbef:∀s s',s∈ks->s'∈ks->qac XV 79 [.d (s.enc .sub),.d (s'.enc .sub)] []=some (.d (.bool (decide (T.cmp s s'<0))),[]))
 (hrec:qac XV 78 [.d (sg l),.d ((tAt ks i).enc .sub)] []=some (.d (.bool (T.form l (tAt ks i))),[])):
 qaD XV (XV.lin 78) (.region true 0 [0,3,64,65,66,103] qxI) ⟨[(0,.d (sg l)),(3,.ptr 0 0),(5,.d (.int .i64 i)),(6,.ptr 1 0),(64,.d (qam .sub ks)),(65,.d (.int .i64 ks.length)),(66,.d (.int .i64 i))],qah f v ks++[some [.d (.int .i64 (tAt ks i).f),.d (.int .i64 (tAt ks i).v),.d (qam .sub (tAt ks i).kids)]]⟩=
  some (.normal,⟨[(0,.d (sg l)),(3,.ptr 0 0),(64,.d (qam .sub ks)),(65,.d (.int .i64 ks.length)),(66,.d (.int .i64 i)),(103,.d (.bool (!T.form l (tAt ks i)||qdi l f ks i)))],qah f v ks++[some [.d (.int .i64 (tAt ks i).f),.d (.int .i64 (tAt ks i).v),.d (qam .sub (tAt ks i).kids)]]⟩):=by
 obtain⟨g1,g2⟩:=qdT hf;unfold qah qdi;cases c1:T.form l (tAt ks i)with
 |false=>rw[c1]at hrec;simp[qvx,hrec]
 |true=>
  rw[c1]at hrec;cases c2:(qaz l f.toNat).ac with
  |false=>simp[qvx,hrec,g1,g2,qau g2,c2,cut]
  |true=>
   by_cases c3:(tAt ks i).f=f
   ·have b3:((tAt ks i).f==f)=true:=by simp[c3]
    simp[qvx,hrec,g1,g2,qau g2,c2,b3,cut];simp[c3]
   ·have b3:((tAt ks i).f==f)=false:=by simp[c3]
    by_cases c4:i=0
    ·subst c4;simp[qvx,hrec,g1,g2,qau g2,c2,c3,b3,cut]
    ·obtain⟨j,rfl⟩:∃j,i=j+1:=⟨i-1,by omega⟩
     have hj:j<ks.length:=by omega
     have hb:=hbef _ _ (qaU hi) (qaU hj);have hw:IntKind.i64.wrap (j:Int)=j:=qh2 (by omega);have hpos:(0:Int)<((j+1:Nat):Int):=by omega
     simp only[Int.natCast_add,Int.cast_ofNat_Int]at hpos;simp[qvx,hrec,g1,g2,qau g2,c2,c3,b3,hw,hpos,hj,qaH hj,cut,hb]
theorem qu3(l:List SymL)(hs:l.length<=1099511627776)(f v:Int)(ks:List T)(hl:ks.length<=1099511627776)
 (hbef:∀s s',s∈ks->s'∈ks->qac XV 79 [.d (s.enc .sub),.d (s'.enc .sub)] []=some (.d (.bool (decide (T.cmp s s'<0))),[]))
 (hrec:∀s,s∈ks->qac XV 78 [.d (sg l),.d (s.enc .sub)] []=some (.d (.bool (T.form l s)),[])):
 qac XV 78 [.d (sg l),.d ((T.node f v ks).enc .sub)] []=some (.d (.bool (T.form l (.node f v ks))),[]):=by
 rw[qas XV _ _ _ v78 rfl qwM rfl];have hv:=qlx (.node f v ks);have hin:=qjm v 0 99;simp only[T.qds]at hv
 by_cases c1:f= -1
 ·have hform:T.form l (.node f v ks)=(inB v 0 99&&decide (ks.length=0)):=by simp[T.form,c1]
  rw[hform];subst c1;simp only[BEq.rfl]at hv;cases c2:inB v 0 99 with
  |false=>rw[c2]at hin;simp[v78,qqQ,qqP,qqO,hv,hin]
  |true=>
   rw[c2]at hin
   by_cases c3:ks.length=0
   ·simp[v78,qqQ,qqP,qqO,hv,hin,c3]
   ·have b3:((ks.length:Int)==0)=false:=by simp;exact fun h=>c3 (by simp[h])
    simp[v78,qqQ,qqP,qqO,hv,hin,b3];exact fun h=>c3 (by simp[h])
 have b1:(f== -1)=false:=by simp[c1]
 rw[b1]at hv;have hh:=qFr l hs f v ks;simp only[qah,qam,quv]at hh;cases c2:qdk l f v ks.length with
 |true=>
  have hform:T.form l (.node f v ks)=false:=by simp[T.form,c1,c2]
  rw[hform];rw[c2]at hh;simp[v78,qqQ,qqP,qqO,hv,qAZ];rw[hh];simp
 |false=>
  have hsy:qek l f=true:=by
   unfold qdk at c2
   by_cases h:qek l f=true
   ·exact h
   ·rw[if_neg h]at c2;simp at c2
  have hform:T.form l (.node f v ks)=(qap (fun i=> !T.form l (tAt ks i)||qdi l f ks i) ks.length 0).isNone:=by
   have e:qap (fun i=> !((T.forms l ks)[i]?).getD false||qdi l f ks i) ks.length 0=qap (fun i=> !T.form l (tAt ks i)||qdi l f ks i) ks.length 0:=by
    have key:∀(k i:Nat),i+k=ks.length->qap (fun i=> !((T.forms l ks)[i]?).getD false||qdi l f ks i) k i=qap (fun i=> !T.form l (tAt ks i)||qdi l f ks i) k i:=by
     intro k
     induction k with
     |zero=>intro i _;rfl
     |succ k ih=>
      intro i h;simp only[qap];simp only[T.qlV l ks i (by omega),ih (i+1) (by omega)]
    exact key _ _ (by omega)
   rw[<-e];simp[T.form,c1,c2]
  rw[hform];rw[c2]at hh;have h:=qaB (X:=XV) (T:=XV.lin 78) (L:=1) (live:=[0,3,64,65,66]) (b:=qv1) (n:=ks.length) (γ:=Nat) (st:=fun(_:Unit) i=>⟨[(0,.d (sg l)),(3,.ptr 0 0),(64,.d (qam .sub ks)),(65,.d (.int .i64 ks.length)),(66,.d (.int .i64 i))],qah f v ks⟩) (step:=qct fun i=> !T.form l (tAt ks i)||qdi l f ks i)
   (F:=fun _=>(.exit 0,⟨[(0,.d (sg l)),(3,.ptr 0 0),(64,.d (qam .sub ks)),(65,.d (.int .i64 ks.length)),(66,.d (.int .i64 ks.length)),(67,.d (.bool false))],qah f v ks⟩)) (R:=fun j=>(.ret,⟨[(4,.d (.bool false))],qah f v ks++[some [.d (.int .i64 (tAt ks j).f),.d (.int .i64 (tAt ks j).v),.d (qam .sub (tAt ks j).kids)]]⟩))
   (fun a=>⟨by simp,by simp[qv1,qxJ]⟩)
   (fun a i hi=>by
    have hw:=qay (n:=i) (by omega);have hk:=qIM l hs f v ks hsy i hi hl hbef (hrec _ (qaU hi));unfold qct;simp only[qah,qam,List.cons_append,List.nil_append,quv]at hk
    by_cases hq:(!T.form l (tAt ks i)||qdi l f ks i)=true
    ·rw[if_pos hq]
     rw[hq]at hk;refine⟨by simp,?_⟩;simp[qv1,qxJ,qAY,qAX,qtP,hi,hw,cut,qaH hi,qah,splice];rw[hk];simp
    ·rw[if_neg hq]
     have hq':(!T.form l (tAt ks i)||qdi l f ks i)=false:=by simpa using hq
     rw[hq']at hk;refine⟨⟨[(0,.d (sg l)),(3,.ptr 0 0),(64,.d (qam .sub ks)),(65,.d (.int .i64 ks.length)),(66,.d (.int .i64 (i+1:Nat)))],qah f v ks++[some [.d (.int .i64 (tAt ks i).f),.d (.int .i64 (tAt ks i).v),.d (qam .sub (tAt ks i).kids)]]⟩,?_,by simp[qai,qab,qah]⟩;simp[qv1,qxJ,qAY,qAX,qtP,hi,hw,cut,qaH hi,qah,splice];rw[hk];simp[hw])
   ks.length () 0 ⟨[(0,.d (sg l)),(3,.ptr 0 0),(64,.d (qam .sub ks)),(65,.d (.int .i64 ks.length)),(66,.d (.int .i64 0))],qah f v ks⟩ (by omega) (by simp[qai,qab,qah])
  rw[qoS]at h;simp only[qah,qam,List.cons_append,List.nil_append,quv]at h;simp[v78,qqQ,qqP,qqO,hv,qAZ,qDE];rw[hh];simp;rw[h];cases hq:qap (fun i=> !T.form l (tAt ks i)||qdi l f ks i) ks.length 0<;>simp[qyS]
theorem qu2(l:List SymL)(f v:Int)(ks:List T)(c1:f≠-1)(c2:qdk l f v ks.length=false):T.form l (.node f v ks)=(qap (fun i=> !T.form l (tAt ks i)||qdi l f ks i) ks.length 0).isNone:=by
 have e:qap (fun i=> !((T.forms l ks)[i]?).getD false||qdi l f ks i) ks.length 0=qap (fun i=> !T.form l (tAt ks i)||qdi l f ks i) ks.length 0:=by
  have key:∀(k i:Nat),i+k=ks.length->qap (fun i=> !((T.forms l ks)[i]?).getD false||qdi l f ks i) k i=qap (fun i=> !T.form l (tAt ks i)||qdi l f ks i) k i:=by
   intro k
   induction k with
   |zero=>intro i _;rfl
   |succ k ih=>
    intro i h;simp only[qap];simp only[T.qlV l ks i (by omega),ih (i+1) (by omega)]
  exact key _ _ (by omega)
 rw[<-e];simp[T.form,c1,c2]
theorem qmX(l:List SymL)(hs:l.length<=1099511627776)(t:T)(ht:t.inner<=1099511627776):qac XV 78 [.d (sg l),.d (t.enc .sub)] []=some (.d (.bool (T.form l t)),[]):=by
 match t,ht with
 | .node f v ks,ht=>
  simp only[T.inner]at ht;exact qu3 l hs f v ks (by omega) (fun s s' h h'=>qgk s s' (by have:=T.qaC h;omega) (by have:=T.qaC h';omega)) (fun s h=>qmX l hs s (by have:=T.qaC h;omega))
termination_by t
decreasing_by
 simp_wf
 have:=List.sizeOf_lt_of_mem h;omega
theorem qIL(l:List SymL)(hs:l.length<=1099511627776)(f v:Int)(ks:List T)(hf:qek l f=true)(i:Nat)(hi:i<ks.length)(hl:ks.length<=1099511627776)
 (hbef:∀s s',s∈ks->s'∈ks->qac XV 84 [.d (s.enc .sub),.d (s'.enc .sub)] []=some (.d (.bool (decide (T.cmp s s'<0))),[]))
 (hrec:qac XV 83 [.d (sg l),.d ((tAt ks i).enc .sub)] []=some (.d (.bool (T.form l (tAt ks i))),[])):
 qaD XV (XV.lin 83) (.region true 0 [0,3,5,116] qxD) ⟨[(0,.d (sg l)),(3,.ptr 0 0),(5,.d (.int .i64 i)),(69,.d (.bool true))],qah f v ks⟩=
  some (.normal,⟨[(0,.d (sg l)),(3,.ptr 0 0),(5,.d (.int .i64 i)),(116,.d (.bool (!T.form l (tAt ks i)||qdi l f ks i)))],qah f v ks⟩):=by
 obtain⟨g1,g2⟩:=qdT hf;unfold qah qdi;cases c2:(qaz l f.toNat).ac with
 |false=>
  cases c1:T.form l (tAt ks i)with
  |false=>rw[c1]at hrec;simp[qne,hrec,g1,g2,qau g2,c2,cut,hi,qaH hi]
  |true=>rw[c1]at hrec;simp[qne,hrec,g1,g2,qau g2,c2,cut,hi,qaH hi]
 |true=>
  by_cases c3:(tAt ks i).f=f
  ·have b3:((tAt ks i).f==f)=true:=by simp[c3]
   simp[qne,g1,g2,qau g2,c2,b3,cut,hi,qaH hi];simp[c3]
  ·have b3:((tAt ks i).f==f)=false:=by simp[c3]
   by_cases c4:i=0
   ·subst c4
    cases c1:T.form l (tAt ks 0)with
    |false=>rw[c1]at hrec;simp[qne,hrec,g1,g2,qau g2,c2,c3,b3,cut,hi,qaH hi]
    |true=>rw[c1]at hrec;simp[qne,hrec,g1,g2,qau g2,c2,c3,b3,cut,hi,qaH hi]
   ·obtain⟨j,rfl⟩:∃j,i=j+1:=⟨i-1,by omega⟩
    have hj:j<ks.length:=by omega
    have hb:=hbef _ _ (qaU hi) (qaU hj);have hw:IntKind.i64.wrap (j:Int)=j:=qh2 (by omega);have hpos:(0:Int)<((j+1:Nat):Int):=by omega
    have hnat:(((j+1:Nat):Int)).toNat=j+1:=by omega
    simp only[Int.natCast_add,Int.cast_ofNat_Int]at hpos hnat;have hnn:(0:Int)<=(j:Int)+1:=by omega
    by_cases c5:T.cmp (tAt ks (j+1)) (tAt ks j)<0
    ·simp only[c5,decide_true]at hb
     simp[qne,g1,g2,qau g2,c2,c3,b3,hw,hpos,hnat,hnn,hj,hi,qaH hj,qaH hi,cut,hb,c5]
    ·simp only[c5,decide_false]at hb
     cases c1:T.form l (tAt ks (j+1))with
     |false=>rw[c1]at hrec;simp[qne,hrec,g1,g2,qau g2,c2,c3,b3,hw,hpos,hnat,hnn,hj,hi,qaH hj,qaH hi,cut,hb,c5]
     |true=>rw[c1]at hrec;simp[qne,hrec,g1,g2,qau g2,c2,c3,b3,hw,hpos,hnat,hnn,hj,hi,qaH hj,qaH hi,cut,hb,c5]
theorem qrz(l:List SymL)(hs:l.length<=1099511627776)(f v:Int)(ks:List T)(hl:ks.length<=1099511627776)
 (hbef:∀s s',s∈ks->s'∈ks->qac XV 84 [.d (s.enc .sub),.d (s'.enc .sub)] []=some (.d (.bool (decide (T.cmp s s'<0))),[]))
 (hrec:∀s,s∈ks->qac XV 83 [.d (sg l),.d (s.enc .sub)] []=some (.d (.bool (T.form l s)),[])):
 qac XV 83 [.d (sg l),.d ((T.node f v ks).enc .sub)] []=some (.d (.bool (T.form l (.node f v ks))),[]):=by
 rw[qas XV _ _ _ v83 rfl qwH rfl];have hin:=qg3 v 0 99
 by_cases c1:f= -1
 ·have hform:T.form l (.node f v ks)=(inB v 0 99&&decide (ks.length=0)):=by simp[T.form,c1]
  rw[hform];subst c1;cases c2:inB v 0 99 with
  |false=>rw[c2]at hin;simp[v83,qqN,qqM,qqL,hin]
  |true=>
   rw[c2]at hin
   by_cases c3:ks.length=0
   ·simp[v83,qqN,qqM,qqL,hin,c3]
   ·have b3:((ks.length:Int)==0)=false:=by simp;exact fun h=>c3 (by simp[h])
    simp[v83,qqN,qqM,qqL,hin,b3];exact fun h=>c3 (by simp[h])
 have b1:(f== -1)=false:=by simp[c1]
 have hh:=qFq l hs f v ks;simp only[qah,qam,quu]at hh;cases c2:qdk l f v ks.length with
 |true=>
  have hform:T.form l (.node f v ks)=false:=by simp[T.form,c1,c2]
  rw[hform];rw[c2]at hh;simp[v83,qqN,qqM,qqL,b1,qAW];rw[hh];simp
 |false=>
  have hsy:qek l f=true:=by
   unfold qdk at c2
   by_cases h:qek l f=true
   ·exact h
   ·rw[if_neg h]at c2;simp at c2
  rw[qu2 l f v ks c1 c2];rw[c2]at hh;have h:=qaB (X:=XV) (T:=XV.lin 83) (L:=1) (live:=[0,3,5]) (b:=qv0) (n:=ks.length) (γ:=Nat) (st:=fun(_:Unit) i=>⟨[(0,.d (sg l)),(3,.ptr 0 0),(5,.d (.int .i64 i))],qah f v ks⟩) (step:=qct fun i=> !T.form l (tAt ks i)||qdi l f ks i)
   (F:=fun _=>(.exit 0,⟨[(0,.d (sg l)),(3,.ptr 0 0),(5,.d (.int .i64 ks.length)),(69,.d (.bool false))],qah f v ks⟩)) (R:=fun j=>(.ret,⟨[(4,.d (.bool false))],qah f v ks⟩))
   (fun a=>⟨by simp,by simp[qv0,qxE,qah]⟩)
   (fun a i hi=>by
    have hw:=qay (n:=i) (by omega);have hk:=qIL l hs f v ks hsy i hi hl hbef (hrec _ (qaU hi));unfold qct;simp only[qah,qam,List.cons_append,List.nil_append,quu]at hk
    by_cases hq:(!T.form l (tAt ks i)||qdi l f ks i)=true
    ·rw[if_pos hq]
     rw[hq]at hk;refine⟨by simp,?_⟩;simp[qv0,qxE,qAV,qAU,hi,hw,cut,qaH hi,qah,splice];rw[hk];simp
    ·rw[if_neg hq]
     have hq':(!T.form l (tAt ks i)||qdi l f ks i)=false:=by simpa using hq
     rw[hq']at hk;refine⟨⟨[(0,.d (sg l)),(3,.ptr 0 0),(5,.d (.int .i64 (i+1:Nat)))],qah f v ks⟩,?_,by simp[qai,qab,qah]⟩;simp[qv0,qxE,qAV,qAU,hi,hw,cut,qaH hi,qah,splice];rw[hk];simp[hw])
   ks.length () 0 ⟨[(0,.d (sg l)),(3,.ptr 0 0),(5,.d (.int .i64 0))],qah f v ks⟩ (by omega) (by simp[qai,qab,qah])
  rw[qoS]at h;simp only[qah,qam,List.cons_append,List.nil_append,quu]at h;simp[v83,qqN,qqM,qqL,b1,qAW,qDB];rw[hh];simp;rw[h];cases hq:qap (fun i=> !T.form l (tAt ks i)||qdi l f ks i) ks.length 0<;>simp[qyR]
theorem qkl(l:List SymL)(hs:l.length<=1099511627776)(t:T)(ht:t.inner<=1099511627776):qac XV 83 [.d (sg l),.d (t.enc .sub)] []=some (.d (.bool (T.form l t)),[]):=by
 match t,ht with
 | .node f v ks,ht=>
  simp only[T.inner]at ht;exact qrz l hs f v ks (by omega) (fun s s' h h'=>qc2 s s' (by have:=T.qaC h;omega) (by have:=T.qaC h';omega)) (fun s h=>qkl l hs s (by have:=T.qaC h;omega))
termination_by t
decreasing_by
 simp_wf
 have:=List.sizeOf_lt_of_mem h;omega
mutual
theorem qnN:∀t:T,T.sum (fun _=>1) t=t.inner+1
 | .node f v ks=>by simp only[T.sum,T.inner];rw[qoO ks];push_cast;omega
theorem qoO:∀l:List T,T.sums (fun _=>1) l=T.inners l+l.length
 | []=>by simp[T.sums,T.inners]
 |t::r=>by simp only[T.sums,T.inners,List.length_cons];rw[qnN t,qoO r];push_cast;omega
end
theorem qmG(t:T)(ht:t.inner<=1099511627776):IntKind.i64.wrap (T.sum (fun _=>1) t)=(t.inner+1:Nat):=by
 rw[qnN];exact qh2 (n:=t.inner+1) (by omega)
def qa6(l:List SymL)(t:T):Bool:=qiu l&&(decide (t.inner+1<=60)&&T.form l t)
theorem qc4(l:List SymL)(hs:l.length<=1099511627776)(hn:∀i,i<l.length->(qaz l i).name.size<=1099511627776)(t:T)(ht:t.inner<=1099511627776):qac XV 70 [.d (sg l),.d (t.enc .sub)] []=some (.d (.bool (qa6 l t)),[]):=by
 rw[qas XV _ _ _ v70 rfl qwR rfl];have h1:=qmR l hs hn;have h2:=qmS t ht;rw[qmG t ht]at h2;have h3:=qmX l hs t ht;unfold qa6;cases c1:qiu l with
 |false=>rw[c1]at h1;simp[v70,qxP,qxO,h1]
 |true=>
  rw[c1]at h1
  by_cases c2:t.inner+1<=60
  ·have c2':(((t.inner+1:Nat):Int))<=60:=by omega
   simp only[Int.natCast_add,Int.cast_ofNat_Int]at c2';simp[v70,qxP,qxO,h1,h2,h3,c2,c2']
  ·have c2':¬(((t.inner+1:Nat):Int))<=60:=by omega
   simp only[Int.natCast_add,Int.cast_ofNat_Int]at c2';simp[v70,qxP,qxO,h1,h2,c2,c2']
theorem qfE(l:List SymL)(hs:l.length<=1099511627776)(hn:∀i,i<l.length->(qaz l i).name.size<=1099511627776)(t:T)(ht:t.inner<=1099511627776):qac XV 80 [.d (sg l),.d (t.enc .sub)] []=some (.d (.bool (qa6 l t)),[]):=by
 rw[qas XV _ _ _ v80 rfl qwK rfl];have h1:=qmh l hs hn;have h2:=qhs t ht;rw[qmG t ht]at h2;have h3:=qkl l hs t ht;unfold qa6;cases c1:qiu l with
 |false=>rw[c1]at h1;simp[v80,qxH,qxG,h1]
 |true=>
  rw[c1]at h1
  by_cases c2:t.inner+1<=60
  ·have c2':(((t.inner+1:Nat):Int))<=60:=by omega
   simp only[Int.natCast_add,Int.cast_ofNat_Int]at c2';simp[v80,qxH,qxG,h1,h2,h3,c2,c2']
  ·have c2':¬(((t.inner+1:Nat):Int))<=60:=by omega
   simp only[Int.natCast_add,Int.cast_ofNat_Int]at c2';simp[v80,qxH,qxG,h1,h2,c2,c2']
end Go.Proofs.Ytfiakfiocdfpbaa.VS
namespace Go.Proofs.Ytfiakfiocdfpbaa.VS
structure Bd where
 v:Int
 t:T
def Bd.enc(g:Tag)(b:Bd):DV:= .agg [.int .i64 b.v,.int .i64 b.t.f,.int .i64 b.t.v,qam g b.t.kids]
def Bd.ok(b:Bd):Prop:=(-9223372036854775808<=b.v/\b.v<=9223372036854775807)/\b.t.ok
abbrev binds(g:Tag)(l:List Bd):DV:= .sl g (l.map (Bd.enc g))
@[simp] theorem Bd.qnt(g:Tag)(x:Bd):(x.enc g).cells=[.int .i64 x.v,.int .i64 x.t.f,.int .i64 x.t.v,qam g x.t.kids]:=rfl
@[simp] theorem Bd.qkN(g:Tag)(x:Bd):(AV.d (x.enc g)).cells=[.d (.int .i64 x.v),.d (.int .i64 x.t.f),.d (.int .i64 x.t.v),.d (qam g x.t.kids)]:=rfl
@[simp] theorem Bd.qkM(g:Tag)(x:Bd):(x.enc g).isCell=false:=rfl
@[simp] theorem Bd.qGe(g:Tag)(x:Bd):isAgg (x.enc g)=true:=rfl
@[simp] theorem Bd.qeP(g:Tag)(x:Bd):(x.enc g).clr=x.enc .sub:=by
 simp only[Bd.enc,DV.clr,DV.clrs,qam,DV.qav,qcB]
@[simp high] theorem Bd.qee(g:Tag)(l:List Bd):(l.map (Bd.enc g)).map DV.clr=l.map (Bd.enc .sub):=by simp[List.map_map,Function.comp_def]
@[simp] theorem Bd.agg_enc(g:Tag)(x:Bd):DV.agg [.int .i64 x.v,.int .i64 x.t.f,.int .i64 x.t.v,qam g x.t.kids]=x.enc g:=rfl
end Go.Proofs.Ytfiakfiocdfpbaa.VS
namespace Go.Proofs.Ytfiakfiocdfpbaa.VS
end Go.Proofs.Ytfiakfiocdfpbaa.VS
namespace Go.Proofs.Ytfiakfiocdfpbaa.VS
theorem qwb(a c:List T)(g:Tag)(h:(a.length+c.length)*40<=140737488355328):qbm 3 40 (.sl U (a.map (T.enc U))) (.sl g (c.map (T.enc U)))=some (.sl U ((a++c).map (T.enc U))):=by
 have h1:(c.map (T.enc U)).all (fun e=>decide (e.cells.length=3/\e.cells.all DV.isCell=true))=true:=by
  simp[qag,qao]
 have h2:(a.map (T.enc U)).all (fun e=>decide (e.cells.length=3))=true:=by simp
 unfold qbm;simp only;rw[if_pos h1];cases c with
 |nil=>simp
 |cons x r=>
  simp only[List.map_cons,List.isEmpty_cons,Bool.false_eq_true,if_false];rw[if_pos ⟨by simpa using h,trivial,h2⟩];simp
theorem qyE(l:List T)(i:Nat)(h:i<l.length)(hl:l.length<=1099511627776):qbm 3 40 (.sl U ((l.take i).map (T.enc U))) (.sl U [(tAt l i).enc U])=some (.sl U ((l.take (i+1)).map (T.enc U))):=by
 have:=qwb (l.take i) [tAt l i] U (by simp;omega);rw[qfB l i h];exact this
theorem quC(f v:Int)(ks:List T)(hl:ks.length<=1099511627776)(hc:∀t,t∈ks->qac XV 146 [.d (t.enc .sub)] []=some (.d (t.enc U),[])):
 qac XV 146 [.d ((T.node f v ks).enc .sub)] []=some (.d ((T.node f v ks).enc U),[]):=by
 rw[qas XV _ _ _ qAH rfl qs4 rfl];have hloop:=qaB (X:=XV) (T:=XV.lin 146) (L:=3) (live:=[1,2,3,4]) (b:=qqg) (n:=ks.length) (γ:=Unit) (st:=fun(_:Unit) i=>⟨[(1,.ptr 0 0),(2,.ptr 1 0),(3,.ptr 2 0),(4,.d (.int .i64 i))],[some [.d (.int .i64 f),.d (.int .i64 v),.d (qam .sub ks)],some [.d (.int .i64 0),.d (.int .i64 0),.d (.sl U [])],some [.d (.int .i64 f),.d (.int .i64 v),.d (.sl U ((ks.take i).map (T.enc U)))]]⟩) (step:=fun _ _=> .inl ())
  (F:=fun _=>(.exit 0,⟨[(1,.ptr 0 0),(2,.ptr 1 0),(3,.ptr 2 0),(4,.d (.int .i64 ks.length)),(14,.d (.bool false))],[some [.d (.int .i64 f),.d (.int .i64 v),.d (qam .sub ks)],some [.d (.int .i64 0),.d (.int .i64 0),.d (.sl U [])],some [.d (.int .i64 f),.d (.int .i64 v),.d (.sl U ((ks.take ks.length).map (T.enc U)))]]⟩)) (R:=fun _=>(.ret,⟨[],[]⟩))
  (fun _=>⟨by simp,by simp[qqg,qmF,qmE,qmD,qmC,qp5,qmB,qmA]⟩)
  (fun _ i hi=>by
   have hw:=qay (n:=i) (by omega);have hc':=hc _ (qaU hi);have ha:=qyE ks i hi hl;generalize hl2:(ks.take (i+1)).map (T.enc U)=l2 at ha;generalize (ks.take i).map (T.enc U)=l1 at ha⊢
   exact⟨⟨[(1,.ptr 0 0),(2,.ptr 1 0),(3,.ptr 2 0),(4,.d (.int .i64 (i+1:Nat)))],[some [.d (.int .i64 f),.d (.int .i64 v),.d (qam .sub ks)],some [.d (.int .i64 0),.d (.int .i64 0),.d (.sl U [])],some [.d (.int .i64 f),.d (.int .i64 v),.d (.sl U l2)]]⟩,by simp[qqg,qmF,qmE,qmD,qmC,qp5,qmB,qmA,hi,hw,cut,qaH hi,hc',ha,splice,AV.qav,qag,qao,qaq,qaL],by simp[qai,qab,<-hl2]⟩)
  ks.length () 0 ⟨[(1,.ptr 0 0),(2,.ptr 1 0),(3,.ptr 2 0),(4,.d (.int .i64 0))],[some [.d (.int .i64 f),.d (.int .i64 v),.d (qam .sub ks)],some [.d (.int .i64 0),.d (.int .i64 0),.d (.sl U [])],some [.d (.int .i64 f),.d (.int .i64 v),.d (.sl U [])]]⟩ (by omega) (by simp[qai,qab])
 rw[qDv,List.take_length]at hloop;simp only[qBy,qam]at hloop;simp[qAH,qmF,qmE,qmD,qmC,qp5,qmB,qmA,splice,qag,qao,qaq,qaL,qaf];rw[hloop];simp[qAH,qmF,qmE,qmD,qmC,qp5,qmB,qmA,splice,qag,qao,qaq,qaL,qaf]
theorem qmM(t:T)(ht:t.inner<=1099511627776):qac XV 146 [.d (t.enc .sub)] []=some (.d (t.enc U),[]):=by
 match t,ht with
 | .node f v ks,ht=>
  simp only[T.inner]at ht;exact quC f v ks (by omega) fun s hs=>qmM s (by have:=T.qaC hs;omega)
termination_by t
decreasing_by
 simp_wf
 have:=List.sizeOf_lt_of_mem hs;omega
theorem qx3(n:Int):qac XV 147 [.d (.int .i64 n)] []=some (.d ((T.node (-1) n []).enc U),[]):=by
 rw[qas XV _ _ _ qCx rfl qs3 rfl];simp[qCx,qzg,qzf,splice,qag,qao,qaq,qaL,qaf];rw[T.qc0];rfl
end Go.Proofs.Ytfiakfiocdfpbaa.VS
namespace Go.Proofs.Ytfiakfiocdfpbaa.VS
mutual
theorem qvK:∀a b:T,T.cmp a b= -(T.cmp b a)
 | .node f v ks,.node f' v' ks'=>by
  have h:=qp8 ks ks';simp only[T.cmp]
  repeat' split
  all_goals first|omega|exact h
theorem qp8:∀a b:List T,T.cmps a b= -(T.cmps b a)
 | [],[]=>rfl
 | [],_::_=>rfl
 |_::_,[]=>rfl
 |x::xs,y::ys=>by
  have h1:=qvK x y;have h2:=qp8 xs ys;simp only[T.cmps]
  repeat' split
  all_goals omega
end
mutual
theorem qzS:∀a b:T,T.cmp a b=0->a=b
 | .node f v ks,.node f' v' ks',h=>by
  simp only[T.cmp]at h
  repeat' split at h
  all_goals first|omega|skip
  have h1:=qvJ ks ks' (by omega) h;have h2:f=f':=by omega
  have h3:v=v':=by omega
  rw[h1,h2,h3]
theorem qvJ:∀a b:List T,a.length=b.length->T.cmps a b=0->a=b
 | [],[],_,_=>rfl
 | [],_::_,h,_=>by simp at h
 |_::_,[],h,_=>by simp at h
 |x::xs,y::ys,hl,h=>by
  simp only[T.cmps]at h;split at h
  ·omega
  ·rename_i h0
   rw[qzS x y (by omega),qvJ xs ys (by simpa using hl) h]
end
end Go.Proofs.Ytfiakfiocdfpbaa.VS
namespace Go.Proofs.Ytfiakfiocdfpbaa.VS
def ins(t:T):List T->List T
 | []=>[t]
 |x::r=>if T.cmp t x<0 then t::x::r else x::ins t r
def qcK:List T->List T->List T
 |acc,[]=>acc
 |acc,t::r=>qcK (ins t acc) r
def qft(l:List T):List T:=qcK [] l
theorem qlz(t:T):∀l:List T,(ins t l).Perm (t::l)
 | []=> .refl _
 |x::r=>by
  simp only[ins];split
  ·exact .refl _
  ·exact((qlz t r).cons x).trans (.swap t x r)
theorem qhJ:∀(l acc:List T),(qcK acc l).Perm (acc++l)
 | [],acc=>by simp[qcK]
 |t::r,acc=>by
  simp only[qcK];refine(qhJ r _).trans ?_;refine((qlz t acc).append_right r).trans ?_;exact List.perm_middle.symm
theorem qeX(l:List T):(qft l).Perm l:=qhJ l []
theorem qdz:∀(a acc b:List T),qcK acc (a++b)=qcK (qcK acc a) b
 | [],acc,b=>rfl
 |t::r,acc,b=>by simp only[List.cons_append,qcK];exact qdz r _ b
def qst(s:List SymL)(f:Int)(k:T):List T:=if(qcb s f&&k.f==f)=true then k.kids else [k]
def flatK(s:List SymL)(f:Int)(l:List T):List T:=l.flatMap (qst s f)
mutual
def T.norm(s:List SymL):T->T
 | .node f v ks=> .node f v (if qcb s f=true then qft (flatK s f (T.norms s ks))else flatK s f (T.norms s ks))
def T.norms(s:List SymL):List T->List T
 | []=>[]
 |t::r=>t.norm s::T.norms s r
end
theorem T.norms_map(s:List SymL):∀l:List T,T.norms s l=l.map (T.norm s)
 | []=>by simp[T.norms]
 |t::r=>by simp[T.norms,T.norms_map s r]
theorem qzA(s:List SymL)(t:T):(t.norm s).f=t.f:=by cases t;simp[T.norm]
theorem qzz(s:List SymL)(t:T):(t.norm s).v=t.v:=by cases t;simp[T.norm]
theorem qjy(a b:List T):qeh (a++b)=qeh a+qeh b:=by unfold qeh;rw[qd4,List.length_append];omega
theorem qgy{a b:List T}(h:a.Perm b):qeh a=qeh b:=by
 induction h with
 |nil=>rfl
 |cons x _ ih=>rw[qbX,qbX,ih]
 |swap x y l=>rw[qbX,qbX,qbX,qbX];omega
 |trans _ _ h1 h2=>rw[h1,h2]
theorem qvI(s:List SymL)(f:Int)(k:T):qeh (qst s f k)<=k.inner+1:=by
 unfold qst;split
 ·rw[qng];omega
 ·rw[qbX];simp[qeh,T.inners]
theorem qg9(s:List SymL)(f:Int)(k:T)(l:List T):flatK s f (k::l)=qst s f k++flatK s f l:=rfl
theorem qm4(s:List SymL)(f:Int)(a b:List T):flatK s f (a++b)=flatK s f a++flatK s f b:=by unfold flatK;simp
theorem qhg(s:List SymL)(f:Int):∀l:List T,qeh (flatK s f l)<=qeh l
 | []=>by simp[flatK,qeh,T.inners]
 |k::l=>by
  rw[qg9,qjy,qbX];have:=qvI s f k;have:=qhg s f l;omega
theorem T.qhk(f v:Int)(ks:List T):(T.node f v ks).inner=qeh ks:=by simp[T.inner,qeh]
mutual
theorem qg6(s:List SymL):∀t:T,(t.norm s).inner<=t.inner
 | .node f v ks=>by
  have h:=qhf s ks;have h2:=qhg s f (T.norms s ks);simp only[T.norm,T.qhk];split
  ·rw[qgy (qeX _)];omega
  ·omega
theorem qhf(s:List SymL):∀l:List T,qeh (T.norms s l)<=qeh l
 | []=>by simp[T.norms]
 |t::r=>by
  have h1:=qg6 s t;have h2:=qhf s r;simp only[T.norms,qbX];omega
end
theorem qge{l:List T}{t:T}(h:t∈l):t.inner<=qeh l:=by have:=T.qaC h;unfold qeh;omega
theorem qid(l:List T):l.length<=qeh l:=by unfold qeh;omega
def qwk(s:List SymL)(f:Int)(ks:List T)(i:Nat):List T:=flatK s f ((ks.take i).map (T.norm s))
theorem qwh(s:List SymL)(f:Int)(ks:List T):qwk s f ks 0=[]:=by simp[qwk,flatK]
theorem qwi(s:List SymL)(f:Int)(ks:List T)(i:Nat)(h:i<ks.length):qwk s f ks (i+1)=qwk s f ks i++qst s f ((tAt ks i).norm s):=by
 unfold qwk;rw[qfB ks i h,List.map_append,qm4];simp[flatK]
theorem qyH(s:List SymL)(f:Int)(ks:List T):qwk s f ks ks.length=flatK s f (T.norms s ks):=by
 unfold qwk;rw[List.take_length,T.norms_map]
theorem qwj(s:List SymL)(f:Int)(ks:List T)(i:Nat):qeh (qwk s f ks i)<=qeh ks:=by
 unfold qwk;have h1:=qhg s f ((ks.take i).map (T.norm s));rw[<-T.norms_map]at h1⊢
 have h2:=qhf s (ks.take i);have h3:=qB0 ks i;omega
theorem qzJ(t:T):∀(l:List T) (j:Nat),j<=l.length->(∀i,i<j->¬T.cmp t (tAt l i)<0)->(j<l.length->T.cmp t (tAt l j)<0)->ins t l=l.take j++t::l.drop j
 | [],j,hj,_,_=>by simp at hj;subst hj;rfl
 |x::r,0,hj,h1,h2=>by
  have:=h2 (by simp);simp only[tAt,List.getElem?_cons_zero,Option.getD_some]at this;simp[ins,this]
 |x::r,j+1,hj,h1,h2=>by
  have h0:=h1 0 (by omega);simp only[tAt,List.getElem?_cons_zero,Option.getD_some]at h0;have:=qzJ t r j (by simpa using hj) (fun i hi=>by simpa[tAt]using h1 (i+1) (by omega)) (fun h=>by simpa[tAt]using h2 (by simpa using h));simp[ins,h0,this]
end Go.Proofs.Ytfiakfiocdfpbaa.VS
namespace Go.Proofs.Ytfiakfiocdfpbaa.VS
theorem qwc(a c:List T)(g:Tag)(h:(a.length+c.length)*40<=140737488355328):qbm 3 40 (.sl U (a.map (T.enc U))) (.sl g (c.map (T.enc U)))=some (.sl U ((a++c).map (T.enc U))):=by
 have h1:(c.map (T.enc U)).all (fun e=>decide (e.cells.length=3/\e.cells.all DV.isCell=true))=true:=by
  simp[qag,qao]
 have h2:(a.map (T.enc U)).all (fun e=>decide (e.cells.length=3))=true:=by simp
 unfold qbm;simp only;rw[if_pos h1];cases c with
 |nil=>simp
 |cons x r=>
  simp only[List.map_cons,List.isEmpty_cons,Bool.false_eq_true,if_false];rw[if_pos ⟨by simpa using h,trivial,h2⟩];simp
theorem qtJ(xs:List DV)(m:Nat):qb8 xs 0 m=(xs.take m).map DV.clr++xs.drop m:=by
 unfold qb8;simp[DV.qav]
def putAt(t:T)(l:List T):Nat:=match qap (fun i=>decide (T.cmp t (tAt l i)<0)) l.length 0 with
 |some j=>j
 |none=>l.length
theorem qfv(q:Nat->Bool):∀(k i:Nat),(∀j,qap q k i=some j->∀m,i<=m->m<j->q m=false)/\(qap q k i=none->∀m,i<=m->m<i+k->q m=false)
 |0,i=>⟨fun j h=>by simp[qap]at h,fun _ m h1 h2=>by omega⟩
 |k+1,i=>by
  have ih:=qfv q k (i+1);simp only[qap]
  by_cases h:q i=true
  ·simp only[h,if_true]
   exact⟨fun j hj m h1 h2=>by simp at hj;omega,fun h=>by simp at h⟩
  ·simp only[h,Bool.false_eq_true,if_false]
   refine⟨fun j hj m h1 h2=> ?_,fun hn m h1 h2=> ?_⟩
   ·by_cases e:m=i
    ·subst e;simpa using h
    ·exact ih.1 j hj m (by omega) h2
   ·by_cases e:m=i
    ·subst e;simpa using h
    ·exact ih.2 hn m (by omega) (by omega)
theorem qpw(t:T)(l:List T):putAt t l<=l.length:=by
 unfold putAt;split
 ·rename_i j h;have:=(qdl _ _ _ _ h).2.1;omega
 ·omega
theorem qui(t:T)(l:List T):ins t l=l.take (putAt t l)++t::l.drop (putAt t l):=by
 have h:=qfv (fun i=>decide (T.cmp t (tAt l i)<0)) l.length 0;refine qzJ t l _ (qpw t l) (fun i hi=> ?_) (fun hlt=> ?_)
 ·unfold putAt at hi
  split at hi
  ·rename_i j hj
   simpa using h.1 j hj i (by omega) hi
  ·rename_i hn
   simpa using h.2 hn i (by omega) (by omega)
 ·unfold putAt at hlt⊢
  split
  ·rename_i j hj
   simpa using (qdl _ _ _ _ hj).2.2
  ·rename_i hn;rw[hn]at hlt;simp at hlt
theorem qpH(l:List T)(t:T)(hl:qeh l<=1099511627776)(ht:t.inner<=1099511627776)(x0 x1 x2 x3:Option (List AV)):qac XV 154 [.d (qam U l),.d (t.enc U)] [x0,x1,x2,x3]=some (.d (.sl U ((ins t l).map (T.enc U))),[x0,x1,x2,x3]):=by
 have hlen:=qid l;have hlt:=qpw t l;have hb:∀i,i<l.length->qac XV 84 [.d (t.enc .sub),.d ((tAt l i).enc .sub)] []=some (.d (.bool (decide (T.cmp t (tAt l i)<0))),[]):=fun i hi=>qc2 t (tAt l i) ht (by have:=qge (qaU hi);omega)
 rw[qas XV _ _ _ qCv rfl qs1 rfl];have h:=qaB (X:=XV) (T:=XV.lin 154) (L:=5) (live:=[0,3,5]) (b:=qkC) (n:=l.length) (st:=fun(_:Unit) i=>⟨[(0,.d (qam U l)),(3,.ptr 4 0),(5,.d (.int .i64 i))],[x0,x1,x2,x3,some [.d (.int .i64 t.f),.d (.int .i64 t.v),.d (qam U t.kids)]]⟩) (step:=qct fun i=>decide (T.cmp t (tAt l i)<0))
  (F:=fun _=>(.exit 0,⟨[(0,.d (qam U l)),(3,.ptr 4 0),(5,.d (.int .i64 l.length)),(19,.d (.bool false))],[x0,x1,x2,x3,some [.d (.int .i64 t.f),.d (.int .i64 t.v),.d (qam U t.kids)]]⟩)) (R:=fun(j:Nat)=>(.exit 0,⟨[(0,.d (qam U l)),(3,.ptr 4 0),(5,.d (.int .i64 j)),(19,.d (.bool false))],[x0,x1,x2,x3,some [.d (.int .i64 t.f),.d (.int .i64 t.v),.d (qam U t.kids)]]⟩))
  (fun a=>⟨by simp,by simp[qkC,qmz,qmy,qvD,qpu,qmx,qmw,qmv]⟩)
  (fun a i hi=>by
   have hw:=qay (n:=i) (by omega);have hc:=hb i hi;unfold qct
   by_cases hq:decide (T.cmp t (tAt l i)<0)=true
   ·rw[if_pos hq]
    rw[hq]at hc;exact⟨by simp,by simp[qkC,qmz,qmy,qvD,qpu,qmx,qmw,qmv,hi,hw,cut,qaH hi,hc,qaf]⟩
   ·rw[if_neg hq]
    have hq':decide (T.cmp t (tAt l i)<0)=false:=by simpa using hq
    rw[hq']at hc;exact⟨⟨[(0,.d (qam U l)),(3,.ptr 4 0),(5,.d (.int .i64 (i+1:Nat)))],[x0,x1,x2,x3,some [.d (.int .i64 t.f),.d (.int .i64 t.v),.d (qam U t.kids)]]⟩,by simp[qkC,qmz,qmy,qvD,qpu,qmx,qmw,qmv,hi,hw,cut,qaH hi,hc,qaf],by simp[qai,qab]⟩)
  l.length () 0 ⟨[(0,.d (qam U l)),(3,.ptr 4 0),(5,.d (.int .i64 0))],[x0,x1,x2,x3,some [.d (.int .i64 t.f),.d (.int .i64 t.v),.d (qam U t.kids)]]⟩ (by omega) (by simp[qai,qab])
 have h':qdL XV (XV.lin 154) 5 [0,3,5] qkC ⟨[(0,.d (qam U l)),(3,.ptr 4 0),(5,.d (.int .i64 0))],[x0,x1,x2,x3,some [.d (.int .i64 t.f),.d (.int .i64 t.v),.d (qam U t.kids)]]⟩=
  some (.exit 0,⟨[(0,.d (qam U l)),(3,.ptr 4 0),(5,.d (.int .i64 (putAt t l))),(19,.d (.bool false))],[x0,x1,x2,x3,some [.d (.int .i64 t.f),.d (.int .i64 t.v),.d (qam U t.kids)]]⟩):=by
  rw[h,qoS];unfold putAt;cases hq:qap (fun i=>decide (T.cmp t (tAt l i)<0)) l.length 0<;>simp
 clear h;rw[qui];generalize putAt t l=m at*
 have hm:¬((m:Int)<0):=by omega
 have a1:=qwc [] (l.take m) .sub (by simp;omega);have a2:=qwc (l.take m) [t] U (by simp;omega);have a3:=qwc (l.take m++[t]) (l.drop m) .sub (by simp;omega);have hall:(l.map (T.enc U)).all (fun e=>decide (e.cells.length=3))=true:=by simp
 have hrest:qb8 (l.map (T.enc U)) 0 m=(l.take m).map (T.enc .sub)++(l.drop m).map (T.enc U):=by rw[qtJ,<-List.map_take,qcB,<-List.map_drop]
 have hall2:((l.take m).map (T.enc .sub)++(l.drop m).map (T.enc U)).all (fun e=>decide (e.cells.length=3))=true:=by
  have q:∀(l:List T) (g:Tag),(l.map (T.enc g)).all (fun e=>decide (e.cells.length=3))=true:=fun l g=>by simp
  rw[List.all_append,q,q];rfl
 have hlen2:((l.take m).map (T.enc .sub)++(l.drop m).map (T.enc U)).length=l.length:=by simp;omega
 have hd2:(((l.take m).map (T.enc .sub)++(l.drop m).map (T.enc U)).take l.length).drop m=(l.drop m).map (T.enc U):=by
  rw[List.take_of_length_le (by rw[hlen2];exact Nat.le_refl _),List.drop_append_of_le_length (by simp;omega),List.drop_of_length_le (by simp;omega)];rfl
 have ht2:(l.map (T.enc U)).take m=(l.take m).map (T.enc U):=List.map_take.symm;simp only[List.map_nil,List.nil_append,List.map_cons,List.map_append,List.append_assoc,List.cons_append]at a1 a2 a3⊢
 generalize hR:(l.take m).map (T.enc .sub)++(l.drop m).map (T.enc U)=R at*
 generalize hL1:(l.take m).map (T.enc U)=L1 at*
 generalize hL2:(l.drop m).map (T.enc U)=L2 at*
 generalize hL3:L1++[T.enc U t]=L3 at*
 generalize hL4:L1++T.enc U t::L2=L4 at*
 simp only[qBx]at h';simp[qCv,qmz,qmy,splice,qag,qao,qaq,qaL,qaf];rw[h'];simp[qmx,qmw,qmv,hlt,hm,hall,hall2,hlen2,hrest,hd2,ht2,a1,a2,a3,qaf,splice,AV.qav]
end Go.Proofs.Ytfiakfiocdfpbaa.VS
namespace Go.Proofs.Ytfiakfiocdfpbaa.VS
def nM(s:List SymL)(t:T):DV:=(t.norm s).enc U
theorem qm3(s:List SymL)(f:Int)(h:¬qcb s f=true):∀l:List T,flatK s f l=l
 | []=>rfl
 |k::l=>by
  rw[qg9,qm3 s f h l];have h':qcb s f=false:=by simpa using h
  simp[qst,h']
def qws(s:List SymL)(t:T):List DV:=(t.norm s).kids.map (T.enc U)
theorem qrv(s:List SymL)(t:T):nM s t= .agg [.int .i64 t.f,.int .i64 t.v,.sl U (qws s t)]:=by
 unfold nM qws;rw[T.qc0,qzA,qzz]
theorem qyq(s:List SymL)(t:T):(qws s t).map DV.clr=(t.norm s).kids.map (T.enc .sub):=by unfold qws;exact qcB _ _
theorem qqa(s:List SymL)(t:T):(nM s t).cells=[.int .i64 t.f,.int .i64 t.v,.sl U (qws s t)]:=by rw[qrv];rfl
theorem qGa(s:List SymL)(a:List T)(t:T)(h:a.length<=1099511627776):qbm 3 40 (.sl U (a.map (nM s))) (.sl U [nM s t])=some (.sl U (a.map (nM s)++[nM s t])):=by
 unfold qbm;simp only;rw[if_pos (by simp[qqa,qag,qao])];simp only[List.isEmpty_cons,Bool.false_eq_true,if_false];rw[if_pos ⟨by simp;omega,trivial,by simp[qqa]⟩]
def rowAt(s:List SymL)(f:Int)(ks:List T)(i:Nat):List DV:=if qcb s f=true then(qft (qwk s f ks i)).map (T.enc U)else(ks.take i).map (nM s)
theorem rowAt_zero(s:List SymL)(f:Int)(ks:List T):rowAt s f ks 0=[]:=by unfold rowAt;rw[qwh];split<;>rfl
theorem norms_map(s:List SymL):∀l:List T,T.norms s l=l.map (T.norm s)
 | []=>by simp[T.norms]
 |t::r=>by simp[T.norms,norms_map s r]
theorem rowAt_all(s:List SymL)(f v:Int)(ks:List T):DV.agg [.int .i64 f,.int .i64 v,.sl U (rowAt s f ks ks.length)]=nM s (.node f v ks):=by
 rw[qrv];unfold rowAt qws;rw[qyH,List.take_length];simp only[T.qds,T.qfm,T.norm]
 by_cases hb:qcb s f=true
 ·simp only[hb,if_true,T.qbb]
 ·simp only[hb,Bool.false_eq_true,if_false,T.qbb]
  rw[qm3 s f hb,norms_map,List.map_map];rfl
def nB3(f v:Int)(ks:List T)(R:List DV):qaj:=[some [.d (.int .i64 f),.d (.int .i64 v),.d (qam .sub ks)],some [.d (.int .i64 0),.d (.int .i64 0),.d (.sl U [])],some [.d (.int .i64 f),.d (.int .i64 v),.d (.sl U R)]]
def qlW(l:List T)(j:Nat):List DV:=(l.take j).map (T.enc .sub)++(l.drop j).map (T.enc U)
theorem qxx(l:List T)(j:Nat)(h:j<=l.length):(qlW l j).length=l.length:=by unfold qlW;simp;omega
theorem qxy(l:List T)(j:Nat):(qlW l j).map DV.clr=l.map (T.enc .sub):=by
 unfold qlW;rw[List.map_append,qcB,qcB,<-List.map_append,List.take_append_drop]
theorem qAN(l:List T)(j:Nat)(h:j<l.length):(qlW l j)[j]?=some ((tAt l j).enc U):=by
 unfold qlW;rw[List.getElem?_append_right (by simp;omega),List.drop_eq_getElem_cons h,qaH h];simp[Nat.min_eq_left (Nat.le_of_lt h)]
theorem qxw(l:List T)(j:Nat)(h:j<l.length):(qlW l j).set j ((tAt l j).enc .sub)=qlW l (j+1):=by
 unfold qlW;have hm:((l.take j).map (T.enc .sub)).length=j:=by simp;omega
 rw[List.set_append_right _ _ (by rw[hm];exact Nat.le_refl _),hm,Nat.sub_self,List.drop_eq_getElem_cons h,qaH h,List.map_cons,List.set_cons_zero,qfB l j h,List.map_append,List.append_assoc,List.map_cons,List.map_nil];rfl
theorem qxz(l:List T):qlW l l.length=l.map (T.enc .sub):=by unfold qlW;simp
theorem qtG(l:List T):qlW l 0=l.map (T.enc U):=by unfold qlW;simp
theorem qxm(TT:List Nat)(d4:Nat)(s:XS)(b off:Nat)(cs:List AV)(g gt:Tag)(xs:List DV)(k:Nat)(t:T):qtj TT d4 3 s b off cs g xs k (some (t.enc gt))=some (qbf TT ⟨s.r,s.B.set b (some (cs.set off (.d (.sl g (xs.set k (t.enc .sub))))))⟩ (some d4) (.d (t.enc gt))):=by
 rw[<-T.qeP gt t,T.qc0];rfl
theorem qx7(s:List SymL)(hs:s.length<=1099511627776)(f v kf kv:Int)(ks l:List T)(i:Nat)(hl:l.length<=1099511627776):∀(k j:Nat),j+k=l.length->∀acc:List T,qeh acc+qeh (l.drop j)<=1099511627776->∀e:qaj,
 qdL XV (XV.lin 153) 4 [0,3,4,5,6,7,8] qqf ⟨[(0,.d (sg s)),(3,.ptr 0 0),(4,.ptr 1 0),(5,.ptr 2 0),(6,.d (.int .i64 i)),(7,.ptr 3 0),(8,.d (.int .i64 j))],nB3 f v ks (acc.map (T.enc U))++[some [.d (.int .i64 kf),.d (.int .i64 kv),.d (.sl U (qlW l j))]]++e⟩=
  some (.exit 3,⟨[(0,.d (sg s)),(3,.ptr 0 0),(4,.ptr 1 0),(5,.ptr 2 0),(6,.d (.int .i64 i)),(7,.ptr 3 0),(8,.d (.int .i64 l.length)),(32,.d (.bool false))],nB3 f v ks ((qcK acc (l.drop j)).map (T.enc U))++[some [.d (.int .i64 kf),.d (.int .i64 kv),.d (.sl U (l.map (T.enc .sub)))]]⟩):=by
 have head:∀(x:Int) (A e:qaj),A.length=4->qai 4 [0,3,4,5,6,7,8] ⟨[(0,.d (sg s)),(3,.ptr 0 0),(4,.ptr 1 0),(5,.ptr 2 0),(6,.d (.int .i64 i)),(7,.ptr 3 0),(8,.d (.int .i64 x))],A++e⟩=some ⟨[(0,.d (sg s)),(3,.ptr 0 0),(4,.ptr 1 0),(5,.ptr 2 0),(6,.d (.int .i64 i)),(7,.ptr 3 0),(8,.d (.int .i64 x))],A⟩:=fun x A e hA=>
  qd6 (by simp) (by simp[qab]) hA rfl
 intro k
 induction k with
 |zero=>
  intro j hj acc ha e;have:j=l.length:=by omega
  subst this;refine qeA (head _ _ e (by simp[nB3])) ?_ (by simp);rw[List.drop_length,qxz];simp only[qcK];simp[qqf,qfO,qfN,qfM,qhG,qhE,qex,qew,qev,qeu,qhD,qhC,qjw,qhB,qhF,qdZ,nB3,qaf]
 |succ k ih=>
  intro j hj acc ha e;have hlt:j<l.length:=by omega
  have hm:=qaU hlt;have h1:=qge hm;have hd:l.drop j=tAt l j::l.drop (j+1):=by rw[List.drop_eq_getElem_cons hlt,qaH hlt]
  have hw:=qay (n:=j) (by omega);have r1:=qxx l j (by omega);have r2:=qxy l j;have r3:∀h:j<(qlW l j).length,(qlW l j)[j]'h=(tAt l j).enc U:=fun h=>(List.getElem?_eq_some_iff.1 (qAN l j hlt)).2
  have r4:=qxw l j hlt;rw[hd,qbX]at ha;have hp:=qpH acc (tAt l j) (by omega) (by omega);rw[hd];simp only[qcK];rw[<-ih (j+1) (by omega) (ins (tAt l j) acc) (by rw[qgy (qlz _ _),qbX];omega) []];refine qlu (head _ _ e (by simp[nB3])) ?_;generalize qlW l (j+1)=R1 at*
  generalize qlW l j=R0 at*
  simp[qqf,qfO,qfN,qfM,qhG,qhE,qex,qew,qev,qeu,qhD,qhC,qjw,qhB,qhF,qdZ,nB3,hlt,hw,cut,qaH hlt,hp,r1,r2,r3,r4,qxm,qan,VX.linT,splice,qag,qao,qaq,qaL,qaf]
theorem qFj(s:List SymL)(hs:s.length<=1099511627776)(f v:Int)(ks:List T)(hl:qeh ks<=1099511627776)(i:Nat)(hi:i<ks.length)
 (hc:qac XV 153 [.d (sg s),.d ((tAt ks i).enc .sub)] []=some (.d (nM s (tAt ks i)),[])):
 ∃e:qaj,qaD XV (XV.lin 153) qhX ⟨[(0,.d (sg s)),(3,.ptr 0 0),(4,.ptr 1 0),(5,.ptr 2 0),(6,.d (.int .i64 i))],nB3 f v ks (rowAt s f ks i)⟩=
  some (.normal,⟨[(0,.d (sg s)),(3,.ptr 0 0),(4,.ptr 1 0),(5,.ptr 2 0),(6,.d (.int .i64 (i+1:Nat)))],nB3 f v ks (rowAt s f ks (i+1))++e⟩):=by
 have hlen:=qid ks;have hw:=qay (n:=i) (by omega);have hb:=qht s hs f;have ht:=qaH hi;have hm:=qge (qaU hi);have hin:=qg6 s (tAt ks i);have hac:=qwi s f ks i hi;have hcn:=qwj s f ks (i+1);have htk:=qfB ks i hi;have hM:=qyq s (tAt ks i);have hnf:=qzA s (tAt ks i);have hnv:=qzz s (tAt ks i);have happ:=qGa s (ks.take i) (tAt ks i) (by simp;omega);rw[hac,qjy]at hcn;unfold rowAt;rw[hac,htk];rw[qrv]at hc happ;generalize hk:tAt ks i=k at*
 generalize hr:qwk s f ks i=acc at*
 have hXu:qws s k=(k.norm s).kids.map (T.enc U):=rfl;generalize hX:qws s k=X at*
 by_cases h1:qcb s f=true
 ·simp only[h1,if_true]
  by_cases h2:(k.f==f)=true
  ·have e1:qst s f (k.norm s)=(k.norm s).kids:=by unfold qst;rw[hnf,h1,h2];rfl
   rw[e1]at hcn⊢
   have hloop:=qx7 s hs f v k.f k.v ks (k.norm s).kids i (by have:=qid (k.norm s).kids;rw[qng]at this;omega) (k.norm s).kids.length 0 (by omega) (qft acc) (by rw[qgy (qeX acc),List.drop_zero];omega) [];rw[List.drop_zero,qtG,show qcK (qft acc) (k.norm s).kids=qft (acc++(k.norm s).kids)from by unfold qft;rw[qdz]]at hloop;refine⟨[some [.d (.int .i64 k.f),.d (.int .i64 k.v),.d (.sl U ((k.norm s).kids.map (T.enc .sub)))]],?_⟩;have h2n:(k.f !=f)=false:=by simpa using h2
   rw[<-hXu]at hloop;generalize (qft (acc++(k.norm s).kids)).map (T.enc U)=R2 at*
   generalize (qft acc).map (T.enc U)=R1 at*
   generalize (k.norm s).kids=l at*
   simp only[nB3,qux,Int.natCast_zero,List.cons_append,List.nil_append,List.append_nil]at hloop⊢
   simp[qhX,qfO,qfN,qfM,qhG,qhE,qex,qew,qev,qeu,qhD,qhC,qjw,qhB,qhF,qdZ,hi,hw,cut,ht,hc,hb,h1,h2n,hM,splice,qag,qao,qaq,qaL,qaf,AV.qav];rw[hloop];simp[qhX,qfO,qfN,qfM,qhG,qhE,qex,qew,qev,qeu,qhD,qhC,qjw,qhB,qhF,qdZ,hw]
  ·have h2':(k.f==f)=false:=by simpa using h2
   have h2n:(k.f !=f)=true:=by simpa using h2
   have e1:qst s f (k.norm s)=[k.norm s]:=by unfold qst;rw[hnf,h1,h2'];rfl
   rw[e1]at hcn⊢
   rw[show qft (acc++[k.norm s])=ins (k.norm s) (qft acc)from by unfold qft;rw[qdz];rfl];have hp:=qpH (qft acc) (k.norm s) (by rw[qgy (qeX acc)];omega) (by omega);have hke:(k.norm s).enc U= .agg [.int .i64 k.f,.int .i64 k.v,.sl U X]:=by rw[T.qc0,hnf,hnv,hXu]
   simp only[hke]at hp;refine⟨[some [.d (.int .i64 k.f),.d (.int .i64 k.v),.d (qam .sub (k.norm s).kids)]],?_⟩;generalize ins (k.norm s) (qft acc)=R2 at*
   generalize qft acc=R1 at*
   generalize (k.norm s).kids=l at*
   simp[qhX,qfO,qfN,qfM,qhG,qhE,qex,qew,qev,qeu,qhD,qhC,qjw,qhB,qhF,qdZ,nB3,hi,hw,cut,ht,hc,hb,h1,h2n,hM,hp,qan,VX.linT,splice,qag,qao,qaq,qaL,qaf,AV.qav]
 ·have h1':qcb s f=false:=by simpa using h1
  simp only[h1',Bool.false_eq_true,if_false];refine⟨[some [.d (.int .i64 k.f),.d (.int .i64 k.v),.d (qam .sub (k.norm s).kids)]],?_⟩;rw[List.map_append,List.map_cons,List.map_nil,qrv,hX];generalize hR2:(ks.take i).map (nM s)++[.agg [.int .i64 k.f,.int .i64 k.v,.sl U X]]=R2 at*
  generalize (ks.take i).map (nM s)=R1 at*
  generalize (k.norm s).kids=l at*
  simp[qhX,qfO,qfN,qfM,qhG,qhE,qex,qew,qev,qeu,qhD,qhC,qjw,qhB,qhF,qdZ,nB3,hi,hw,cut,ht,hc,hb,h1',happ,hM,splice,qag,qao,qaq,qaL,qaf,AV.qav]
end Go.Proofs.Ytfiakfiocdfpbaa.VS
namespace Go.Proofs.Ytfiakfiocdfpbaa.VS
theorem qBp(s:List SymL)(hs:s.length<=1099511627776)(f v:Int)(ks:List T)(hl:qeh ks<=1099511627776)
 (hc:∀t,t∈ks->qac XV 153 [.d (sg s),.d (t.enc .sub)] []=some (.d (nM s t),[])):∀(k i:Nat),i+k=ks.length->∀e:qaj,
 qdL XV (XV.lin 153) 3 [0,3,4,5,6] qhX ⟨[(0,.d (sg s)),(3,.ptr 0 0),(4,.ptr 1 0),(5,.ptr 2 0),(6,.d (.int .i64 i))],nB3 f v ks (rowAt s f ks i)++e⟩=
  some (.exit 0,⟨[(0,.d (sg s)),(3,.ptr 0 0),(4,.ptr 1 0),(5,.ptr 2 0),(6,.d (.int .i64 ks.length)),(18,.d (.bool false))],nB3 f v ks (rowAt s f ks ks.length)⟩):=by
 have head:∀(x:Int) (A e:qaj),A.length=3->qai 3 [0,3,4,5,6] ⟨[(0,.d (sg s)),(3,.ptr 0 0),(4,.ptr 1 0),(5,.ptr 2 0),(6,.d (.int .i64 x))],A++e⟩=some ⟨[(0,.d (sg s)),(3,.ptr 0 0),(4,.ptr 1 0),(5,.ptr 2 0),(6,.d (.int .i64 x))],A⟩:=fun x A e hA=>
  qd6 (by simp) (by simp[qab]) hA rfl
 intro k
 induction k with
 |zero=>
  intro i hi e;have:i=ks.length:=by omega
  subst this;refine qeA (head _ _ e (by simp[nB3])) ?_ (by simp);generalize rowAt s f ks ks.length=R;simp[qhX,qfO,qfN,qfM,qhG,qhE,qex,qew,qev,qeu,qhD,qhC,qjw,qhB,qhF,qdZ,nB3,qaf]
 |succ k ih=>
  intro i hi e;have hlt:i<ks.length:=by omega
  obtain⟨e',he⟩:=qFj s hs f v ks hl i hlt (hc _ (qaU hlt));rw[<-ih (i+1) (by omega) e'];exact qlu (head _ _ e (by simp[nB3])) he
theorem qnV(s:List SymL)(hs:s.length<=1099511627776)(f v:Int)(ks:List T)(hl:qeh ks<=1099511627776)
 (hc:∀t,t∈ks->qac XV 153 [.d (sg s),.d (t.enc .sub)] []=some (.d (nM s t),[])):
 qac XV 153 [.d (sg s),.d ((T.node f v ks).enc .sub)] []=some (.d (nM s (.node f v ks)),[]):=by
 rw[qas XV _ _ _ qCw rfl qs2 rfl];have hloop:=qBp s hs f v ks hl hc ks.length 0 (by omega) [];rw[<-rowAt_all];simp only[rowAt_zero,List.append_nil,qux,nB3,Int.natCast_zero]at hloop;generalize rowAt s f ks ks.length=R at*
 simp[qCw,qfO,qfN,qfM,splice,qag,qao,qaq,qaL,qaf,AV.qav];rw[hloop];simp[qdZ,splice,qag,qao,qaq,qaL,qaf,AV.qav]
theorem qit(s:List SymL)(hs:s.length<=1099511627776)(t:T)(ht:t.inner<=1099511627776):qac XV 153 [.d (sg s),.d (t.enc .sub)] []=some (.d (nM s t),[]):=by
 match t,ht with
 | .node f v ks,ht=>
  rw[T.qhk]at ht;exact qnV s hs f v ks ht fun x hx=>qit s hs x (by have:=qge hx;omega)
termination_by t
decreasing_by
 simp_wf
 have:=List.sizeOf_lt_of_mem hx;omega
end Go.Proofs.Ytfiakfiocdfpbaa.VS
namespace Go.Proofs.Ytfiakfiocdfpbaa.VS
def dst(n:Int)(neg:Bool)(s:ByteArray):XS:=⟨[(0,.d (.int .i64 n)),(3,.d (.bool neg)),(4,.d (.str s))],[]⟩
end Go.Proofs.Ytfiakfiocdfpbaa.VS
namespace Go.Proofs.Ytfiakfiocdfpbaa.VS
end Go.Proofs.Ytfiakfiocdfpbaa.VS
namespace Go.Proofs.Ytfiakfiocdfpbaa.VS
end Go.Proofs.Ytfiakfiocdfpbaa.VS
namespace Go.Proofs.Ytfiakfiocdfpbaa.VS
def qe7:List SymL:=[⟨⟨#[116,116]⟩,0,false⟩,⟨⟨#[97]⟩,0,false⟩,⟨⟨#[98]⟩,0,false⟩,⟨⟨#[103]⟩,1,false⟩,⟨⟨#[104]⟩,2,false⟩,⟨⟨#[102]⟩,2,true⟩,⟨⟨#[107]⟩,2,true⟩]
theorem qpJ:qac XV 155 [] []=some (.d (.sl U (qe7.map SymL.enc)),[]):=by
 rw[qas XV _ _ _ qCu rfl qs0 rfl];simp[qCu,qze,qzd,qe7,qaJ,List.replicate,splice]
structure SigD(l:List SymL):Prop where
 len:l.length<=9
 sym:∀s,s∈l->s.name.size<=9/\-1<=s.arity/\s.arity<=4
theorem SigD.ok{l:List SymL}(h:SigD l):∀s,s∈l->s.ok:=fun s hs=>by
 obtain⟨h1,h2,h3⟩:=h.sym s hs;exact⟨by unfold maxLen;omega,by omega,by omega⟩
theorem SigD.nm{l:List SymL}(h:SigD l)(n:Nat)(hn:9<=n):∀i,i<l.length->(qaz l i).name.size<=n:=fun i hi=>by
 have:=(h.sym _ (qmd hi)).1;omega
theorem qBC(x y:Int)(r:DV):(DV.int .u8 x).like r=(DV.int .u8 y).like r:=by cases r<;>rfl
theorem qye(bs:List Int):(bs.map (DV.int .u8)).flatMap DV.cells=bs.map (DV.int .u8):=by
 induction bs with
 |nil=>rfl
 |cons b r ih=>simp only[List.map_cons,List.flatMap_cons,ih,DV.cells,List.singleton_append]
theorem qhl(rs:List DV):∀bs:List Int,DV.xrests rs (bs.map (.int .u8))=true
 | []=>by simp[DV.xrests]
 |b::r=>by simp[DV.xrests,DV.xrest,qhl rs r]
theorem qnD(rs:List DV)(h:rs.all (fun r=> !(DV.int .u8 0).like r)=true)(bs:List Int):DV.xrest rs (.sl .sub (bs.map (.int .u8)))=true:=by
 simp only[DV.xrest,qhl,Bool.and_true,qye];cases bs with
 |nil=>rfl
 |cons b r=>
  have:(rs.all fun r=> !(DV.int .u8 b).like r)=true:=by
   rw[<-h];congr 1;funext r;rw[qBC b 0]
  simp[this]
theorem qgI(rs:List DV)(h:rs.all (fun r=> !(DV.int .u8 0).like r)=true)(bs:List Int)(pos st:Int):qbv rs (qbj bs pos st)=true:=by
 simp only[qbv,qbj,List.all_cons,List.all_nil,AV.xrest];rw[qnD rs h bs];simp only[DV.xrest,Bool.and_self]
@[simp] theorem qFn(s:SymL):qa5 s.enc=true:=rfl
@[simp] theorem qCZ(rs:List DV)(s:SymL):DV.xrest rs s.enc=true:=by
 show DV.xrest rs (.agg [.str s.name,.int .i64 s.arity,.bool s.ac])=true;simp only[DV.xrest,DV.xrests,Bool.and_self]
theorem qcT(bs:List Int)(pos st:Int):AV.clrs (qbj bs pos st)=qbj bs pos st:=by simp[qbj]
theorem qDr:SigD qe7:=by
 refine⟨by decide,fun s hs=> ?_⟩;simp only[qe7,List.mem_cons,List.not_mem_nil,or_false]at hs;rcases hs with rfl|rfl|rfl|rfl|rfl|rfl|rfl<;>exact⟨by decide,by decide,by decide⟩
end Go.Proofs.Ytfiakfiocdfpbaa.VS
namespace Go.Proofs.Ytfiakfiocdfpbaa.VS
mutual
def T.rng:T->Prop
 | .node _ v ks=>(-9223372036854775808<=v/\v<=9223372036854775807)/\T.rngs ks
def T.rngs:List T->Prop
 | []=>True
 |t::r=>t.rng/\T.rngs r
end
theorem T.qe5:∀l:List T,T.rngs l↔∀t,t∈l->t.rng
 | []=>by simp[T.rngs]
 |t::r=>by simp[T.rngs,T.qe5 r]
end Go.Proofs.Ytfiakfiocdfpbaa.VS
namespace Go.Proofs.Ytfiakfiocdfpbaa.VS
theorem qcn{bs:List Int}{q:Nat}{B R B':qaj}(hq:q<B.length)(h:qcd bs q (B++R) B'):∃B1,qcd bs q B B1/\B1.length=B.length/\B'=B1++R:=by
 obtain⟨pos,st,hp,rfl⟩:=h;exact⟨B.set q (some (qbj bs pos st)),⟨pos,st,hp,rfl⟩,by simp,by rw[List.set_append_left _ _ hq]⟩
theorem qcE.app{bs:List Int}{q:Nat}{B:qaj}(h:qcE bs q B)(R:qaj):qcE bs q (B++R):=by
 have hq:=h.lt;obtain⟨pos,st,hp,hb⟩:=h;exact⟨pos,st,hp,by have:=qc9 hb;simp[qaV,List.getElem?_append_left hq,this]⟩
theorem qju(A:qaj)(c:Option (List AV))(L:Nat)(h:A.length=L):(A++[c])[L]?=some c:=by subst h;simp
theorem qku(A:qaj)(c c':Option (List AV))(L:Nat)(h:A.length=L):(A++[c]).set L c'=A++[c']:=by subst h;simp
theorem qvq(A:qaj)(c:Option (List AV))(L:Nat)(h:A.length=L):(A++[c]).take L=A:=by subst h;simp
theorem qob(bs:List Int)(hl:bs.length<=1099511627776)(B:qaj)(i:Nat)(h:qcE bs i B)(n:Int)(hn:0<n)(hn2:n<=256):∃(b:Bool) (B':qaj),qcd bs i B B'/\qac XV 162 [.ptr i 0,.d (.int .i64 n)] B=some (.d (.bool b),B'):=by
 obtain⟨r,B',hr,hT,hc⟩:=qcp bs hl B i h n hn hn2;have hi:=h.lt;have hlen:=hT.len;have htake:List.take B.length B'=B':=List.take_of_length_le (by omega);refine⟨r==0,B',hT,?_⟩;rw[qas XV _ _ _ qCp rfl qsV rfl];simp[qCp,qy0,qyZ,hc,htake,hi]
theorem qpI(f:Int)(ks:List T):qac XV 164 [.d (.int .i64 f),.d (qam .sub ks)] []=some (.d ((T.node f 0 ks).enc .sub),[]):=by
 rw[qas XV _ _ _ v164 rfl qsT rfl];simp[v164,qyW,qyV,splice,qag,qao,qaq,qaL,qaf]
theorem qtl{n:Nat}(h:n<9223372036854775808):IntKind.i64.wrap (((n+1:Nat):Int)-1)=n:=by
 rw[show((n+1:Nat):Int)-1=n by omega];exact wrap_i64 (by omega) (by omega)
def qjh:VCode:=(.seq (.seq (.region false 0 [0,2,6,20] qmp) (.cond (.t 20) (.seq (.region false 0 [6] qtY) .ret) .skip)) (.seq (.region false 0 [6] qpp) .ret))
def qow:VCode:=(.seq (.region false 0 [0,1,2,6,7] qpo) (.seq (.region false 0 [0,1,2,6,7,8] qpn) (.seq (.seq (.region false 0 [0,1,2,6,7,8,39] qpm) (.cond (.t 39) (.region false 0 [6,7,8] qpl) .skip)) (.seq (.region false 0 [6] qpk) .ret))))
def qhi:VCode:= .seq (.seq (.region false 0 [0,1,2,6,14] qkd) (.cond (.t 14) qjh .skip)) qow
theorem qAE:qCn=⟨3,[.cell 6 true 3],.seq (.region false 1 [0,1,2,6] qtZ) qhi⟩:=rfl
theorem qp1(bs:List Int)(hl:bs.length<=1099511627776)(deep vars:Int)(hv:vars<=256)(B:qaj)(q:Nat)(h:qcE bs q B)(L:Nat)(hL:B.length=L)(C:Option (List AV))(hC:C=some [.d (.int .i64 0),.d (.int .i64 0),.d (.sl U [])]):
 ∃(t:T) (g:Tag) (B':qaj),(t.inner=0/\t.rng)/\qcd bs q B B'/\B'.length=L/\
  qaD XV (XV.lin 166) qjh ⟨[(0,.ptr q 0),(1,.d (.int .i64 deep)),(2,.d (.int .i64 vars)),(6,.ptr L 0),(14,.d (.bool true))],B++[C]⟩=
   some (.ret,⟨[(6,.ptr L 0)],B'++[some [.d (.int .i64 t.f),.d (.int .i64 t.v),.d (.sl g (t.kids.map (T.enc g)))]]⟩):=by
 subst hC;have hq:=h.lt;have leaf2:∀B1:qaj,qcd bs q B B1->B1.length=L->∃(t:T) (g:Tag) (B':qaj),(t.inner=0/\t.rng)/\qcd bs q B B'/\B'.length=L/\
  ∀b20:AV,qaD XV (XV.lin 166) (.seq (.region false 0 [6] qpp) .ret) ⟨[(0,.ptr q 0),(2,.d (.int .i64 vars)),(6,.ptr L 0),(20,b20)],B1++[some [.d (.int .i64 0),.d (.int .i64 0),.d (.sl U [])]]⟩=
   some (.ret,⟨[(6,.ptr L 0)],B'++[some [.d (.int .i64 t.f),.d (.int .i64 t.v),.d (.sl g (t.kids.map (T.enc g)))]]⟩):=by
  intro B1 hT1 hL1;obtain⟨r,B2,hr,hT2,hc⟩:=qcp bs hl _ q ((hT1.at hq).app [some [.d (.int .i64 0),.d (.int .i64 0),.d (.sl U [])]]) 2 (by omega) (by omega);obtain⟨B3,hT3,hL3,rfl⟩:=qcn (by omega) hT2;rw[hL1]at hL3;have hw:IntKind.i64.wrap (1+r)=1+r:=wrap_i64 (by omega) (by omega);refine⟨.node (1+r) 0 [],U,B3,by simp[T.inner,T.inners,T.rng,T.rngs],hT1.trans hT3,hL3,fun b20=> ?_⟩;simp[qpp,hc,hw,hL3,qju,qku,splice,qag,qao,qaq,qaL]
 by_cases hv0:0<vars
 ·obtain⟨b,B2,hT2,hc⟩:=qob bs hl _ q (h.app [some [.d (.int .i64 0),.d (.int .i64 0),.d (.sl U [])]]) 2 (by omega) (by omega)
  obtain⟨B3,hT3,hL3,rfl⟩:=qcn hq hT2;cases b with
  |true=>
   obtain⟨r,B4,hr,hT4,hc4⟩:=qcp bs hl _ q ((hT3.at hq).app [some [.d (.int .i64 0),.d (.int .i64 0),.d (.sl U [])]]) vars hv0 hv;obtain⟨B5,hT5,hL5,rfl⟩:=qcn (by omega) hT4;have hlv:=qx3 r;rw[hL3,hL]at hL5;refine⟨.node (-1) r [],U,B5,by simp[T.inner,T.inners,T.rng,T.rngs];omega,hT3.trans hT5,hL5,?_⟩;simp[qjh,qmp,qtY,hv0,hc,hc4,hlv,hL5,qju,qku,splice,qag,qao,qaq,qaL]
  |false=>
   obtain⟨t,g,B',h1,h2,h3,h4⟩:=leaf2 B3 hT3 (by omega);refine⟨t,g,B',h1,h2,h3,?_⟩;have h4':=h4 (.d (.bool false));simp only[qjg]at h4';simp[qjh,qmp,hv0,hc];simpa using h4'
 ·obtain⟨t,g,B',h1,h2,h3,h4⟩:=leaf2 B (by
   obtain⟨pos,st,hp,hb⟩:=h;refine⟨pos,st,hp,?_⟩;apply List.ext_getElem?;intro j
   by_cases hj:q=j
   ·subst hj;rw[List.getElem?_set_self',qc9 hb];simp
   ·rw[List.getElem?_set_ne hj]) hL
  refine⟨t,g,B',h1,h2,h3,?_⟩;have h4':=h4 (.d (.bool false));simp only[qjg]at h4';simp[qjh,qmp,hv0];simpa using h4'
theorem qih(L:Nat)(B B':qaj)(q:Nat)(deep vars:Int)(t:T)(g:Tag)(hq:q<B.length)(hL:B.length=L)(hL':B'.length=L)
 (h:qaD XV (XV.lin 166) qhi ⟨[(0,.ptr q 0),(1,.d (.int .i64 deep)),(2,.d (.int .i64 vars)),(6,.ptr L 0)],B++[some [.d (.int .i64 0),.d (.int .i64 0),.d (.sl U [])]]⟩=
  some (.ret,⟨[(6,.ptr L 0)],B'++[some [.d (.int .i64 t.f),.d (.int .i64 t.v),.d (.sl g (t.kids.map (T.enc g)))]]⟩)):
 qac XV 166 [.ptr q 0,.d (.int .i64 deep),.d (.int .i64 vars)] B=some (.d (t.enc g),B'):=by
 rw[qas XV _ _ _ qCn rfl qsR rfl,qAE];simp only[qjg]at h;obtain⟨f,v,ks⟩:=t;simp only[T.qds,T.qfm,T.qbb]at h;simp[qtZ,hL,qju,qku,hq];rw[h];simp[hL',qju,qvq,qaf]
theorem qfw(bs:List Int)(hl:bs.length<=1099511627776):∀(d:Nat),d<=8->∀(vars:Int),vars<=256->∀(B:qaj) (q:Nat),qcE bs q B->
 ∃(t:T) (g:Tag) (B':qaj),(t.inner+2<=2^(d+1)/\t.rng)/\qcd bs q B B'/\qac XV 166 [.ptr q 0,.d (.int .i64 d),.d (.int .i64 vars)] B=some (.d (t.enc g),B'):=by
 intro d
 induction d with
 |zero=>
  intro _ vars hv B q hs;obtain⟨t,g,B',h1,h2,h3,h4⟩:=qp1 bs hl 0 vars hv B q hs B.length rfl _ rfl;refine⟨t,g,B',⟨by omega,h1.2⟩,h2,qih B.length B B' q 0 vars t g hs.lt rfl h3 ?_⟩;simp only[qjg]at h4⊢
  simp[qhi,qkd];rw[h4];simp
 |succ d ih=>
  intro hd vars hv B q hs;have hq:=hs.lt;obtain⟨b,B2,hT2,hc⟩:=qob bs hl _ q (hs.app [some [.d (.int .i64 0),.d (.int .i64 0),.d (.sl U [])]]) 3 (by omega) (by omega);obtain⟨B3,hT3,hL3,rfl⟩:=qcn hq hT2;have hne:(((d+1:Nat):Int)==0)=false:=by simpa using (show¬(((d+1:Nat):Int)=0)by omega)
  cases b with
  |true=>
   obtain⟨t,g,B',h1,h2,h3,h4⟩:=qp1 bs hl ((d+1:Nat):Int) vars hv B3 q (hT3.at hq) B.length hL3 _ rfl;refine⟨t,g,B',⟨by have:2^1<=2^(d+1+1):=Nat.pow_le_pow_right (by omega) (by omega);omega,h1.2⟩,hT3.trans h2,qih B.length B B' q _ vars t g hq rfl h3 ?_⟩;simp only[qjg]at h4⊢
   generalize ((d+1:Nat):Int)=D at*
   simp[qhi,qkd,hne,hc];rw[h4];simp
  |false=>
   obtain⟨j,hj,B4,hT4,hc4⟩:=qeB bs hl _ q ((hT3.at hq).app [some [.d (.int .i64 0),.d (.int .i64 0),.d (.sl U [])]]) [3,4,5,5,6] (by simp) (by simp);obtain⟨B5,hT5,hL5,rfl⟩:=qcn (by omega) hT4;generalize ([3,4,5,5,6]:List Int)[j]=f at hc4;obtain⟨t1,g1,B6,hi1,hT6,hc6⟩:=ih (by omega) vars hv _ q ((hT5.at (by omega)).app [some [.d (.int .i64 0),.d (.int .i64 0),.d (.sl U [])]]);obtain⟨B7,hT7,hL7,rfl⟩:=qcn (by omega) hT6;have hw:=qtl (n:=d) (by omega)
   by_cases hf:3<f
   ·obtain⟨t2,g2,B8,hi2,hT8,hc8⟩:=ih (by omega) vars hv _ q ((hT7.at (by omega)).app [some [.d (.int .i64 0),.d (.int .i64 0),.d (.sl U [])]])
    obtain⟨B9,hT9,hL9,rfl⟩:=qcn (by omega) hT8;have hof:qac XV 164 [.d (.int .i64 f),.d (.sl .sub [t1.enc .sub,t2.enc .sub])] []=some (.d (.agg [.int .i64 f,.int .i64 0,.sl .sub [t1.enc .sub,t2.enc .sub]]),[]):=by
     have:=qpI f [t1,t2];rw[T.qc0]at this;exact this
    refine⟨.node f 0 [t1,t2],.sub,B9,⟨by simp only[T.inner,T.inners,List.length_cons,List.length_nil];rw[Nat.pow_succ];omega,by simp[T.rng,T.rngs,hi1.2,hi2.2]⟩,hT3.trans (hT5.trans (hT7.trans hT9)),qih B.length B B9 q _ vars _ .sub hq rfl (by omega) ?_⟩;have e9:B9.length=B.length:=by omega
    have e7:B7.length=B.length:=by omega
    have e5:B5.length=B.length:=by omega
    simp only[List.map_cons,List.map_nil]at hc4;generalize ((d+1:Nat):Int)=D at*
    generalize (d:Int)=D0 at*
    simp[qhi,qow,qkd,qpo,qpn,qpm,qpl,qpk,hne,hc,hc4,hw,hc6,hf,hc8,hof,e9,qaJ,List.replicate,qju,qku,splice,qag,qao,qaq,qaL,qbm]
   ·have hof:qac XV 164 [.d (.int .i64 f),.d (.sl .sub [t1.enc .sub])] []=some (.d (.agg [.int .i64 f,.int .i64 0,.sl .sub [t1.enc .sub]]),[]):=by
     have:=qpI f [t1];rw[T.qc0]at this;exact this
    refine⟨.node f 0 [t1],.sub,B7,⟨by simp only[T.inner,T.inners,List.length_cons,List.length_nil];rw[Nat.pow_succ];omega,by simp[T.rng,T.rngs,hi1.2]⟩,hT3.trans (hT5.trans hT7),qih B.length B B7 q _ vars _ .sub hq rfl (by omega) ?_⟩;have e7:B7.length=B.length:=by omega
    have e5:B5.length=B.length:=by omega
    simp only[List.map_cons,List.map_nil]at hc4;generalize ((d+1:Nat):Int)=D at*
    generalize (d:Int)=D0 at*
    simp[qhi,qow,qkd,qpo,qpn,qpm,qpl,qpk,hne,hc,hc4,hw,hc6,hf,hof,e7,qaJ,List.replicate,qju,qku,splice,qag,qao,qaq,qaL,qbm]
end Go.Proofs.Ytfiakfiocdfpbaa.VS
namespace Go.Proofs.Ytfiakfiocdfpbaa.VS
theorem qyF(s:List SymL)(f:Int)(k:T)(h:k.rng):T.rngs (qst s f k):=by
 unfold qst;split
 ·obtain⟨a,b,c⟩:=k;exact h.2
 ·exact⟨h,trivial⟩
theorem qk1{a b:List T}(h1:T.rngs a)(h2:T.rngs b):T.rngs (a++b):=by
 rw[T.qe5]at*
 intro t ht;rcases List.mem_append.1 ht with h|h
 ·exact h1 t h
 ·exact h2 t h
theorem qm2(s:List SymL)(f:Int):∀l:List T,T.rngs l->T.rngs (flatK s f l)
 | [],_=>by simp[flatK,T.rngs]
 |k::l,h=>by rw[qg9];exact qk1 (qyF s f k h.1) (qm2 s f l h.2)
mutual
theorem qpA(s:List SymL):∀t:T,t.rng->(t.norm s).rng
 | .node f v ks,h=>by
  have h2:=qm2 s f _ (qmK s ks h.2);simp only[T.norm];split
  ·refine⟨h.1,?_⟩
   rw[T.qe5]at h2⊢
   exact fun t ht=>h2 t ((qeX _).mem_iff.1 ht)
  ·exact⟨h.1,h2⟩
theorem qmK(s:List SymL):∀l:List T,T.rngs l->T.rngs (T.norms s l)
 | [],_=>trivial
 |t::r,h=>⟨qpA s t h.1,qmK s r h.2⟩
end
theorem qeJ(bs:List Int)(hl:bs.length<=1099511627776)(vars:Int)(hv:vars<=256)(B:qaj)(q:Nat)(h:qcE bs q B):
 ∃(t:T) (B':qaj),(t.inner<=6/\t.rng)/\(∃u,t=T.norm qe7 u)/\qcd bs q B B'/\qac XV 163 [.ptr q 0,.d (.int .i64 vars)] B=some (.d (t.enc U),B'):=by
 have hq:=h.lt;obtain⟨t,g,B1,hi,hT,hc⟩:=qfw bs hl 2 (by omega) vars hv _ q (h.app [some [.d (.int .i64 0),.d (.int .i64 0),.d (.sl U [])]]);obtain⟨B2,hT2,hL2,rfl⟩:=qcn hq hT;have hn:=qit qe7 (by decide) t (by omega);have hin:=qg6 qe7 t;refine⟨t.norm qe7,B2,⟨by omega,qpA qe7 t hi.2⟩,⟨t,rfl⟩,hT2,?_⟩;rw[qas XV _ _ _ qCo rfl qsU rfl];have hsg:=qpJ;rw[qrv]at hn;have e:(t.norm qe7).enc U= .agg [.int .i64 t.f,.int .i64 t.v,.sl U (qws qe7 t)]:=by rw[<-qrv];rfl
 rw[e];generalize qws qe7 t=X at*
 have hc':qac XV 166 [AV.ptr q 0,AV.d (DV.int IntKind.i64 2),AV.d (DV.int IntKind.i64 vars)] (B++[some [AV.d (DV.int IntKind.i64 0),AV.d (DV.int IntKind.i64 0),AV.d (DV.sl U [])]])=some (AV.d (t.enc g),B2++[some [AV.d (DV.int IntKind.i64 0),AV.d (DV.int IntKind.i64 0),AV.d (DV.sl U [])]]):=hc;simp[qCo,qyY,qyX,hq,hsg,hc',hn,hL2,qju,qku,qvq,qaf,splice,qag,qao,qaq,qaL]
end Go.Proofs.Ytfiakfiocdfpbaa.VS
namespace Go.Proofs.Ytfiakfiocdfpbaa.VS
def fc(l:List T):List DV:=l.flatMap fun t=>(t.enc U).cells
def fcs(l:List T):List DV:=l.flatMap fun t=>(t.enc .sub).cells
theorem qIR(l:List T):(l.map (T.enc U)).flatMap DV.cells=fc l:=by unfold fc;rw[List.flatMap_map]
theorem qha(t:T)(l:List T):fc (t::l)= .int .i64 t.f:: .int .i64 t.v:: .sl U (t.kids.map (T.enc U))::fc l:=by
 unfold fc;rw[List.flatMap_cons,T.qc0];rfl
theorem qgq(t:T)(l:List T):fcs (t::l)= .int .i64 t.f:: .int .i64 t.v:: .sl .sub (t.kids.map (T.enc .sub))::fcs l:=by
 unfold fcs;rw[List.flatMap_cons,T.qc0];rfl
theorem qFz(a b:List T):fc (a++b)=fc a++fc b:=by unfold fc;simp
theorem qu8(a b:List T):fcs (a++b)=fcs a++fcs b:=by unfold fcs;simp
theorem qm6:∀l:List T,(fc l).map DV.clr=fcs l
 | []=>rfl
 |t::l=>by rw[qha,qgq,List.map_cons,List.map_cons,List.map_cons,qm6 l];simp
theorem qfi:∀l:List T,(fc l).length=l.length*3
 | []=>rfl
 |t::l=>by rw[qha];simp[qfi l];omega
theorem qu7:∀l:List T,(fcs l).length=l.length*3
 | []=>rfl
 |t::l=>by rw[qgq];simp[qu7 l];omega
theorem qgm(f:AV->Option DV):∀(a b:List AV) {x y:List DV},qdM f a=some x->qdM f b=some y->qdM f (a++b)=some (x++y)
 | [],b,x,y,h1,h2=>by simp[qdM]at h1;subst h1;simpa using h2
 |v::a,b,x,y,h1,h2=>by
  simp only[qdM]at h1;obtain⟨d,e1,h1⟩:=Option.bind_eq_some_iff.1 h1;obtain⟨x',e2,rfl⟩:=Option.map_eq_some_iff.1 h1;simp only[List.cons_append,qdM,e1,qgm f a b e2 h2,Option.bind_some,Option.map_some]
theorem qks(M:qaj)(n:Nat):∀l:List DV,qdM (AV.frzC M n) (l.map .d)=some l
 | []=>rfl
 |d::l=>by
  simp only[List.map_cons,qdM,qzM,qks M n l,Option.bind_some,Option.map_some]
theorem qjA{d:DV}{k:IntKind}{n:Int}(h:d.clr= .int k n):d= .int k n:=by
 cases d<;>simp[DV.clr]at h⊢<;>exact h
theorem qr4{d:DV}{l:List DV}(h:d.clr= .sl .sub l):∃g xs,d= .sl g xs/\DV.clrs xs=l:=by
 cases d<;>simp[DV.clr]at h
 exact⟨_,_,rfl,h⟩
theorem qor{t:T}{l:List T}{ds:List DV}(h:ds.map DV.clr=fcs (t::l)):∃g xs r,ds= .int .i64 t.f:: .int .i64 t.v:: .sl g xs::r/\DV.clrs xs=t.kids.map (T.enc .sub)/\r.map DV.clr=fcs l:=by
 rw[qgq]at h
 match ds,h with
 | [],h=>simp at h
 | [_],h=>simp at h
 | [_,_],h=>simp at h
 |d0::d1::d2::r,h=>
  simp only[List.map_cons,List.cons.injEq]at h;obtain⟨h0,h1,h2,h3⟩:=h;obtain⟨g,xs,rfl,hx⟩:=qr4 h2;exact⟨g,xs,r,by rw[qjA h0,qjA h1],hx,h3⟩
theorem qpX:∀(l:List T) (ds:List DV),ds.map DV.clr=fcs l->ds.all DV.isCell=true
 | [],ds,h=>by
  have:ds=[]:=by simpa[fcs]using h
  subst this;rfl
 |t::l,ds,h=>by
  obtain⟨g,xs,r,rfl,hx,hr⟩:=qor h;simp[qag,qao];simpa using qpX l r hr
theorem qkt:∀(l:List T) (ds:List DV),ds.map DV.clr=fcs l->∃xs,chunks true 3 l.length ds=some xs/\xs.map DV.clr=l.map (T.enc .sub)
 | [],ds,h=>⟨[],rfl,rfl⟩
 |t::l,ds,h=>by
  obtain⟨g,xs,r,rfl,hx,hr⟩:=qor h;obtain⟨ys,h1,h2⟩:=qkt l r hr;refine⟨.agg [.int .i64 t.f,.int .i64 t.v,.sl g xs]::ys,?_,?_⟩
  ·simp[chunks,cut,qag,qao,h1,DV.cells]
  ·rw[List.map_cons,List.map_cons,h2,T.qc0]
   simp only[DV.clr,DV.clrs,hx]
theorem qCd(B:qaj)(i:Nat)(h:2<=i):qaV (qcw 2 B) i=qaV B i:=by
 unfold qaV qcw;rw[List.getElem?_append_right (by simp;exact h),List.length_replicate,List.getElem?_drop,show 2+(i-2)=i by omega]
def Ctx(j:Nat)(B:qaj)(A D:List T)(N:Nat):Prop:=
 ∀(B':qaj) (cs:List AV) (u:T) (ds:List DV),B'.length=6->(∀i,j<i->B'[i]?=B[i]?)->B'[j]?=some (some cs)->qdM (AV.frzC (qcw 2 B') (j+1)) cs=some ds->ds.map DV.clr=fcs (A++u::D)->
  ∃(c5:List AV) (ds5:List DV) (t':T),B'[5]?=some (some c5)/\qdM (AV.frzC (qcw 2 B') 6) c5=some ds5/\ds5.map DV.clr=fcs [t']/\t'.inner<=N+u.inner/\(u.rng->t'.rng)
theorem Ctx.base(B:qaj):Ctx 5 B [] [] 0:=fun B' cs u ds h1 h2 h3 h4 h5=>⟨cs,ds,u,h3,h4,h5,by omega,id⟩
theorem qeY:∀a b:List T,T.inners (a++b)=T.inners a+T.inners b
 | [],b=>by simp[T.inners]
 |t::a,b=>by simp only[List.cons_append,T.inners,qeY a b];omega
theorem Ctx.step{j:Nat}{B B1:qaj}{A D A' D':List T}{N m:Nat}{f v:Int}(hj:2<=j)(h:Ctx (j+1) B A D N)(hag:∀i,j+1<i->B1[i]?=B[i]?)
 (hat:B1[j+1]?=some (some ((fc A).map .d++([.d (.int .i64 f),.d (.int .i64 v),.tsl true j 3 m]++(fc D).map .d)))) (hm:A'.length+1+D'.length=m) (hv: -9223372036854775808<=v/\v<=9223372036854775807) (hA:T.rngs A') (hD:T.rngs D'):Ctx j B1 A' D' (N+(m+T.inners A'+T.inners D')):=by
 intro B' cs u ds h1 h2 h3 h4 h5;have hlen:ds.length=m*3:=by
  have:=congrArg List.length h5;rw[List.length_map,qu7]at this;rw[this];simp only[List.length_append,List.length_cons];rw[<-hm];congr 1;omega
 obtain⟨xs,hx1,hx2⟩:=qkt _ _ h5;have hm':(A'++u::D').length=m:=by simp only[List.length_append,List.length_cons];omega
 rw[hm']at hx1;have htsl:AV.frzC (qcw 2 B') (j+1+1) (.tsl true j 3 m)=some (.sl .sub xs):=by
  simp only[AV.frzC];rw[qCd _ _ hj];simp only[qaV,h3,Option.bind_some,h4,hlen,if_true,hx1,Option.map_some]
 have hmid:qdM (AV.frzC (qcw 2 B') (j+1+1)) [.d (.int .i64 f),.d (.int .i64 v),.tsl true j 3 m]=some [.int .i64 f,.int .i64 v,.sl .sub xs]:=by
  simp only[qdM,htsl,qzM,Option.bind_some,Option.map_some]
 have hfr:=qgm _ _ _ (qks (qcw 2 B') (j+1+1) (fc A)) (qgm _ _ _ hmid (qks (qcw 2 B') (j+1+1) (fc D)));have hclr:(fc A++([DV.int .i64 f,DV.int .i64 v,DV.sl .sub xs]++fc D)).map DV.clr=fcs (A++(T.node f v (A'++u::D'))::D):=by
  rw[List.map_append,List.map_append,qm6,qm6,qu8,qgq];simp only[List.map_cons,List.map_nil,DV.clr,DV.qav,hx2,T.qds,T.qfm,T.qbb,List.cons_append,List.nil_append]
 obtain⟨c5,ds5,t',e1,e2,e3,e4,e4r⟩:=h B' _ _ _ h1 (fun i hi=>by rw[h2 i (by omega),hag i hi]) (by rw[h2 (j+1) (by omega),hat]) hfr hclr;refine⟨c5,ds5,t',e1,e2,e3,?_,fun hu=>e4r ⟨hv,qk1 hA ⟨hu,hD⟩⟩⟩;have e5:(T.node f v (A'++u::D')).inner=m+(T.inners A'+(u.inner+T.inners D')):=by rw[T.qgF,T.qbb,hm',qeY];rfl
 omega
end Go.Proofs.Ytfiakfiocdfpbaa.VS
namespace Go.Proofs.Ytfiakfiocdfpbaa.VS
def qcH(A:List T)(x0 x1 x2:AV)(D:List T):List AV:=(fc A).map .d++([x0,x1,x2]++(fc D).map .d)
theorem qc3(A:List T)(x0 x1 x2:AV)(D:List T):(qcH A x0 x1 x2 D).length=A.length*3+3+D.length*3:=by
 unfold qcH;simp[qfi];omega
theorem qoU(A:List T)(x0 x1 x2:AV)(D:List T):(qcH A x0 x1 x2 D)[A.length*3+2]?=some x2:=by
 unfold qcH;rw[List.getElem?_append_right (by simp[qfi])];simp[qfi]
theorem qtH(A:List T)(x0 x1 x2 y:AV)(D:List T):(qcH A x0 x1 x2 D).set (A.length*3+2) y=qcH A x0 x1 y D:=by
 unfold qcH;rw[List.set_append_right _ _ (by simp[qfi])];simp[qfi]
theorem qAP(A:List T)(x0 x1 x2 y:AV)(D:List T):(qcH A x0 x1 x2 D).set (A.length*3) y=qcH A y x1 x2 D:=by
 unfold qcH;rw[List.set_append_right _ _ (by simp[qfi])];simp[qfi]
theorem qAO(A:List T)(x0 x1 x2 y:AV)(D:List T):(qcH A x0 x1 x2 D).set (A.length*3+1) y=qcH A x0 y x2 D:=by
 unfold qcH;rw[List.set_append_right _ _ (by simp[qfi])];simp[qfi]
theorem qgK{cs:List AV}{k:Nat}(h:k<cs.length)(y:AV):splice cs k [y]=cs.set k y:=by
 unfold splice;rw[List.set_eq_take_append_cons_drop,if_pos h];simp
theorem qAR(A:List T)(x0 x1 x2 y:AV)(D:List T):splice (qcH A x0 x1 x2 D) (A.length*3) [y]=qcH A y x1 x2 D:=by
 rw[qgK (by rw[qc3];omega),qAP]
theorem qAQ(A:List T)(x0 x1 x2 y:AV)(D:List T):splice (qcH A x0 x1 x2 D) (A.length*3+1) [y]=qcH A x0 y x2 D:=by
 rw[qgK (by rw[qc3];omega),qAO]
theorem qtI(A:List T)(x0 x1 x2 y:AV)(D:List T):splice (qcH A x0 x1 x2 D) (A.length*3+2) [y]=qcH A x0 x1 y D:=by
 rw[qgK (by rw[qc3];omega),qtH]
def TR(rs:List DV):Prop:=rs.all (fun r=> !(DV.int .u8 0).like r)=true
theorem qGd:∀l:List T,TR (fc l)
 | []=>rfl
 |t::l=>by
  have:=qGd l;unfold TR at this⊢
  rw[qha];simp only[List.all_cons,this,Bool.and_true];rfl
mutual
theorem qxB(rs:List DV):∀t:T,DV.xrest rs (t.enc U)=true
 | .node f v ks=>by
  rw[T.qc0];simp only[ql4,qfo,ql2,qsE,qgH,Bool.and_true,Bool.true_and,T.qbb];exact qeq rs ks
theorem qeq(rs:List DV):∀l:List T,DV.xrests rs (l.map (T.enc U))=true
 | []=>by simp only[List.map_nil,qgH]
 |t::l=>by simp only[List.map_cons,qfo,qxB rs t,qeq rs l,Bool.and_true]
end
theorem qtM(rs:List DV):∀l:List T,DV.xrests rs (fc l)=true
 | []=>by simp[fc]
 |t::l=>by rw[qha];simp[qeq,qtM rs l]
theorem qe1(rs:List DV):∀l:List T,qbv rs ((fc l).map .d)=true
 | []=>by simp[fc]
 |t::l=>by rw[qha];simp[qeq,qe1 rs l]
theorem qgv(rs:List DV)(a b:List AV):qbv rs (a++b)=(qbv rs a&&qbv rs b):=by simp[qbv]
theorem qgD(rs:List DV)(B:qaj)(i:Nat)(cs:List AV)(h:qaT rs B=true)(hc:qbv rs cs=true):qaT rs (B.set i (some cs))=true:=by
 unfold qaT at h⊢
 rw[List.all_eq_true]at h⊢
 intro x hx;rcases List.mem_or_eq_of_mem_set hx with h1|h1
 ·exact h x h1
 ·subst h1;exact hc
structure WS(bs:List Int)(j k:Nat)(B:qaj)(A D:List T)(f v:Int)(ks:List T)(N:Nat):Prop where
 jk:j+k=5
 j2:2<=j
 len:B.length=6
 seed:qcE bs 0 B
 one:B[1]?=some (some [.d (.int .i64 0),.d (.int .i64 0),.d (.sl U [])])
 free:∀i,2<=i->i<j->B[i]?=some none
 at_:B[j]?=some (some (qcH A (.d (.int .i64 f)) (.d (.int .i64 v)) (.d (.sl U (ks.map (T.enc U)))) D))
 rest:∀rs,TR rs->qaT rs B=true
 ctx:Ctx j B A D N
 siz:N+(T.node f v ks).inner<=6
 rg:(T.node f v ks).rng
theorem WS.turn{bs:List Int}{j k:Nat}{B:qaj}{A D:List T}{f v:Int}{ks:List T}{N:Nat}(h:WS bs j k B A D f v ks N){B':qaj}(hT:qcd bs 0 B B'):WS bs j k B' A D f v ks N:=by
 have h0:=hT.at (by rw[h.len];omega);obtain⟨pos,st,hp,rfl⟩:=hT;have e:∀i,1<=i->(B.set 0 (some (qbj bs pos st)))[i]?=B[i]?:=fun i hi=>by rw[List.getElem?_set_ne (by omega)]
 have hj:=h.j2;refine⟨h.jk,h.j2,by simp[h.len],h0,by rw[e 1 (by omega)];exact h.one,fun i h1 h2=>by rw[e i (by omega)];exact h.free i h1 h2,by rw[e j (by omega)];exact h.at_,fun rs hr=>qgD rs B 0 _ (h.rest rs hr) (qgI rs hr bs pos st),?_,h.siz,h.rg⟩;intro B' cs u ds h1 h2;exact h.ctx B' cs u ds h1 (fun i hi=>by rw[h2 i hi,e i (by omega)])
theorem qFx{bs:List Int}{j k:Nat}{B:qaj}{A D:List T}{f v:Int}{ks:List T}{N:Nat}(h:WS bs (j+1) k B A D f v ks N)(hk:0<ks.length)(hj:2<=j)(x5 x22:DV)(h5:∀rs,DV.xrest rs x5=true):
 qnu (.focC 4 2 [0,2,3,4,5]) ⟨[(0,.ptr 0 0),(2,.ptr 1 0),(3,.ptr 5 0),(4,.ptr (j+1) (A.length*3)),(5,.d x5),(22,.d x22)],B⟩=
  some ⟨[(0,.ptr 0 0),(2,.ptr 1 0),(3,.ptr 5 0),(4,.ptr (j+1) (A.length*3)),(5,.d x5)],(B.set (j+1) (some (qcH A (.d (.int .i64 f)) (.d (.int .i64 v)) (.tsl true j 3 ks.length) D))).set j (some ((fc ks).map .d))⟩:=by
 have hat:=h.at_;have hfree:=h.free j hj (by omega);have hr:=h.rest (fc ks) (qGd ks);have hc:qbv (fc ks) (qcH A (.d (.int .i64 f)) (.d (.int .i64 v)) (.tsl true j 3 ks.length) D)=true:=by
  unfold qcH;rw[qgv,qgv,qe1,qe1];simp
 have hb:=qgD (fc ks) B (j+1) _ hr hc;have hx:=qtM (fc ks) ks;have hg:=qoU A (.d (.int .i64 f)) (.d (.int .i64 v)) (.d (.sl U (ks.map (T.enc U)))) D;have hs:=qtH A (.d (.int .i64 f)) (.d (.int .i64 v)) (.d (.sl U (ks.map (T.enc U)))) (.tsl true j 3 ks.length) D;have hlen:(ks.map (T.enc U)).length=ks.length:=by simp
 cases ks with
 |nil=>simp at hk
 |cons k0 kr=>
  have hfc:(T.enc U k0::kr.map (T.enc U)).flatMap DV.cells=fc (k0::kr):=by rw[<-qIR];rfl
  have hag:qa5 (k0.enc U)=true:=by rw[T.qc0];rfl
  have hcl:(k0.enc U).cells.length=3:=by simp
  have hbg:qaV B (j+1)=some (qcH A (.d (.int .i64 f)) (.d (.int .i64 v)) (.d (.sl U (T.enc U k0::kr.map (T.enc U)))) D):=by simp only[qaV,hat,List.map_cons]
  simp only[List.map_cons]at hg hs hlen;have hw:xFc 2 [0,2,3,4,5] ⟨[(0,.ptr 0 0),(2,.ptr 1 0),(3,.ptr 5 0),(4,.ptr (j+1) (A.length*3)),(5,.d x5),(22,.d x22)],B⟩ j (A.length*3) (qcH A (.d (.int .i64 f)) (.d (.int .i64 v)) (.d (.sl U (T.enc U k0::kr.map (T.enc U)))) D) (some (.d (.sl U (T.enc U k0::kr.map (T.enc U)))))=
   some ⟨[(0,.ptr 0 0),(2,.ptr 1 0),(3,.ptr 5 0),(4,.ptr (j+1) (A.length*3)),(5,.d x5)],(B.set (j+1) (some (qcH A (.d (.int .i64 f)) (.d (.int .i64 v)) (.tsl true j 3 (k0::kr).length) D))).set j (some ((fc (k0::kr)).map .d))⟩:=by
   rw[quV,hfc,hag,hcl,show(kr.map (T.enc U)).length+1=(k0::kr).length from by simp,hs,if_pos ⟨by simp[qbJ,hfree],by simp[keep,lk,h5],hb,hx⟩];rfl
  rw[qzL];simp only[lk,Nat.reduceEqDiff,if_false,if_true];rw[quW,hbg,Option.bind_some,hg];exact hw
end Go.Proofs.Ytfiakfiocdfpbaa.VS
namespace Go.Proofs.Ytfiakfiocdfpbaa.VS
theorem qd9(bs:List Int)(pos st:Int):qaA (qbj bs pos st)=some [.sl .sub (bs.map (.int .u8)),.int .i64 pos,.int .i64 st]:=by simp[qbj]
theorem qfc{B:qaj}{i j:Nat}{c:Option (List AV)}(h:i≠j):(B.set i c)[j]?=B[j]?:=by rw[List.getElem?_set_ne h]
theorem qxA{ks:List T}{r:Nat}(h:r<ks.length):(fc ks).map AV.d=qcH (ks.take r) (.d (.int .i64 (tAt ks r).f)) (.d (.int .i64 (tAt ks r).v)) (.d (.sl U ((tAt ks r).kids.map (T.enc U)))) (ks.drop (r+1)):=by
 have e:ks=ks.take r++tAt ks r::ks.drop (r+1):=by
  conv=>lhs;rw[<-List.take_append_drop r ks,List.drop_eq_getElem_cons h,qaH h]
 conv=>lhs;rw[e,qFz,qha]
 unfold qcH;simp
theorem qIN(bs:List Int)(hl:bs.length<=1099511627776){j k:Nat}{B:qaj}{A D:List T}{f v:Int}{ks:List T}{N:Nat}(h:WS bs (j+1) k B A D f v ks N)(hk:0<ks.length)(hj:2<=j):
 ∃(B':qaj) (A' D':List T) (f' v':Int) (ks':List T) (N':Nat),WS bs j (k+1) B' A' D' f' v' ks' N'/\
  qaD XV (XV.lin 161) (.seq (.block 1 (.ghost (.focC 4 2 [0,2,3,4,5]) (.region true 0 [0,2,3,4,5] qmq))) (.region false 0 [0,2,3,4,5] qpq)) ⟨[(0,.ptr 0 0),(2,.ptr 1 0),(3,.ptr 5 0),(4,.ptr (j+1) (A.length*3)),(5,.d (.int .i64 k)),(22,.d (.bool true))],B⟩=
   some (.normal,⟨[(0,.ptr 0 0),(2,.ptr 1 0),(3,.ptr 5 0),(4,.ptr j (A'.length*3)),(5,.d (.int .i64 ((k+1:Nat):Int)))],B'⟩):=by
 have hfo:=qFx h hk hj (.int .i64 k) (.bool true) (fun rs=>by simp);have hlen:=h.len;have hjk:=h.jk;obtain⟨pos,st,hp,hb0⟩:=h.seed;have hb0':=qc9 hb0;have hs1:qcE bs 0 [some (qbj bs pos st)]:=⟨pos,st,hp,rfl⟩;have hsz:=h.siz;rw[T.qhk]at hsz;have hcn:=qid ks;obtain⟨r,B1,hr,⟨pos1,st1,hp1,rfl⟩,hc⟩:=qcp bs hl _ 0 hs1 ks.length (by omega) (by omega);simp only[List.set_cons_zero]at hc;have hrl:r.toNat<ks.length:=by omega
 have hw:=qay (n:=k) (by omega);generalize hR:qcH A (.d (.int .i64 f)) (.d (.int .i64 v)) (.tsl true j 3 ks.length) D=R at hfo;have hR2:R[A.length*3+2]?=some (.tsl true j 3 ks.length):=by rw[<-hR];exact qoU _ _ _ _ _
 have hRl:A.length*3+2<R.length:=by rw[<-hR,qc3];omega
 have g0:((B.set (j+1) (some R)).set j (some ((fc ks).map .d)))[0]?=some (some (qbj bs pos st)):=by rw[qfc (by omega),qfc (by omega)];exact hb0'
 have g1:((B.set (j+1) (some R)).set j (some ((fc ks).map .d)))[j+1]?=some (some R):=by rw[qfc (by omega),List.getElem?_set_self (by omega)]
 have g2:((B.set (j+1) (some R)).set j (some ((fc ks).map .d))).length=6:=by simp[hlen]
 have gj:((B.set (j+1) (some R)).set j (some ((fc ks).map .d)))[j]?=some (some ((fc ks).map .d)):=by rw[List.getElem?_set_self (by simp;omega)]
 have gi:∀i,i≠j->i≠j+1->((B.set (j+1) (some R)).set j (some ((fc ks).map .d)))[i]?=B[i]?:=fun i h1 h2=>by rw[qfc (Ne.symm h1),qfc (Ne.symm h2)]
 have grest:∀rs,TR rs->qaT rs ((B.set (j+1) (some R)).set j (some ((fc ks).map .d)))=true:=fun rs hrs=>by
  refine qgD _ _ _ _ (qgD _ _ _ _ (h.rest rs hrs) ?_) (qe1 rs ks);rw[<-hR];unfold qcH;rw[qgv,qgv,qe1,qe1];simp
 generalize hB2:(B.set (j+1) (some R)).set j (some ((fc ks).map .d))=B2 at*
 have hn6:¬6<=j+1:=by omega
 have g0':∀h:0<B2.length,B2[0]'h=some (qbj bs pos st):=fun h=>(List.getElem?_eq_some_iff.1 g0).2
 have hR3:∀h:A.length*3+2<R.length,R[A.length*3+2]'h= .tsl true j 3 ks.length:=fun h=>(List.getElem?_eq_some_iff.1 hR2).2
 have hmin:min r.toNat ks.length=r.toNat:=by omega
 have hsd:=qd9 bs pos st;have hsd1:=qd9 bs pos1 st1;have hcl:=qcT bs pos st;have hcl1:=qcT bs pos1 st1;generalize qbj bs pos st=S0 at*
 refine⟨B2.set 0 (some (qbj bs pos1 st1)),ks.take r.toNat,ks.drop (r.toNat+1),(tAt ks r.toNat).f,(tAt ks r.toNat).v,(tAt ks r.toNat).kids,N+(ks.length+T.inners (ks.take r.toNat)+T.inners (ks.drop (r.toNat+1))),?_,?_⟩
 ·have e:ks=ks.take r.toNat++tAt ks r.toNat::ks.drop (r.toNat+1):=by
   conv=>lhs;rw[<-List.take_append_drop r.toNat ks,List.drop_eq_getElem_cons hrl,qaH hrl]
  refine⟨by omega,hj,by simp[g2],⟨pos1,st1,hp1,qqd (by omega)⟩,by rw[qfc (by omega),gi 1 (by omega) (by omega)];exact h.one,fun i h1 h2=>by rw[qfc (by omega),gi i (by omega) (by omega)];exact h.free i h1 (by omega),by rw[qfc (by omega),gj];exact congrArg (some∘some) (qxA hrl),fun rs hrs=>qgD _ _ _ _ (grest rs hrs) (qgI rs hrs bs pos1 st1),?_,?_,?_⟩
  ·refine Ctx.step hj h.ctx (fun i hi=>by rw[qfc (by omega),gi i (by omega) (by omega)]) (by rw[qfc (by omega),g1,<-hR];rfl) ?_ h.rg.1 ?_ ?_
   ·have:=congrArg List.length e
    simp only[List.length_append,List.length_cons]at this;omega
   ·have:=h.rg.2;rw[T.qe5]at this⊢;exact fun t ht=>this t (List.mem_of_mem_take ht)
   ·have:=h.rg.2;rw[T.qe5]at this⊢;exact fun t ht=>this t (List.mem_of_mem_drop ht)
  ·have e2:T.inners ks=T.inners (ks.take r.toNat)+((tAt ks r.toNat).inner+T.inners (ks.drop (r.toNat+1))):=by
    conv=>lhs;rw[e,qeY]
    rfl
   have e3:(T.node (tAt ks r.toNat).f (tAt ks r.toNat).v (tAt ks r.toNat).kids).inner=(tAt ks r.toNat).inner:=by cases tAt ks r.toNat;rfl
   have e4:(T.node f v ks).inner=ks.length+T.inners ks:=by rw[T.qgF,T.qbb]
   have:=h.siz;omega
  ·have:=h.rg.2
   rw[T.qe5]at this;have h3:=this _ (qaU hrl);generalize tAt ks r.toNat=x at h3;cases x;exact h3
 ·generalize qbj bs pos1 st1=S1 at*
  simp only[quw];simp only[qeK,qsz,qny,hfo,Option.bind_some];simp[qFZ,qpq,g2,g0,g1,gj,hR2,hRl,hsd,hsd1,hcl,hcl1,hc,hr.1,hr.2,hw,hn6,qaf,hR3,hmin,g0',qp9]
end Go.Proofs.Ytfiakfiocdfpbaa.VS
namespace Go.Proofs.Ytfiakfiocdfpbaa.VS
theorem qBo(bs:List Int)(hl:bs.length<=1099511627776):∀(n j k:Nat) (B:qaj) (A D:List T) (f v:Int) (ks:List T) (N:Nat),n+2=j->WS bs j k B A D f v ks N->
 ∀s0,qai 6 [0,2,3,4,5] s0=some ⟨[(0,.ptr 0 0),(2,.ptr 1 0),(3,.ptr 5 0),(4,.ptr j (A.length*3)),(5,.d (.int .i64 k))],B⟩->
 ∃(j' k':Nat) (B':qaj) (A' D':List T) (f' v':Int) (ks':List T) (N':Nat),WS bs j' k' B' A' D' f' v' ks' N'/\
  qdL XV (XV.lin 161) 6 [0,2,3,4,5] qjE s0=some (.exit 0,⟨[(0,.ptr 0 0),(2,.ptr 1 0),(3,.ptr 5 0),(4,.ptr j' (A'.length*3)),(5,.d (.int .i64 k')),(22,.d (.bool false))],B'⟩):=by
 intro n
 induction n with
 |zero=>
  intro j k B A D f v ks N hn h s0 h0;refine⟨j,k,B,A,D,f,v,ks,N,h,qeA h0 ?_ (by simp)⟩;have hjk:=h.jk;have hk:¬((k:Int)<3):=by omega
  simp[qjE,qke,hk]
 |succ n ih=>
  intro j k B A D f v ks N hn h s0 h0;have hjk:=h.jk;have hk:(k:Int)<3:=by omega
  have hat:=h.at_;have hrow:=qoU A (.d (.int .i64 f)) (.d (.int .i64 v)) (.d (.sl U (ks.map (T.enc U)))) D;generalize hR:qcH A (.d (.int .i64 f)) (.d (.int .i64 v)) (.d (.sl U (ks.map (T.enc U)))) D=R at*
  have hRl:A.length*3+2<R.length:=by rw[<-hR,qc3];omega
  have hR3:∀h:A.length*3+2<R.length,R[A.length*3+2]'h= .d (.sl U (ks.map (T.enc U))):=fun h=>(List.getElem?_eq_some_iff.1 hrow).2
  have hBl:j<B.length:=by rw[h.len];omega
  have hB3:∀h:j<B.length,B[j]'h=some R:=fun h=>(List.getElem?_eq_some_iff.1 hat).2
  by_cases hks:0<ks.length
  ·obtain⟨b,B1,hT,hc⟩:=qob bs hl B 0 h.seed 2 (by omega) (by omega)
   have h1:=h.turn hT;cases b with
   |true=>
    refine⟨j,k,B1,A,D,f,v,ks,N,h1,qeA h0 ?_ (by simp)⟩;simp[qjE,qke,hk,hks,hc,hBl,hB3,hRl,hR3,qaf]
   |false=>
    subst hn;obtain⟨B',A',D',f',v',ks',N',hW,hgo⟩:=qIN bs hl h1 hks (by omega);obtain⟨j',k',B'',A'',D'',f'',v'',ks'',N'',hW2,hl2⟩:=ih (n+2) (k+1) B' A' D' f' v' ks' N' rfl hW ⟨[(0,.ptr 0 0),(2,.ptr 1 0),(3,.ptr 5 0),(4,.ptr (n+2) (A'.length*3)),(5,.d (.int .i64 ((k+1:Nat):Int)))],B'⟩ (qd6 (e:=[]) (by simp) (by simp[qab];omega) hW.len (by simp));refine⟨j',k',B'',A'',D'',f'',v'',ks'',N'',hW2,?_⟩;rw[<-hl2];refine qlu h0 ?_;rw[<-hgo];generalize hG:VCode.seq (.block 1 (.ghost (.focC 4 2 [0,2,3,4,5]) (.region true 0 [0,2,3,4,5] qmq))) (.region false 0 [0,2,3,4,5] qpq)=G;rw[show qjE= .seq (.seq (.region false 0 [0,2,3,4,5,22] qke) (.cond (.t 22) .skip (.exit 0))) G from by rw[<-hG];rfl];simp[qke,hk,hks,hc,hBl,hB3,hRl,hR3,qaf]
  ·refine⟨j,k,B,A,D,f,v,ks,N,h,qeA h0 ?_ (by simp)⟩
   have hk0:ks.length=0:=by omega
   simp[qjE,qke,hk,hk0,hBl,hB3,hRl,hR3,qaf]
end Go.Proofs.Ytfiakfiocdfpbaa.VS
namespace Go.Proofs.Ytfiakfiocdfpbaa.VS
theorem WS.read{bs:List Int}{j k:Nat}{B:qaj}{A D:List T}{f v:Int}{ks:List T}{N:Nat}(h:WS bs j k B A D f v ks N){B':qaj}(hl:B'.length=6)(hi:∀i,j<i->B'[i]?=B[i]?)(u:T)(g:Tag)(X:List DV)(hX:X.map DV.clr=u.kids.map (T.enc .sub))
 (hj:B'[j]?=some (some (qcH A (.d (.int .i64 u.f)) (.d (.int .i64 u.v)) (.d (.sl g X)) D))):
 ∃(c5:List AV) (ds5:List DV) (t':T),B'[5]?=some (some c5)/\qdM (AV.frzC (qcw 2 B') 6) c5=some ds5/\ds5.map DV.clr=fcs [t']/\t'.inner<=N+u.inner/\(u.rng->t'.rng):=by
 refine h.ctx B' _ u (fc A++([.int .i64 u.f,.int .i64 u.v,.sl g X]++fc D)) hl hi hj ?_ ?_
 ·unfold qcH
  exact qgm _ _ _ (qks _ _ _) (qgm _ _ _ (qks _ _ [.int .i64 u.f,.int .i64 u.v,.sl g X]) (qks _ _ _))
 ·rw[List.map_append,List.map_append,qm6,qm6,qu8,qgq]
  simp only[List.map_cons,List.map_nil,DV.clr,DV.qav,hX,List.cons_append,List.nil_append]
theorem qFy(B:qaj)(S0 Z:Option (List AV))(z0 z1 z2:AV)(hlen:B.length=6)(h0:B[0]?=some S0)(h1:B[1]?=some (some [z0,z1,z2]))(r:List (Nat×AV))(h2:lk r 2=some (.ptr 1 0))(h3:lk r 3=some (.ptr 5 0))(t:T)(c5:List AV)(ds5:List DV)
 (e1:B[5]?=some (some c5)) (e2:qdM (AV.frzC (qcw 2 B) 6) c5=some ds5) (e3:ds5.map DV.clr=fcs [t]):
 ∃C,qaD XV (XV.lin 161) (.seq (.ghost (.frzB 3 2 [2]) (.region false 0 [2] qlk)) .ret) ⟨r,B⟩=some (.ret,⟨[(2,.ptr 1 0)],[S0,some [.d (.int .i64 t.f),.d (.int .i64 t.v),.d (qam .sub t.kids)],C]⟩):=by
 have hk:keep r [2]=[(2,.ptr 1 0)]:=by simp[keep,h2]
 have htk:B.take 2=[S0,some [z0,z1,z2]]:=by
  match B,hlen with
  | [b0,b1,b2,b3,b4,b5],_=>simp at h0 h1⊢;exact⟨h0,h1⟩
 obtain⟨g,xs,r',rfl,hx,hr⟩:=qor e3;have hr0:r'=[]:=by simpa[fcs]using hr
 subst hr0;have hcell:=qpX _ _ e3;have hbg:qaV B 5=some c5:=by simp only[qaV,e1]
 refine⟨some [.d (.int .i64 t.f),.d (.int .i64 t.v),.d (qam .sub t.kids)],?_⟩;have hx':xs.map DV.clr=t.kids.map (T.enc .sub):=by rw[<-DV.qav];exact hx
 have hgh:qnu (.frzB 3 2 [2]) ⟨r,B⟩=some ⟨[(3,.ptr 2 0),(2,.ptr 1 0)],[S0,some [z0,z1,z2],some [.d (.int .i64 t.f),.d (.int .i64 t.v),.d (qam .sub t.kids)]]⟩:=by
  rw[qzK];simp only[h3];rw[quU,if_pos ⟨by omega,by simp,by rw[hk];simp[qab],by omega⟩,hbg,Option.bind_some,hlen,e2,Option.bind_some,if_pos hcell,hk,htk];simp[hx']
 simp only[qeK,qny,hgh,Option.bind_some];simp[qlk,splice,qag,qao,qaq,qaL,qaf]
end Go.Proofs.Ytfiakfiocdfpbaa.VS
namespace Go.Proofs.Ytfiakfiocdfpbaa.VS
def qlI:VCode:= .seq (.ghost (.frzB 3 2 [2]) (.region false 0 [2] qlk)) .ret
def qdC:VCode:= .seq (.region false 0 [0,2,3,4,38] qiN) (.block 2 (.seq (.region false 0 [0,2,3,4,38,39] qiM) (.cond (.t 39) (.region false 0 [2,3] qt7) (.seq (.region false 0 [0,2,3,4,38,47] qgY) (.cond (.t 47) (.region false 0 [2,3] qn9) (.seq (.region false 0 [0,2,3,4,38,55] qiO) (.cond (.t 55) (.regionT 0 [2,3] qlm qfL) (.seq (.region false 0 [0,2,3,69] qll) (.cond (.t 69) (.seq (.region false 0 [2] qn8) .ret) .skip)))))))))
theorem qAG:qCq=⟨1,[.cell 2 true 3],.seq (.region false 1 [0,2] qub) (.seq (.region false 4 [0,2,3] qua) (.seq (.region false 0 [0,2,3,4] qt9) (.seq (.seq (.region false 0 [0,2,3,4,5] qt8) (.block 0 (.loop [0,2,3,4,5] qjE))) (.seq qdC qlI))))⟩:=rfl
def qCk(bs:List Int)(B:qaj)(n:Nat):Prop:=B.length=6/\qcE bs 0 B/\B[1]?=some (some [.d (.int .i64 0),.d (.int .i64 0),.d (.sl U [])])/\
 ∃(c5:List AV) (ds5:List DV) (t':T),B[5]?=some (some c5)/\qdM (AV.frzC (qcw 2 B) 6) c5=some ds5/\ds5.map DV.clr=fcs [t']/\t'.inner<=n/\t'.rng
theorem WS.read5{bs:List Int}{j k:Nat}{B:qaj}{A D:List T}{f v:Int}{ks:List T}{N:Nat}(h:WS bs j k B A D f v ks N)(u:T)(g:Tag)(X:List DV)(hX:X.map DV.clr=u.kids.map (T.enc .sub))(n:Nat)(hn:N+u.inner<=n)(hur:u.rng):
 qCk bs (B.set j (some (qcH A (.d (.int .i64 u.f)) (.d (.int .i64 u.v)) (.d (.sl g X)) D))) n:=by
 have hj:=h.j2;have hjk:=h.jk;have hlen:=h.len;obtain⟨c5,ds5,t',e1,e2,e3,e4,e5⟩:=h.read (B':=B.set j (some (qcH A (.d (.int .i64 u.f)) (.d (.int .i64 u.v)) (.d (.sl g X)) D))) (by simp[hlen]) (fun i hi=>by rw[qfc (by omega)]) u g X hX (by rw[List.getElem?_set_self (by omega)]);refine⟨by simp[hlen],?_,by rw[qfc (by omega)];exact h.one,c5,ds5,t',e1,e2,e3,by omega,e5 hur⟩;obtain⟨pos,st,hp,hb⟩:=h.seed;exact⟨pos,st,hp,by simp only[qaV];rw[qfc (by omega),qc9 hb]⟩
theorem qji(ks:List T):(ks.map (T.enc U)).map DV.clr=ks.map (T.enc .sub):=qcB _ _
theorem qsd(bs:List Int)(hl:bs.length<=1099511627776){j k:Nat}{B:qaj}{A D:List T}{f v:Int}{ks:List T}{N:Nat}(h:WS bs j k B A D f v ks N)(x5 x22:DV):
 (∃(r':List (Nat×AV)) (B':qaj),qaD XV (XV.lin 161) qdC ⟨[(0,.ptr 0 0),(2,.ptr 1 0),(3,.ptr 5 0),(4,.ptr j (A.length*3)),(5,.d x5),(22,.d x22)],B⟩=some (.normal,⟨r',B'⟩)/\lk r' 2=some (.ptr 1 0)/\lk r' 3=some (.ptr 5 0)/\qCk bs B' 12)\/
 (∃(t:T) (g:Tag) (B':qaj),qaD XV (XV.lin 161) qdC ⟨[(0,.ptr 0 0),(2,.ptr 1 0),(3,.ptr 5 0),(4,.ptr j (A.length*3)),(5,.d x5),(22,.d x22)],B⟩=some (.ret,⟨[(2,.ptr 1 0)],B'⟩)/\qcE bs 0 B'/\B'.length=6/\B'[1]?=some (some [.d (.int .i64 t.f),.d (.int .i64 t.v),.d (.sl g (t.kids.map (T.enc g)))])/\t.inner<=14/\t.rng):=by
 obtain⟨r,B1,hr,hT1,hc⟩:=qcp bs hl B 0 h.seed 12 (by omega) (by omega);have h1:=h.turn hT1;have hat:=h1.at_;have hjl:j<B1.length:=by have:=h1.jk;rw[h1.len];omega
 have hj2:=h.j2;have hjk:=h.jk;have hsz:=h.siz;have keepT:∀(B':qaj),qcd bs 0 B1 B'->B'[j]?=some (some (qcH A (.d (.int .i64 f)) (.d (.int .i64 v)) (.d (.sl U (ks.map (T.enc U)))) D)):=fun B' hT=>(h1.turn hT).at_
 by_cases c0:r=0
 ·subst c0
  obtain⟨i,hi,B2,hT2,hc2⟩:=qeB bs hl B1 0 h1.seed [-2,-1,0,5,7] (by simp) (by simp);generalize ([-2,-1,0,5,7]:List Int)[i]=x at hc2;have h2:=h1.turn hT2;have hat2:=h2.at_;have hl2:=h2.len;have hB2:∀h:j<B2.length,B2[j]'h=some (qcH A (.d (.int .i64 f)) (.d (.int .i64 v)) (.d (.sl U (ks.map (T.enc U)))) D):=fun h=>(List.getElem?_eq_some_iff.1 hat2).2
  have hrl:=qc3 A (.d (.int .i64 f)) (.d (.int .i64 v)) (.d (.sl U (ks.map (T.enc U)))) D;have hsp:=qAR A (.d (.int .i64 f)) (.d (.int .i64 v)) (.d (.sl U (ks.map (T.enc U)))) (.d (.int .i64 x)) D;have hle:A.length*3+1<=A.length*3+3+D.length*3:=by omega
  have hj6:j<6:=by omega
  have hin:∀a b:Int,(T.node a b ks).inner=(T.node f v ks).inner:=fun a b=>by simp only[T.inner]
  have hres:=h2.read5 (.node x v ks) U (ks.map (T.enc U)) (qji ks) 12 (by rw[hin];omega) ⟨h.rg.1,h.rg.2⟩;simp only[T.qds,T.qfm]at hres;refine .inl ⟨[(2,.ptr 1 0),(3,.ptr 5 0)],_,?_,rfl,rfl,hres⟩;simp only[List.map_cons,List.map_nil]at hc2;generalize qcH A (.d (.int .i64 f)) (.d (.int .i64 v)) (.d (.sl U (ks.map (T.enc U)))) D=R at*
  generalize qcH A (.d (.int .i64 x)) (.d (.int .i64 v)) (.d (.sl U (ks.map (T.enc U)))) D=R' at*
  simp[qdC,qiN,qiM,qt7,hc,hc2,hl2,hB2,hj6,hrl,hsp,hle,qaJ,List.replicate,qag,qaq,qaL,qbi]
 by_cases c1:r=1
 ·subst c1
  obtain⟨i,hi,B2,hT2,hc2⟩:=qeB bs hl B1 0 h1.seed [-1,1,99,100] (by simp) (by simp);have hxx:∀y:Int,y∈([-1,1,99,100]:List Int)->-9223372036854775808<=y/\y<=9223372036854775807:=fun y hy=>by
   simp only[List.mem_cons,List.not_mem_nil,or_false]at hy;omega
  have hxr:=hxx _ (List.getElem_mem hi);generalize ([-1,1,99,100]:List Int)[i]=x at hc2 hxr;have h2:=h1.turn hT2;have hat2:=h2.at_;have hl2:=h2.len;have hB2:∀h:j<B2.length,B2[j]'h=some (qcH A (.d (.int .i64 f)) (.d (.int .i64 v)) (.d (.sl U (ks.map (T.enc U)))) D):=fun h=>(List.getElem?_eq_some_iff.1 hat2).2
  have hrl:=qc3 A (.d (.int .i64 f)) (.d (.int .i64 v)) (.d (.sl U (ks.map (T.enc U)))) D;have hsp:=qAQ A (.d (.int .i64 f)) (.d (.int .i64 v)) (.d (.sl U (ks.map (T.enc U)))) (.d (.int .i64 x)) D;have hle:A.length*3+1+1<=A.length*3+3+D.length*3:=by omega
  have hj6:j<6:=by omega
  have hin:∀a b:Int,(T.node a b ks).inner=(T.node f v ks).inner:=fun a b=>by simp only[T.inner]
  have hres:=h2.read5 (.node f x ks) U (ks.map (T.enc U)) (qji ks) 12 (by rw[hin];omega) ⟨hxr,h.rg.2⟩;simp only[T.qds,T.qfm]at hres;refine .inl ⟨[(2,.ptr 1 0),(3,.ptr 5 0)],_,?_,rfl,rfl,hres⟩;simp only[List.map_cons,List.map_nil]at hc2;generalize qcH A (.d (.int .i64 f)) (.d (.int .i64 v)) (.d (.sl U (ks.map (T.enc U)))) D=R at*
  generalize qcH A (.d (.int .i64 f)) (.d (.int .i64 x)) (.d (.sl U (ks.map (T.enc U)))) D=R' at*
  simp[qdC,qiN,qiM,qgY,qn9,hc,hc2,hl2,hB2,hj6,hrl,hsp,hle,qaJ,List.replicate,qag,qaq,qaL,qbi]
 have n0:(r==0)=false:=by simpa using c0
 have n1:(r==1)=false:=by simpa using c1
 by_cases c2:r=2
 ·subst c2
  have hs:=h1.seed;obtain⟨pos,st,hp,hb0⟩:=hs;obtain⟨t2,g2,B2,hi2,⟨pos2,st2,hp2,rfl⟩,hc2⟩:=qfw bs hl 1 (by omega) 2 (by omega) [some (qbj bs pos st)] 0 ⟨pos,st,hp,rfl⟩;simp only[List.set_cons_zero]at hc2;have h2:=h1.turn (B':=B1.set 0 (some (qbj bs pos2 st2))) ⟨pos2,st2,hp2,rfl⟩;have hl1:=h1.len;have hB1:∀h:j<B1.length,B1[j]'h=some (qcH A (.d (.int .i64 f)) (.d (.int .i64 v)) (.d (.sl U (ks.map (T.enc U)))) D):=fun h=>(List.getElem?_eq_some_iff.1 hat).2
  have hX:(ks.map (T.enc U)++[t2.enc g2]).map DV.clr=(T.node f v (ks++[t2])).kids.map (T.enc .sub):=by
   rw[List.map_append,qcB,T.qbb,List.map_append];simp
  have hin:N+(T.node f v (ks++[t2])).inner<=12:=by
   have e1:(T.node f v (ks++[t2])).inner=ks.length+1+(T.inners ks+(t2.inner+0)):=by
    rw[T.qgF,T.qbb,qeY];simp only[List.length_append,List.length_cons,List.length_nil,T.inners]
   have e2:(T.node f v ks).inner=ks.length+T.inners ks:=by rw[T.qgF,T.qbb]
   omega
  have hres:=h2.read5 (.node f v (ks++[t2])) U _ hX 12 hin ⟨h.rg.1,qk1 h.rg.2 ⟨hi2.2,trivial⟩⟩;simp only[T.qds,T.qfm]at hres;have hj0:(0:Nat)≠j:=by omega
  have hkl:(ks.length+1)*40<=140737488355328:=by
   have e2:(T.node f v ks).inner=ks.length+T.inners ks:=by rw[T.qgF,T.qbb]
   omega
  have ha:qbm 3 40 (.sl U (ks.map (T.enc U))) (.sl .sub [t2.enc g2])=some (.sl U (ks.map (T.enc U)++[t2.enc g2])):=by
   unfold qbm;simp only;rw[if_pos (by simp[qag,qao])];simp only[List.isEmpty_cons,Bool.false_eq_true,if_false];rw[if_pos ⟨by simpa using hkl,trivial,by simp⟩]
  have hrl:=qc3 A (.d (.int .i64 f)) (.d (.int .i64 v)) (.d (.sl .sub (ks.map (T.enc .sub)))) D;have hg2:=qoU A (.d (.int .i64 f)) (.d (.int .i64 v)) (.d (.sl U (ks.map (T.enc U)))) D;have hsp:=qtI A (.d (.int .i64 f)) (.d (.int .i64 v)) (.d (.sl .sub (ks.map (T.enc .sub)))) (.d (.sl U (ks.map (T.enc U)++[t2.enc g2]))) D;have hRl:A.length*3+2<(qcH A (.d (.int .i64 f)) (.d (.int .i64 v)) (.d (.sl U (ks.map (T.enc U)))) D).length:=by rw[qc3];omega
  have hclr:qb5 B1 j (A.length*3+2) 1=B1.set j (some (qcH A (.d (.int .i64 f)) (.d (.int .i64 v)) (.d (.sl .sub (ks.map (T.enc .sub)))) D)):=by
   unfold qb5;simp only[qaV,hat];rw[List.drop_eq_getElem_cons hRl,(List.getElem?_eq_some_iff.1 hg2).2];simp only[List.take_succ_cons,List.take_zero,AV.clrs,AV.clr,DV.clr,DV.qav,qcB];rw[qtI]
  have hld:qaf B1 false 1 j (A.length*3+2)=some (.d (.sl U (ks.map (T.enc U)))):=by
   simp only[qaf,qaV,hat,Option.bind_some,Bool.false_eq_true,if_false,hg2]
  have heq:((B1.set j (some (qcH A (.d (.int .i64 f)) (.d (.int .i64 v)) (.d (.sl .sub (ks.map (T.enc .sub)))) D))).set 0 (some (qbj bs pos2 st2))).set j (some (qcH A (.d (.int .i64 f)) (.d (.int .i64 v)) (.d (.sl U (ks.map (T.enc U)++[t2.enc g2]))) D))=(B1.set 0 (some (qbj bs pos2 st2))).set j (some (qcH A (.d (.int .i64 f)) (.d (.int .i64 v)) (.d (.sl U (ks.map (T.enc U)++[t2.enc g2]))) D)):=by
   rw[List.set_comm _ _ (Ne.symm hj0),List.set_set]
  rw[<-heq]at hres;have hle:A.length*3+2+1<=A.length*3+3+D.length*3:=by omega
  have hj6:j<6:=by omega
  have hn6:¬6<=j:=by omega
  have hj0':¬j=0:=by omega
  refine .inl ⟨[(2,.ptr 1 0),(3,.ptr 5 0)],_,?_,rfl,rfl,hres⟩;have g0:(B1.set j (some (qcH A (.d (.int .i64 f)) (.d (.int .i64 v)) (.d (.sl .sub (ks.map (T.enc .sub)))) D)))[0]?=some (some (qbj bs pos st)):=by rw[qfc (Ne.symm hj0),qc9 hb0]
  have gl:(B1.set j (some (qcH A (.d (.int .i64 f)) (.d (.int .i64 v)) (.d (.sl .sub (ks.map (T.enc .sub)))) D))).length=6:=by simp[hl1]
  have gj:((B1.set j (some (qcH A (.d (.int .i64 f)) (.d (.int .i64 v)) (.d (.sl .sub (ks.map (T.enc .sub)))) D))).set 0 (some (qbj bs pos2 st2)))[j]?=some (some (qcH A (.d (.int .i64 f)) (.d (.int .i64 v)) (.d (.sl .sub (ks.map (T.enc .sub)))) D)):=by rw[qfc hj0,List.getElem?_set_self (by omega)]
  clear hres heq hat keepT hB1;generalize hR':qcH A (.d (.int .i64 f)) (.d (.int .i64 v)) (.d (.sl .sub (ks.map (T.enc .sub)))) D=R' at*
  generalize qcH A (.d (.int .i64 f)) (.d (.int .i64 v)) (.d (.sl U (ks.map (T.enc U)++[t2.enc g2]))) D=R'' at*
  generalize hB3:B1.set j (some R')=B3 at*
  have g0':∀h:0<B3.length,B3[0]'h=some (qbj bs pos st):=fun h=>(List.getElem?_eq_some_iff.1 g0).2
  have hsd:=qd9 bs pos st;have hsd1:=qd9 bs pos2 st2;have hcl:=qcT bs pos st;have hcl1:=qcT bs pos2 st2;generalize qbj bs pos st=S0 at*
  generalize qbj bs pos2 st2=S1 at*
  have gj':∀h:j<(B3.set 0 (some S1)).length,(B3.set 0 (some S1))[j]'h=some R':=fun h=>(List.getElem?_eq_some_iff.1 gj).2
  have hc2':qac XV 166 [.ptr 0 0,.d (.int .i64 1),.d (.int .i64 2)] [some S0]=some (.d (t2.enc g2),[some S1]):=hc2;simp[qdC,qiN,qiM,qgY,qiO,qBW,hc,hl1,gl,hn6,hj6,hld,hclr,hc2',g0',hsd,hsd1,hcl,hcl1,ha,hsp,hrl,hle,gj',gj,qaJ,List.replicate,qag,qao,qaq,qaL,qbi,-qb5,-qaf,lk,hj0']
 have n2:(r==2)=false:=by simpa using c2
 by_cases c3:r=3
 ·subst c3
  obtain⟨t2,g2,B2,hi2,hT2,hc2⟩:=qfw bs hl 3 (by omega) 3 (by omega) B1 0 h1.seed;have h2:=h1.turn hT2;have hl2:=h2.len;have h21:=h2.one;have hB21:∀h:1<B2.length,B2[1]'h=some [.d (.int .i64 0),.d (.int .i64 0),.d (.sl U [])]:=fun h=>(List.getElem?_eq_some_iff.1 h21).2
  obtain⟨f2,vw2,ks2⟩:=t2;obtain⟨pos2,st2,hp2,hb2⟩:=h2.seed;have hc2':qac XV 166 [.ptr 0 0,.d (.int .i64 3),.d (.int .i64 3)] B1=some (.d ((T.node f2 vw2 ks2).enc g2),B2):=hc2;refine .inr ⟨.node f2 vw2 ks2,g2,B2.set 1 (some [.d (.int .i64 f2),.d (.int .i64 vw2),.d (.sl g2 (ks2.map (T.enc g2)))]),?_,⟨pos2,st2,hp2,by simp only[qaV];rw[qfc (by omega),qc9 hb2]⟩,by simp[hl2],by rw[List.getElem?_set_self (by omega)];simp,by have:=hi2.1;simp at this;omega,hi2.2⟩;simp[qdC,qiN,qiM,qgY,qiO,qll,qn8,hc,hc2',hl2,hB21,splice,qag,qao,qaq,qaL,qbi]
 have n3:(r==3)=false:=by simpa using c3
 have hin:qCk bs B1 12:=by
  have:=h1.read5 (.node f v ks) U (ks.map (T.enc U)) (qji ks) 12 (by omega) h.rg;simp only[T.qds,T.qfm]at this;rwa[show B1.set j (some (qcH A (.d (.int .i64 f)) (.d (.int .i64 v)) (.d (.sl U (ks.map (T.enc U)))) D))=B1 from by
   apply List.ext_getElem?;intro i
   by_cases hij:j=i
   ·subst hij;rw[List.getElem?_set_self',hat];simp
   ·rw[List.getElem?_set_ne hij]]at this
 refine .inl ⟨[(0,.ptr 0 0),(2,.ptr 1 0),(3,.ptr 5 0),(69,.d (.bool false))],B1,?_,rfl,rfl,hin⟩;simp[qdC,qiN,qiM,qgY,qiO,qll,hc,n0,n1,n2,n3]
end Go.Proofs.Ytfiakfiocdfpbaa.VS
