/- Contracts of the program's functions on the evaluator without names, and plain lemmas: part 2. -/
import Derived.Test.YtfiakfiocdfpbaaXP1
set_option linter.unusedSimpArgs false
set_option linter.unusedVariables false
namespace Go.Proofs.Ytfiakfiocdfpbaa.VS
theorem qgl(a b:T)(ha:a.inner<=1099511627776)(hb:b.inner<=1099511627776):qac XV 79 [.d (a.enc .sub),.d (b.enc .sub)] []=some (.d (.bool (decide (T.cmp a b<0))),[]):=by
 rw[qar XV _ _ _ v79 rfl qxk rfl];have h:=qhg a b ha hb;simp[v79,qEj,qEi,h]
theorem qk1(f v:Int)(ks:List T)(f' v':Int)(ks':List T)(hl:ks.length<=1099511627776)(hl':ks'.length<=1099511627776)
 (hsame:∀s s',s∈ks->s'∈ks'->qac XV 3 [.d (s.enc .sub),.d (s'.enc .sub)] []=some (.d (.bool (T.cmp s s'==0)),[]))
 (hrec:∀s s',s∈ks->s'∈ks'->qac XV 84 [.d (s.enc .sub),.d (s'.enc .sub)] []=some (.d (.bool (decide (T.cmp s s'<0))),[])):
 qac XV 84 [.d ((T.node f v ks).enc .sub),.d ((T.node f' v' ks').enc .sub)] []=some (.d (.bool (decide (T.cmp (.node f v ks) (.node f' v' ks')<0))),[]):=by
 rw[qar XV _ _ _ v84 rfl qxf rfl];rw[qlQ]
 by_cases c1:f=f'
 case neg=>
  have b1:(f !=f')=true:=by simp[c1]
  have e:decide (qoI f f' v v' ks.length ks'.length (T.cmps ks ks')<0)=decide (f<f'):=by
   unfold qoI;by_cases h1:f<f'
   ·simp[h1]
   ·have h2:f>f':=by omega
    simp[h1,h2]
  rw[e];simp[v84,qld,qlc,qlb,qla,qk9,qk8,qk7,qk6,qk5,qhT,qhS,qk4,qfJ,b1]
 subst c1
 by_cases c2:v=v'
 case neg=>
  have b2:(v !=v')=true:=by simp[c2]
  have e:decide (qoI f f v v' ks.length ks'.length (T.cmps ks ks')<0)=decide (v<v'):=by
   unfold qoI;by_cases h1:v<v'
   ·simp[h1]
   ·have h2:v>v':=by omega
    simp[h1,h2]
  rw[e];simp[v84,qld,qlc,qlb,qla,qk9,qk8,qk7,qk6,qk5,qhT,qhS,qk4,qfJ,b2]
 subst c2
 by_cases c3:ks.length=ks'.length
 case neg=>
  have b3:((ks.length:Int) !=ks'.length)=true:=by simp;omega
  have e:decide (qoI f f v v ks.length ks'.length (T.cmps ks ks')<0)=decide (ks.length<ks'.length):=by
   unfold qoI;by_cases h1:ks.length<ks'.length
   ·simp[h1]
   ·have h2:ks'.length<ks.length:=by omega
    simp[h1,h2]
  rw[e];simp[v84,qld,qlc,qlb,qla,qk9,qk8,qk7,qk6,qk5,qhT,qhS,qk4,qfJ,b3]
 have hcp:qoI f f v v ks.length ks'.length (T.cmps ks ks')=T.cmps ks ks':=by simp[qoI,c3]
 rw[hcp];have h:=qaA (X:=XV) (T:=[]) (L:=2) (live:=[2,3,5]) (b:=qwy) (n:=ks.length) (γ:=Int) (st:=fun(_:Unit) i=>⟨[(2,.ptr 0 0),(3,.ptr 1 0),(5,.d (.int .i64 i))],qgH f v ks f v ks'⟩) (step:=qmg ks ks')
  (F:=fun _=>(.exit 0,⟨[(2,.ptr 0 0),(3,.ptr 1 0),(5,.d (.int .i64 ks.length)),(44,.d (.bool false))],qgH f v ks f v ks'⟩)) (R:=fun r=>(.ret,⟨[(4,.d (.bool (decide (r<0))))],qgH f v ks f v ks'⟩))
  (fun _=>⟨by simp,by simp[qwy,qld,qlc,qlb,qla,qk9,qk8,qk7,qk6,qk5,qhT,qhS,qk4,qfJ,qgH]⟩)
  (fun _ i hi=>by
   have hw:=qax (n:=i) (by omega);have hi2:i<ks'.length:=by omega
   have hs:=hsame _ _ (qaT hi) (qaT hi2);have hc:=hrec _ _ (qaT hi) (qaT hi2);unfold qmg qgH
   by_cases h0:T.cmp (tAt ks i) (tAt ks' i)=0
   ·rw[h0]at hs⊢
    simp only[ne_eq,not_true_eq_false,if_false];refine⟨_,by simp[qwy,qld,qlc,qlb,qla,qk9,qk8,qk7,qk6,qk5,qhT,qhS,qk4,qfJ,hi,hi2,hw,cut,qaF hi,qaF hi2,hs];rfl,?_⟩;simp[qai,qab]
   ·simp only[ne_eq,h0,not_false_eq_true,if_true]
    have h0':(T.cmp (tAt ks i) (tAt ks' i)==0)=false:=by simp[h0]
    rw[h0']at hs;refine⟨by simp,?_⟩;simp[qwy,qld,qlc,qlb,qla,qk9,qk8,qk7,qk6,qk5,qhT,qhS,qk4,qfJ,hi,hi2,hw,cut,qaF hi,qaF hi2,hs,hc])
  ks.length () 0 ⟨[(2,.ptr 0 0),(3,.ptr 1 0),(5,.d (.int .i64 0))],qgH f v ks f v ks'⟩ (by omega) (by simp[qai,qab,qgH])
 rw[qG7 ks ks' c3 _ _ (by omega)]at h;simp only[List.drop_zero,qgH,qak]at h;simp[v84,qld,qlc,qlb,qla,qk9,qk8,qk7,qk6,qk5,qhT,qhS,qk4,qfJ,c3];rw[c3]at h;rw[h]
 by_cases h0:T.cmps ks ks'=0<;>simp[h0,v84,qld,qlc,qlb,qla,qk9,qk8,qk7,qk6,qk5,qhT,qhS,qk4,qfJ]
theorem qc3(a b:T)(ha:a.inner<=1099511627776)(hb:b.inner<=1099511627776):qac XV 84 [.d (a.enc .sub),.d (b.enc .sub)] []=some (.d (.bool (decide (T.cmp a b<0))),[]):=by
 match a,b,ha,hb with
 | .node f v ks,.node f' v' ks',ha,hb=>
  simp only[T.inner]at ha hb;exact qk1 f v ks f' v' ks' (by omega) (by omega) (fun s s' hs hs'=>qit s s' (by have:=T.qaD hs;omega) (by have:=T.qaD hs';omega)) (fun s s' hs hs'=>qc3 s s' (by have:=T.qaD hs;omega) (by have:=T.qaD hs';omega))
termination_by a
decreasing_by
 simp_wf
 have:=List.sizeOf_lt_of_mem hs;omega
end Go.Proofs.Ytfiakfiocdfpbaa.VS
namespace Go.Proofs.Ytfiakfiocdfpbaa.VS
def qdA(l:List SymL)(f v:Int)(n:Nat):Bool:=
 if qek l f=true then
  if v=0 then(if(qaz l f.toNat).ac=true then decide ((n:Int)<2)else !decide ((n:Int)=(qaz l f.toNat).arity))
  else true
 else true
def qdh(l:List SymL)(f:Int)(ks:List T)(i:Nat):Bool:=
 if(qaz l f.toNat).ac=true then(if(tAt ks i).f=f then true else if i=0 then false else decide (T.cmp (tAt ks i) (tAt ks (i-1))<0))else false
mutual
def T.form(l:List SymL):T->Bool
 | .node f v ks=>
  if f= -1 then inB v 0 99&&decide (ks.length=0)
  else if qdA l f v ks.length=true then false
  else(qaq (fun i=> !((T.forms l ks)[i]?).getD false||qdh l f ks i) ks.length 0).isNone
def T.forms(l:List SymL):List T->List Bool
 | []=>[]
 |t::r=>T.form l t::T.forms l r
end
theorem T.qnt(l:List SymL):∀ks:List T,T.forms l ks=ks.map (T.form l)
 | []=>by simp[T.forms]
 |t::r=>by simp[T.forms,T.qnt l r]
theorem T.qqw(l:List SymL)(ks:List T)(i:Nat)(hi:i<ks.length):((T.forms l ks)[i]?).getD false=T.form l (tAt ks i):=by
 rw[T.qnt];simp[qtM hi]
theorem qGb(l:List SymL)(hs:l.length<=1099511627776)(f v:Int)(ks:List T):qaC XV (XV.lin 78) (.region true 0 [0,3,62] qyj) ⟨[(0,.d (sg l)),(3,.ptr 0 0),(8,.d (.bool false))],qah f v ks⟩=some (.normal,⟨[(0,.d (sg l)),(3,.ptr 0 0),(62,.d (.bool (qdA l f v ks.length)))],qah f v ks⟩):=by
 have hsy:=qpV l hs f;unfold qdA qah;cases c1:qek l f with
 |false=>rw[c1]at hsy;simp[qv7,hsy]
 |true=>
  rw[c1]at hsy;obtain⟨g1,g2⟩:=qeR c1
  by_cases c2:v=0
  ·cases c3:(qaz l f.toNat).ac with
   |true=>simp[qv7,hsy,c2,g1,g2,qau g2,cut,c3]
   |false=>
    by_cases c4:(ks.length:Int)=(qaz l f.toNat).arity
    ·simp[qv7,hsy,c2,g1,g2,qau g2,cut,c3,c4]
    ·have b4:((ks.length:Int) !=(qaz l f.toNat).arity)=true:=by simp[c4]
     simp[qv7,hsy,c2,g1,g2,qau g2,cut,c3,c4,b4]
  ·have b2:(v !=0)=true:=by simp[c2]
   simp[qv7,hsy,c2,b2]
theorem qGa(l:List SymL)(hs:l.length<=1099511627776)(f v:Int)(ks:List T):qaC XV (XV.lin 83) (.region true 0 [0,3,64] qye) ⟨[(0,.d (sg l)),(3,.ptr 0 0),(8,.d (.bool false))],qah f v ks⟩=some (.normal,⟨[(0,.d (sg l)),(3,.ptr 0 0),(64,.d (.bool (qdA l f v ks.length)))],qah f v ks⟩):=by
 have hsy:=qg5 f 0 (l.length-1);have hw:IntKind.i64.wrap ((l.length:Int)-1)=l.length-1:=wrap_i64 (by omega) (by omega);unfold qdA qah;cases c1:qek l f with
 |false=>unfold qek at c1;rw[c1]at hsy;simp[qv5,hsy,hw]
 |true=>
  obtain⟨g1,g2⟩:=qeR c1;unfold qek at c1;rw[c1]at hsy
  by_cases c2:v=0
  ·cases c3:(qaz l f.toNat).ac with
   |true=>simp[qv5,hsy,hw,c2,g1,g2,qau g2,cut,c3]
   |false=>
    by_cases c4:(ks.length:Int)=(qaz l f.toNat).arity
    ·simp[qv5,hsy,hw,c2,g1,g2,qau g2,cut,c3,c4]
    ·have b4:((ks.length:Int) !=(qaz l f.toNat).arity)=true:=by simp[c4]
     simp[qv5,hsy,hw,c2,g1,g2,qau g2,cut,c3,c4,b4]
  ·have b2:(v !=0)=true:=by simp[c2]
   simp[qv5,hsy,hw,c2,b2]
theorem qJD(l:List SymL)(hs:l.length<=1099511627776)(f v:Int)(ks:List T)(hf:qek l f=true)(i:Nat)(hi:i<ks.length)(hl:ks.length<=1099511627776)
 (hbef:∀s s',s∈ks->s'∈ks->qac XV 79 [.d (s.enc .sub),.d (s'.enc .sub)] []=some (.d (.bool (decide (T.cmp s s'<0))),[]))
 (hrec:qac XV 78 [.d (sg l),.d ((tAt ks i).enc .sub)] []=some (.d (.bool (T.form l (tAt ks i))),[])):
 qaC XV (XV.lin 78) (.region true 0 [0,3,64,65,66,103] qyh) ⟨[(0,.d (sg l)),(3,.ptr 0 0),(5,.d (.int .i64 i)),(6,.ptr 1 0),(64,.d (qak .sub ks)),(65,.d (.int .i64 ks.length)),(66,.d (.int .i64 i))],qah f v ks++[some [.d (.int .i64 (tAt ks i).f),.d (.int .i64 (tAt ks i).v),.d (qak .sub (tAt ks i).kids)]]⟩=
  some (.normal,⟨[(0,.d (sg l)),(3,.ptr 0 0),(64,.d (qak .sub ks)),(65,.d (.int .i64 ks.length)),(66,.d (.int .i64 i)),(103,.d (.bool (!T.form l (tAt ks i)||qdh l f ks i)))],qah f v ks++[some [.d (.int .i64 (tAt ks i).f),.d (.int .i64 (tAt ks i).v),.d (qak .sub (tAt ks i).kids)]]⟩):=by
 obtain⟨g1,g2⟩:=qeR hf;unfold qah qdh;cases c1:T.form l (tAt ks i)with
 |false=>rw[c1]at hrec;simp[qv6,hrec]
 |true=>
  rw[c1]at hrec;cases c2:(qaz l f.toNat).ac with
  |false=>simp[qv6,hrec,g1,g2,qau g2,c2,cut]
  |true=>
   by_cases c3:(tAt ks i).f=f
   ·have b3:((tAt ks i).f==f)=true:=by simp[c3]
    simp[qv6,hrec,g1,g2,qau g2,c2,b3,cut];simp[c3]
   ·have b3:((tAt ks i).f==f)=false:=by simp[c3]
    by_cases c4:i=0
    ·subst c4;simp[qv6,hrec,g1,g2,qau g2,c2,c3,b3,cut]
    ·obtain⟨j,rfl⟩:∃j,i=j+1:=⟨i-1,by omega⟩
     have hj:j<ks.length:=by omega
     have hb:=hbef _ _ (qaT hi) (qaT hj);have hw:IntKind.i64.wrap (j:Int)=j:=qh3 (by omega);have hpos:(0:Int)<((j+1:Nat):Int):=by omega
     simp only[Int.natCast_add,Int.cast_ofNat_Int]at hpos;simp[qv6,hrec,g1,g2,qau g2,c2,c3,b3,hw,hpos,hj,qaF hj,cut,hb]
theorem qvC(l:List SymL)(hs:l.length<=1099511627776)(f v:Int)(ks:List T)(hl:ks.length<=1099511627776)
 (hbef:∀s s',s∈ks->s'∈ks->qac XV 79 [.d (s.enc .sub),.d (s'.enc .sub)] []=some (.d (.bool (decide (T.cmp s s'<0))),[]))
 (hrec:∀s,s∈ks->qac XV 78 [.d (sg l),.d (s.enc .sub)] []=some (.d (.bool (T.form l s)),[])):
 qac XV 78 [.d (sg l),.d ((T.node f v ks).enc .sub)] []=some (.d (.bool (T.form l (.node f v ks))),[]):=by
 rw[qar XV _ _ _ v78 rfl qxl rfl];have hv:=qly (.node f v ks);have hin:=qjo v 0 99;simp only[T.qdq]at hv
 by_cases c1:f= -1
 ·have hform:T.form l (.node f v ks)=(inB v 0 99&&decide (ks.length=0)):=by simp[T.form,c1]
  rw[hform];subst c1;simp only[BEq.rfl]at hv;cases c2:inB v 0 99 with
  |false=>rw[c2]at hin;simp[v78,qq2,qq1,qq0,hv,hin]
  |true=>
   rw[c2]at hin
   by_cases c3:ks.length=0
   ·simp[v78,qq2,qq1,qq0,hv,hin,c3]
   ·have b3:((ks.length:Int)==0)=false:=by simp;exact fun h=>c3 (by simp[h])
    simp[v78,qq2,qq1,qq0,hv,hin,b3];exact fun h=>c3 (by simp[h])
 have b1:(f== -1)=false:=by simp[c1]
 rw[b1]at hv;have hh:=qGb l hs f v ks;simp only[qah,qak,qu4]at hh;cases c2:qdA l f v ks.length with
 |true=>
  have hform:T.form l (.node f v ks)=false:=by simp[T.form,c1,c2]
  rw[hform];rw[c2]at hh;simp[v78,qq2,qq1,qq0,hv,qBD];rw[hh];simp
 |false=>
  have hsy:qek l f=true:=by
   unfold qdA at c2
   by_cases h:qek l f=true
   ·exact h
   ·rw[if_neg h]at c2;simp at c2
  have hform:T.form l (.node f v ks)=(qaq (fun i=> !T.form l (tAt ks i)||qdh l f ks i) ks.length 0).isNone:=by
   have e:qaq (fun i=> !((T.forms l ks)[i]?).getD false||qdh l f ks i) ks.length 0=qaq (fun i=> !T.form l (tAt ks i)||qdh l f ks i) ks.length 0:=by
    have key:∀(k i:Nat),i+k=ks.length->qaq (fun i=> !((T.forms l ks)[i]?).getD false||qdh l f ks i) k i=qaq (fun i=> !T.form l (tAt ks i)||qdh l f ks i) k i:=by
     intro k
     induction k with
     |zero=>intro i _;rfl
     |succ k ih=>
      intro i h;simp only[qaq];simp only[T.qqw l ks i (by omega),ih (i+1) (by omega)]
    exact key _ _ (by omega)
   rw[<-e];simp[T.form,c1,c2]
  rw[hform];rw[c2]at hh;have h:=qaA (X:=XV) (T:=XV.lin 78) (L:=1) (live:=[0,3,64,65,66]) (b:=qwA) (n:=ks.length) (γ:=Nat) (st:=fun(_:Unit) i=>⟨[(0,.d (sg l)),(3,.ptr 0 0),(64,.d (qak .sub ks)),(65,.d (.int .i64 ks.length)),(66,.d (.int .i64 i))],qah f v ks⟩) (step:=qcs fun i=> !T.form l (tAt ks i)||qdh l f ks i)
   (F:=fun _=>(.exit 0,⟨[(0,.d (sg l)),(3,.ptr 0 0),(64,.d (qak .sub ks)),(65,.d (.int .i64 ks.length)),(66,.d (.int .i64 ks.length)),(67,.d (.bool false))],qah f v ks⟩)) (R:=fun j=>(.ret,⟨[(4,.d (.bool false))],qah f v ks++[some [.d (.int .i64 (tAt ks j).f),.d (.int .i64 (tAt ks j).v),.d (qak .sub (tAt ks j).kids)]]⟩))
   (fun a=>⟨by simp,by simp[qwA,qyi]⟩)
   (fun a i hi=>by
    have hw:=qax (n:=i) (by omega);have hk:=qJD l hs f v ks hsy i hi hl hbef (hrec _ (qaT hi));unfold qcs;simp only[qah,qak,List.cons_append,List.nil_append,qu4]at hk
    by_cases hq:(!T.form l (tAt ks i)||qdh l f ks i)=true
    ·rw[if_pos hq]
     rw[hq]at hk;refine⟨by simp,?_⟩;simp[qwA,qyi,qBC,qBB,qt4,hi,hw,cut,qaF hi,qah,splice];rw[hk];simp
    ·rw[if_neg hq]
     have hq':(!T.form l (tAt ks i)||qdh l f ks i)=false:=by simpa using hq
     rw[hq']at hk;refine⟨⟨[(0,.d (sg l)),(3,.ptr 0 0),(64,.d (qak .sub ks)),(65,.d (.int .i64 ks.length)),(66,.d (.int .i64 (i+1:Nat)))],qah f v ks++[some [.d (.int .i64 (tAt ks i).f),.d (.int .i64 (tAt ks i).v),.d (qak .sub (tAt ks i).kids)]]⟩,?_,by simp[qai,qab,qah]⟩;simp[qwA,qyi,qBC,qBB,qt4,hi,hw,cut,qaF hi,qah,splice];rw[hk];simp[hw])
   ks.length () 0 ⟨[(0,.d (sg l)),(3,.ptr 0 0),(64,.d (qak .sub ks)),(65,.d (.int .i64 ks.length)),(66,.d (.int .i64 0))],qah f v ks⟩ (by omega) (by simp[qai,qab,qah])
  rw[qo1]at h;simp only[qah,qak,List.cons_append,List.nil_append,qu4]at h;simp[v78,qq2,qq1,qq0,hv,qBD,qEk];rw[hh];simp;rw[h];cases hq:qaq (fun i=> !T.form l (tAt ks i)||qdh l f ks i) ks.length 0<;>simp[qzq]
theorem qvB(l:List SymL)(f v:Int)(ks:List T)(c1:f≠-1)(c2:qdA l f v ks.length=false):T.form l (.node f v ks)=(qaq (fun i=> !T.form l (tAt ks i)||qdh l f ks i) ks.length 0).isNone:=by
 have e:qaq (fun i=> !((T.forms l ks)[i]?).getD false||qdh l f ks i) ks.length 0=qaq (fun i=> !T.form l (tAt ks i)||qdh l f ks i) ks.length 0:=by
  have key:∀(k i:Nat),i+k=ks.length->qaq (fun i=> !((T.forms l ks)[i]?).getD false||qdh l f ks i) k i=qaq (fun i=> !T.form l (tAt ks i)||qdh l f ks i) k i:=by
   intro k
   induction k with
   |zero=>intro i _;rfl
   |succ k ih=>
    intro i h;simp only[qaq];simp only[T.qqw l ks i (by omega),ih (i+1) (by omega)]
  exact key _ _ (by omega)
 rw[<-e];simp[T.form,c1,c2]
theorem qmX(l:List SymL)(hs:l.length<=1099511627776)(t:T)(ht:t.inner<=1099511627776):qac XV 78 [.d (sg l),.d (t.enc .sub)] []=some (.d (.bool (T.form l t)),[]):=by
 match t,ht with
 | .node f v ks,ht=>
  simp only[T.inner]at ht;exact qvC l hs f v ks (by omega) (fun s s' h h'=>qgl s s' (by have:=T.qaD h;omega) (by have:=T.qaD h';omega)) (fun s h=>qmX l hs s (by have:=T.qaD h;omega))
termination_by t
decreasing_by
 simp_wf
 have:=List.sizeOf_lt_of_mem h;omega
theorem qJC(l:List SymL)(hs:l.length<=1099511627776)(f v:Int)(ks:List T)(hf:qek l f=true)(i:Nat)(hi:i<ks.length)(hl:ks.length<=1099511627776)
 (hbef:∀s s',s∈ks->s'∈ks->qac XV 84 [.d (s.enc .sub),.d (s'.enc .sub)] []=some (.d (.bool (decide (T.cmp s s'<0))),[]))
 (hrec:qac XV 83 [.d (sg l),.d ((tAt ks i).enc .sub)] []=some (.d (.bool (T.form l (tAt ks i))),[])):
 qaC XV (XV.lin 83) (.region true 0 [0,3,5,116] qyc) ⟨[(0,.d (sg l)),(3,.ptr 0 0),(5,.d (.int .i64 i)),(69,.d (.bool true))],qah f v ks⟩=
  some (.normal,⟨[(0,.d (sg l)),(3,.ptr 0 0),(5,.d (.int .i64 i)),(116,.d (.bool (!T.form l (tAt ks i)||qdh l f ks i)))],qah f v ks⟩):=by
 obtain⟨g1,g2⟩:=qeR hf;unfold qah qdh;cases c2:(qaz l f.toNat).ac with
 |false=>
  cases c1:T.form l (tAt ks i)with
  |false=>rw[c1]at hrec;simp[qnf,hrec,g1,g2,qau g2,c2,cut,hi,qaF hi]
  |true=>rw[c1]at hrec;simp[qnf,hrec,g1,g2,qau g2,c2,cut,hi,qaF hi]
 |true=>
  by_cases c3:(tAt ks i).f=f
  ·have b3:((tAt ks i).f==f)=true:=by simp[c3]
   simp[qnf,g1,g2,qau g2,c2,b3,cut,hi,qaF hi];simp[c3]
  ·have b3:((tAt ks i).f==f)=false:=by simp[c3]
   by_cases c4:i=0
   ·subst c4
    cases c1:T.form l (tAt ks 0)with
    |false=>rw[c1]at hrec;simp[qnf,hrec,g1,g2,qau g2,c2,c3,b3,cut,hi,qaF hi]
    |true=>rw[c1]at hrec;simp[qnf,hrec,g1,g2,qau g2,c2,c3,b3,cut,hi,qaF hi]
   ·obtain⟨j,rfl⟩:∃j,i=j+1:=⟨i-1,by omega⟩
    have hj:j<ks.length:=by omega
    have hb:=hbef _ _ (qaT hi) (qaT hj);have hw:IntKind.i64.wrap (j:Int)=j:=qh3 (by omega);have hpos:(0:Int)<((j+1:Nat):Int):=by omega
    have hnat:(((j+1:Nat):Int)).toNat=j+1:=by omega
    simp only[Int.natCast_add,Int.cast_ofNat_Int]at hpos hnat;have hnn:(0:Int)<=(j:Int)+1:=by omega
    by_cases c5:T.cmp (tAt ks (j+1)) (tAt ks j)<0
    ·simp only[c5,decide_true]at hb
     simp[qnf,g1,g2,qau g2,c2,c3,b3,hw,hpos,hnat,hnn,hj,hi,qaF hj,qaF hi,cut,hb,c5]
    ·simp only[c5,decide_false]at hb
     cases c1:T.form l (tAt ks (j+1))with
     |false=>rw[c1]at hrec;simp[qnf,hrec,g1,g2,qau g2,c2,c3,b3,hw,hpos,hnat,hnn,hj,hi,qaF hj,qaF hi,cut,hb,c5]
     |true=>rw[c1]at hrec;simp[qnf,hrec,g1,g2,qau g2,c2,c3,b3,hw,hpos,hnat,hnn,hj,hi,qaF hj,qaF hi,cut,hb,c5]
theorem qrK(l:List SymL)(hs:l.length<=1099511627776)(f v:Int)(ks:List T)(hl:ks.length<=1099511627776)
 (hbef:∀s s',s∈ks->s'∈ks->qac XV 84 [.d (s.enc .sub),.d (s'.enc .sub)] []=some (.d (.bool (decide (T.cmp s s'<0))),[]))
 (hrec:∀s,s∈ks->qac XV 83 [.d (sg l),.d (s.enc .sub)] []=some (.d (.bool (T.form l s)),[])):
 qac XV 83 [.d (sg l),.d ((T.node f v ks).enc .sub)] []=some (.d (.bool (T.form l (.node f v ks))),[]):=by
 rw[qar XV _ _ _ v83 rfl qxg rfl];have hin:=qg5 v 0 99
 by_cases c1:f= -1
 ·have hform:T.form l (.node f v ks)=(inB v 0 99&&decide (ks.length=0)):=by simp[T.form,c1]
  rw[hform];subst c1;cases c2:inB v 0 99 with
  |false=>rw[c2]at hin;simp[v83,qqZ,qqY,qqX,hin]
  |true=>
   rw[c2]at hin
   by_cases c3:ks.length=0
   ·simp[v83,qqZ,qqY,qqX,hin,c3]
   ·have b3:((ks.length:Int)==0)=false:=by simp;exact fun h=>c3 (by simp[h])
    simp[v83,qqZ,qqY,qqX,hin,b3];exact fun h=>c3 (by simp[h])
 have b1:(f== -1)=false:=by simp[c1]
 have hh:=qGa l hs f v ks;simp only[qah,qak,qu3]at hh;cases c2:qdA l f v ks.length with
 |true=>
  have hform:T.form l (.node f v ks)=false:=by simp[T.form,c1,c2]
  rw[hform];rw[c2]at hh;simp[v83,qqZ,qqY,qqX,b1,qBA];rw[hh];simp
 |false=>
  have hsy:qek l f=true:=by
   unfold qdA at c2
   by_cases h:qek l f=true
   ·exact h
   ·rw[if_neg h]at c2;simp at c2
  rw[qvB l f v ks c1 c2];rw[c2]at hh;have h:=qaA (X:=XV) (T:=XV.lin 83) (L:=1) (live:=[0,3,5]) (b:=qwz) (n:=ks.length) (γ:=Nat) (st:=fun(_:Unit) i=>⟨[(0,.d (sg l)),(3,.ptr 0 0),(5,.d (.int .i64 i))],qah f v ks⟩) (step:=qcs fun i=> !T.form l (tAt ks i)||qdh l f ks i)
   (F:=fun _=>(.exit 0,⟨[(0,.d (sg l)),(3,.ptr 0 0),(5,.d (.int .i64 ks.length)),(69,.d (.bool false))],qah f v ks⟩)) (R:=fun j=>(.ret,⟨[(4,.d (.bool false))],qah f v ks⟩))
   (fun a=>⟨by simp,by simp[qwz,qyd,qah]⟩)
   (fun a i hi=>by
    have hw:=qax (n:=i) (by omega);have hk:=qJC l hs f v ks hsy i hi hl hbef (hrec _ (qaT hi));unfold qcs;simp only[qah,qak,List.cons_append,List.nil_append,qu3]at hk
    by_cases hq:(!T.form l (tAt ks i)||qdh l f ks i)=true
    ·rw[if_pos hq]
     rw[hq]at hk;refine⟨by simp,?_⟩;simp[qwz,qyd,qBz,qBy,hi,hw,cut,qaF hi,qah,splice];rw[hk];simp
    ·rw[if_neg hq]
     have hq':(!T.form l (tAt ks i)||qdh l f ks i)=false:=by simpa using hq
     rw[hq']at hk;refine⟨⟨[(0,.d (sg l)),(3,.ptr 0 0),(5,.d (.int .i64 (i+1:Nat)))],qah f v ks⟩,?_,by simp[qai,qab,qah]⟩;simp[qwz,qyd,qBz,qBy,hi,hw,cut,qaF hi,qah,splice];rw[hk];simp[hw])
   ks.length () 0 ⟨[(0,.d (sg l)),(3,.ptr 0 0),(5,.d (.int .i64 0))],qah f v ks⟩ (by omega) (by simp[qai,qab,qah])
  rw[qo1]at h;simp only[qah,qak,List.cons_append,List.nil_append,qu3]at h;simp[v83,qqZ,qqY,qqX,b1,qBA,qEh];rw[hh];simp;rw[h];cases hq:qaq (fun i=> !T.form l (tAt ks i)||qdh l f ks i) ks.length 0<;>simp[qzp]
theorem qkm(l:List SymL)(hs:l.length<=1099511627776)(t:T)(ht:t.inner<=1099511627776):qac XV 83 [.d (sg l),.d (t.enc .sub)] []=some (.d (.bool (T.form l t)),[]):=by
 match t,ht with
 | .node f v ks,ht=>
  simp only[T.inner]at ht;exact qrK l hs f v ks (by omega) (fun s s' h h'=>qc3 s s' (by have:=T.qaD h;omega) (by have:=T.qaD h';omega)) (fun s h=>qkm l hs s (by have:=T.qaD h;omega))
termination_by t
decreasing_by
 simp_wf
 have:=List.sizeOf_lt_of_mem h;omega
mutual
theorem qnP:∀t:T,T.sum (fun _=>1) t=t.inner+1
 | .node f v ks=>by simp only[T.sum,T.inner];rw[qoX ks];push_cast;omega
theorem qoX:∀l:List T,T.sums (fun _=>1) l=T.inners l+l.length
 | []=>by simp[T.sums,T.inners]
 |t::r=>by simp only[T.sums,T.inners,List.length_cons];rw[qnP t,qoX r];push_cast;omega
end
theorem qmJ(t:T)(ht:t.inner<=1099511627776):IntKind.i64.wrap (T.sum (fun _=>1) t)=(t.inner+1:Nat):=by
 rw[qnP];exact qh3 (n:=t.inner+1) (by omega)
def qb7(l:List SymL)(t:T):Bool:=qiw l&&(decide (t.inner+1<=60)&&T.form l t)
theorem qgj(l:List SymL)(hs:l.length<=1099511627776)(hn:∀i,i<l.length->(qaz l i).name.size<=1099511627776)(t:T)(ht:t.inner<=1099511627776):qac XV 70 [.d (sg l),.d (t.enc .sub)] []=some (.d (.bool (qb7 l t)),[]):=by
 rw[qar XV _ _ _ v70 rfl qxq rfl];have h1:=qmT l hs hn;have h2:=qmU t ht;rw[qmJ t ht]at h2;have h3:=qmX l hs t ht;unfold qb7;cases c1:qiw l with
 |false=>rw[c1]at h1;simp[v70,qyo,qyn,h1]
 |true=>
  rw[c1]at h1
  by_cases c2:t.inner+1<=60
  ·have c2':(((t.inner+1:Nat):Int))<=60:=by omega
   simp only[Int.natCast_add,Int.cast_ofNat_Int]at c2';simp[v70,qyo,qyn,h1,h2,h3,c2,c2']
  ·have c2':¬(((t.inner+1:Nat):Int))<=60:=by omega
   simp only[Int.natCast_add,Int.cast_ofNat_Int]at c2';simp[v70,qyo,qyn,h1,h2,c2,c2']
theorem qfC(l:List SymL)(hs:l.length<=1099511627776)(hn:∀i,i<l.length->(qaz l i).name.size<=1099511627776)(t:T)(ht:t.inner<=1099511627776):qac XV 80 [.d (sg l),.d (t.enc .sub)] []=some (.d (.bool (qb7 l t)),[]):=by
 rw[qar XV _ _ _ v80 rfl qxj rfl];have h1:=qmi l hs hn;have h2:=qht t ht;rw[qmJ t ht]at h2;have h3:=qkm l hs t ht;unfold qb7;cases c1:qiw l with
 |false=>rw[c1]at h1;simp[v80,qyg,qyf,h1]
 |true=>
  rw[c1]at h1
  by_cases c2:t.inner+1<=60
  ·have c2':(((t.inner+1:Nat):Int))<=60:=by omega
   simp only[Int.natCast_add,Int.cast_ofNat_Int]at c2';simp[v80,qyg,qyf,h1,h2,h3,c2,c2']
  ·have c2':¬(((t.inner+1:Nat):Int))<=60:=by omega
   simp only[Int.natCast_add,Int.cast_ofNat_Int]at c2';simp[v80,qyg,qyf,h1,h2,c2,c2']
end Go.Proofs.Ytfiakfiocdfpbaa.VS
namespace Go.Proofs.Ytfiakfiocdfpbaa.VS
structure Bd where
 v:Int
 t:T
def Bd.enc(g:Tag)(b:Bd):DV:= .agg [.int .i64 b.v,.int .i64 b.t.f,.int .i64 b.t.v,qak g b.t.kids]
def Bd.ok(b:Bd):Prop:=(-9223372036854775808<=b.v/\b.v<=9223372036854775807)/\b.t.ok
abbrev binds(g:Tag)(l:List Bd):DV:= .sl g (l.map (Bd.enc g))
@[simp] theorem Bd.qnv(g:Tag)(x:Bd):(x.enc g).cells=[.int .i64 x.v,.int .i64 x.t.f,.int .i64 x.t.v,qak g x.t.kids]:=rfl
@[simp] theorem Bd.qkO(g:Tag)(x:Bd):(AV.d (x.enc g)).cells=[.d (.int .i64 x.v),.d (.int .i64 x.t.f),.d (.int .i64 x.t.v),.d (qak g x.t.kids)]:=rfl
@[simp] theorem Bd.qkN(g:Tag)(x:Bd):(x.enc g).isCell=false:=rfl
@[simp] theorem Bd.qGY(g:Tag)(x:Bd):isAgg (x.enc g)=true:=rfl
@[simp] theorem Bd.qeP(g:Tag)(x:Bd):(x.enc g).clr=x.enc .sub:=by
 simp only[Bd.enc,DV.clr,DV.clrs,qak,DV.qav,qcB]
@[simp high] theorem Bd.qed(g:Tag)(l:List Bd):(l.map (Bd.enc g)).map DV.clr=l.map (Bd.enc .sub):=by simp[List.map_map,Function.comp_def]
@[simp] theorem Bd.agg_enc(g:Tag)(x:Bd):DV.agg [.int .i64 x.v,.int .i64 x.t.f,.int .i64 x.t.v,qak g x.t.kids]=x.enc g:=rfl
end Go.Proofs.Ytfiakfiocdfpbaa.VS
namespace Go.Proofs.Ytfiakfiocdfpbaa.VS
end Go.Proofs.Ytfiakfiocdfpbaa.VS
namespace Go.Proofs.Ytfiakfiocdfpbaa.VS
theorem qwK(a c:List T)(g:Tag)(h:(a.length+c.length)*40<=140737488355328):qbl 3 40 (.sl U (a.map (T.enc U))) (.sl g (c.map (T.enc U)))=some (.sl U ((a++c).map (T.enc U))):=by
 have h1:(c.map (T.enc U)).all (fun e=>decide (e.cells.length=3/\e.cells.all DV.isCell=true))=true:=by
  simp[qad,qal]
 have h2:(a.map (T.enc U)).all (fun e=>decide (e.cells.length=3))=true:=by simp
 unfold qbl;simp only;rw[if_pos h1];cases c with
 |nil=>simp
 |cons x r=>
  simp only[List.map_cons,List.isEmpty_cons,Bool.false_eq_true,if_false];rw[if_pos ⟨by simpa using h,trivial,h2⟩];simp
theorem qqu(l:List T)(i:Nat)(h:i<l.length)(hl:l.length<=1099511627776):qbl 3 40 (.sl U ((l.take i).map (T.enc U))) (.sl U [(tAt l i).enc U])=some (.sl U ((l.take (i+1)).map (T.enc U))):=by
 have:=qwK (l.take i) [tAt l i] U (by simp;omega);rw[qfz l i h];exact this
theorem qvb(f v:Int)(ks:List T)(hl:ks.length<=1099511627776)(hc:∀t,t∈ks->qac XV 146 [.d (t.enc .sub)] []=some (.d (t.enc U),[])):
 qac XV 146 [.d ((T.node f v ks).enc .sub)] []=some (.d ((T.node f v ks).enc U),[]):=by
 rw[qar XV _ _ _ qBl rfl qtj rfl];have hloop:=qaA (X:=XV) (T:=XV.lin 146) (L:=3) (live:=[1,2,3,4]) (b:=qqq) (n:=ks.length) (γ:=Unit) (st:=fun(_:Unit) i=>⟨[(1,.ptr 0 0),(2,.ptr 1 0),(3,.ptr 2 0),(4,.d (.int .i64 i))],[some [.d (.int .i64 f),.d (.int .i64 v),.d (qak .sub ks)],some [.d (.int .i64 0),.d (.int .i64 0),.d (.sl U [])],some [.d (.int .i64 f),.d (.int .i64 v),.d (.sl U ((ks.take i).map (T.enc U)))]]⟩) (step:=fun _ _=> .inl ())
  (F:=fun _=>(.exit 0,⟨[(1,.ptr 0 0),(2,.ptr 1 0),(3,.ptr 2 0),(4,.d (.int .i64 ks.length)),(14,.d (.bool false))],[some [.d (.int .i64 f),.d (.int .i64 v),.d (qak .sub ks)],some [.d (.int .i64 0),.d (.int .i64 0),.d (.sl U [])],some [.d (.int .i64 f),.d (.int .i64 v),.d (.sl U ((ks.take ks.length).map (T.enc U)))]]⟩)) (R:=fun _=>(.ret,⟨[],[]⟩))
  (fun _=>⟨by simp,by simp[qqq,qmI,qmH,qmG,qmF,qqe,qmE,qmD]⟩)
  (fun _ i hi=>by
   have hw:=qax (n:=i) (by omega);have hc':=hc _ (qaT hi);have ha:=qqu ks i hi hl;generalize hl2:(ks.take (i+1)).map (T.enc U)=l2 at ha;generalize (ks.take i).map (T.enc U)=l1 at ha⊢
   exact⟨⟨[(1,.ptr 0 0),(2,.ptr 1 0),(3,.ptr 2 0),(4,.d (.int .i64 (i+1:Nat)))],[some [.d (.int .i64 f),.d (.int .i64 v),.d (qak .sub ks)],some [.d (.int .i64 0),.d (.int .i64 0),.d (.sl U [])],some [.d (.int .i64 f),.d (.int .i64 v),.d (.sl U l2)]]⟩,by simp[qqq,qmI,qmH,qmG,qmF,qqe,qmE,qmD,hi,hw,cut,qaF hi,hc',ha,splice,AV.qav,qad,qal,qan,qaI],by simp[qai,qab,<-hl2]⟩)
  ks.length () 0 ⟨[(1,.ptr 0 0),(2,.ptr 1 0),(3,.ptr 2 0),(4,.d (.int .i64 0))],[some [.d (.int .i64 f),.d (.int .i64 v),.d (qak .sub ks)],some [.d (.int .i64 0),.d (.int .i64 0),.d (.sl U [])],some [.d (.int .i64 f),.d (.int .i64 v),.d (.sl U [])]]⟩ (by omega) (by simp[qai,qab])
 rw[qzo,List.take_length]at hloop;simp only[qCd,qak]at hloop;simp[qBl,qmI,qmH,qmG,qmF,qqe,qmE,qmD,splice,qad,qal,qan,qaI,qae];rw[hloop];simp[qBl,qmI,qmH,qmG,qmF,qqe,qmE,qmD,splice,qad,qal,qan,qaI,qae]
theorem qgg(t:T)(ht:t.inner<=1099511627776):qac XV 146 [.d (t.enc .sub)] []=some (.d (t.enc U),[]):=by
 match t,ht with
 | .node f v ks,ht=>
  simp only[T.inner]at ht;exact qvb f v ks (by omega) fun s hs=>qgg s (by have:=T.qaD hs;omega)
termination_by t
decreasing_by
 simp_wf
 have:=List.sizeOf_lt_of_mem hs;omega
theorem qng(ks:List T)(hl:ks.length<=1099511627776)(hc:∀t,t∈ks->qac XV 150 [.d (t.enc .sub)] []=some (.d (t.enc U),[])):
 qac XV 151 [.d (qak .sub ks)] []=some (.d (qak U ks),[]):=by
 rw[qar XV _ _ _ qDc rfl qtg rfl];have hloop:=qaA (X:=XV) (T:=XV.lin 151) (L:=0) (live:=[3,7,8,9]) (b:=qqp) (n:=ks.length) (γ:=Unit) (st:=fun(_:Unit) i=>⟨[(3,.d (.sl U ((ks.take i).map (T.enc U)))),(7,.d (qak .sub ks)),(8,.d (.int .i64 ks.length)),(9,.d (.int .i64 i))],[]⟩) (step:=fun _ _=> .inl ())
  (F:=fun _=>(.exit 0,⟨[(3,.d (.sl U ((ks.take ks.length).map (T.enc U)))),(7,.d (qak .sub ks)),(8,.d (.int .i64 ks.length)),(9,.d (.int .i64 ks.length)),(10,.d (.bool false))],[]⟩)) (R:=fun _=>(.ret,⟨[],[]⟩))
  (fun _=>⟨by simp,by simp[qqp,qpE,qpD,qpC,quN,quM,quL,quK,qmC]⟩)
  (fun _ i hi=>by
   have hw:=qax (n:=i) (by omega);have hc':=hc _ (qaT hi);have ha:=qqu ks i hi hl;generalize hl2:(ks.take (i+1)).map (T.enc U)=l2 at ha;generalize (ks.take i).map (T.enc U)=l1 at ha⊢
   exact⟨⟨[(3,.d (.sl U l2)),(7,.d (qak .sub ks)),(8,.d (.int .i64 ks.length)),(9,.d (.int .i64 (i+1:Nat)))],[some [.d (.int .i64 (tAt ks i).f),.d (.int .i64 (tAt ks i).v),.d (qak .sub (tAt ks i).kids)]]⟩,by simp[qqp,qpE,qpD,qpC,quN,quM,quL,quK,qmC,hi,hw,cut,qaF hi,hc',ha,splice,qad,qal,qan,qaI,qae],qdu (e:=[some [.d (.int .i64 (tAt ks i).f),.d (.int .i64 (tAt ks i).v),.d (qak .sub (tAt ks i).kids)]]) (by simp[<-hl2]) (by simp[qab]) (by simp) (by simp)⟩)
  ks.length () 0 ⟨[(3,.d (.sl U [])),(7,.d (qak .sub ks)),(8,.d (.int .i64 ks.length)),(9,.d (.int .i64 0))],[]⟩ (by omega) (by simp[qai,qab])
 rw[qzo,List.take_length]at hloop;simp only[qCc]at hloop;simp[qDc,qpE,qpD,qpC,qmC];rw[hloop];simp[qmC]
theorem qoF(f v:Int)(ks:List T)(h:qac XV 151 [.d (qak .sub ks)] []=some (.d (qak U ks),[])):qac XV 150 [.d ((T.node f v ks).enc .sub)] []=some (.d ((T.node f v ks).enc U),[]):=by
 rw[qar XV _ _ _ qDd rfl qth rfl];simp only[qak]at h;simp[qDd,qzP,qzO,qzN,h,splice,qad,qal,qan,qaI,qae]
theorem qfu(t:T)(ht:t.inner<=1099511627776):qac XV 150 [.d (t.enc .sub)] []=some (.d (t.enc U),[]):=by
 match t,ht with
 | .node f v ks,ht=>
  simp only[T.inner]at ht;exact qoF f v ks (qng ks (by omega) fun s hs=>qfu s (by have:=T.qaD hs;omega))
termination_by t
decreasing_by
 simp_wf
 have:=List.sizeOf_lt_of_mem hs;omega
theorem qyC(n:Int):qac XV 147 [.d (.int .i64 n)] []=some (.d ((T.node (-1) n []).enc U),[]):=by
 rw[qar XV _ _ _ qDe rfl qti rfl];simp[qDe,qzR,qzQ,splice,qad,qal,qan,qaI,qae];rw[T.qc0];rfl
end Go.Proofs.Ytfiakfiocdfpbaa.VS
namespace Go.Proofs.Ytfiakfiocdfpbaa.VS
mutual
theorem qlR:∀a b:T,T.cmp a b= -(T.cmp b a)
 | .node f v ks,.node f' v' ks'=>by
  have h:=qqh ks ks';simp only[T.cmp]
  repeat' split
  all_goals first|omega|exact h
theorem qqh:∀a b:List T,T.cmps a b= -(T.cmps b a)
 | [],[]=>rfl
 | [],_::_=>rfl
 |_::_,[]=>rfl
 |x::xs,y::ys=>by
  have h1:=qlR x y;have h2:=qqh xs ys;simp only[T.cmps]
  repeat' split
  all_goals omega
end
end Go.Proofs.Ytfiakfiocdfpbaa.VS
namespace Go.Proofs.Ytfiakfiocdfpbaa.VS
def ins(t:T):List T->List T
 | []=>[t]
 |x::r=>if T.cmp t x<0 then t::x::r else x::ins t r
def qcJ:List T->List T->List T
 |acc,[]=>acc
 |acc,t::r=>qcJ (ins t acc) r
def qfq(l:List T):List T:=qcJ [] l
theorem qlA(t:T):∀l:List T,(ins t l).Perm (t::l)
 | []=> .refl _
 |x::r=>by
  simp only[ins];split
  ·exact .refl _
  ·exact((qlA t r).cons x).trans (.swap t x r)
theorem qhK:∀(l acc:List T),(qcJ acc l).Perm (acc++l)
 | [],acc=>by simp[qcJ]
 |t::r,acc=>by
  simp only[qcJ];refine(qhK r _).trans ?_;refine((qlA t acc).append_right r).trans ?_;exact List.perm_middle.symm
theorem qeX(l:List T):(qfq l).Perm l:=qhK l []
theorem qdz:∀(a acc b:List T),qcJ acc (a++b)=qcJ (qcJ acc a) b
 | [],acc,b=>rfl
 |t::r,acc,b=>by simp only[List.cons_append,qcJ];exact qdz r _ b
def qsE(s:List SymL)(f:Int)(k:T):List T:=if(qcT s f&&k.f==f)=true then k.kids else [k]
def flatK(s:List SymL)(f:Int)(l:List T):List T:=l.flatMap (qsE s f)
mutual
def T.norm(s:List SymL):T->T
 | .node f v ks=> .node f v (if qcT s f=true then qfq (flatK s f (T.norms s ks))else flatK s f (T.norms s ks))
def T.norms(s:List SymL):List T->List T
 | []=>[]
 |t::r=>t.norm s::T.norms s r
end
theorem T.norms_map(s:List SymL):∀l:List T,T.norms s l=l.map (T.norm s)
 | []=>by simp[T.norms]
 |t::r=>by simp[T.norms,T.norms_map s r]
theorem qAb(s:List SymL)(t:T):(t.norm s).f=t.f:=by cases t;simp[T.norm]
theorem qAa(s:List SymL)(t:T):(t.norm s).v=t.v:=by cases t;simp[T.norm]
theorem qjz(a b:List T):qeh (a++b)=qeh a+qeh b:=by unfold qeh;rw[qd4,List.length_append];omega
theorem qgz{a b:List T}(h:a.Perm b):qeh a=qeh b:=by
 induction h with
 |nil=>rfl
 |cons x _ ih=>rw[qbX,qbX,ih]
 |swap x y l=>rw[qbX,qbX,qbX,qbX];omega
 |trans _ _ h1 h2=>rw[h1,h2]
theorem qwj(s:List SymL)(f:Int)(k:T):qeh (qsE s f k)<=k.inner+1:=by
 unfold qsE;split
 ·rw[qni];omega
 ·rw[qbX];simp[qeh,T.inners]
theorem qhb(s:List SymL)(f:Int)(k:T)(l:List T):flatK s f (k::l)=qsE s f k++flatK s f l:=rfl
theorem qm4(s:List SymL)(f:Int)(a b:List T):flatK s f (a++b)=flatK s f a++flatK s f b:=by unfold flatK;simp
theorem qhi(s:List SymL)(f:Int):∀l:List T,qeh (flatK s f l)<=qeh l
 | []=>by simp[flatK,qeh,T.inners]
 |k::l=>by
  rw[qhb,qjz,qbX];have:=qwj s f k;have:=qhi s f l;omega
theorem T.qhm(f v:Int)(ks:List T):(T.node f v ks).inner=qeh ks:=by simp[T.inner,qeh]
mutual
theorem qg8(s:List SymL):∀t:T,(t.norm s).inner<=t.inner
 | .node f v ks=>by
  have h:=qhh s ks;have h2:=qhi s f (T.norms s ks);simp only[T.norm,T.qhm];split
  ·rw[qgz (qeX _)];omega
  ·omega
theorem qhh(s:List SymL):∀l:List T,qeh (T.norms s l)<=qeh l
 | []=>by simp[T.norms]
 |t::r=>by
  have h1:=qg8 s t;have h2:=qhh s r;simp only[T.norms,qbX];omega
end
theorem qgc{l:List T}{t:T}(h:t∈l):t.inner<=qeh l:=by have:=T.qaD h;unfold qeh;omega
theorem qie(l:List T):l.length<=qeh l:=by unfold qeh;omega
def qwT(s:List SymL)(f:Int)(ks:List T)(i:Nat):List T:=flatK s f ((ks.take i).map (T.norm s))
theorem qwQ(s:List SymL)(f:Int)(ks:List T):qwT s f ks 0=[]:=by simp[qwT,flatK]
theorem qwR(s:List SymL)(f:Int)(ks:List T)(i:Nat)(h:i<ks.length):qwT s f ks (i+1)=qwT s f ks i++qsE s f ((tAt ks i).norm s):=by
 unfold qwT;rw[qfz ks i h,List.map_append,qm4];simp[flatK]
theorem qze(s:List SymL)(f:Int)(ks:List T):qwT s f ks ks.length=flatK s f (T.norms s ks):=by
 unfold qwT;rw[List.take_length,T.norms_map]
theorem qwS(s:List SymL)(f:Int)(ks:List T)(i:Nat):qeh (qwT s f ks i)<=qeh ks:=by
 unfold qwT;have h1:=qhi s f ((ks.take i).map (T.norm s));rw[<-T.norms_map]at h1⊢
 have h2:=qhh s (ks.take i);have h3:=qCF ks i;omega
theorem qAk(t:T):∀(l:List T) (j:Nat),j<=l.length->(∀i,i<j->¬T.cmp t (tAt l i)<0)->(j<l.length->T.cmp t (tAt l j)<0)->ins t l=l.take j++t::l.drop j
 | [],j,hj,_,_=>by simp at hj;subst hj;rfl
 |x::r,0,hj,h1,h2=>by
  have:=h2 (by simp);simp only[tAt,List.getElem?_cons_zero,Option.getD_some]at this;simp[ins,this]
 |x::r,j+1,hj,h1,h2=>by
  have h0:=h1 0 (by omega);simp only[tAt,List.getElem?_cons_zero,Option.getD_some]at h0;have:=qAk t r j (by simpa using hj) (fun i hi=>by simpa[tAt]using h1 (i+1) (by omega)) (fun h=>by simpa[tAt]using h2 (by simpa using h));simp[ins,h0,this]
end Go.Proofs.Ytfiakfiocdfpbaa.VS
namespace Go.Proofs.Ytfiakfiocdfpbaa.VS
theorem qwL(a c:List T)(g:Tag)(h:(a.length+c.length)*40<=140737488355328):qbl 3 40 (.sl U (a.map (T.enc U))) (.sl g (c.map (T.enc U)))=some (.sl U ((a++c).map (T.enc U))):=by
 have h1:(c.map (T.enc U)).all (fun e=>decide (e.cells.length=3/\e.cells.all DV.isCell=true))=true:=by
  simp[qad,qal]
 have h2:(a.map (T.enc U)).all (fun e=>decide (e.cells.length=3))=true:=by simp
 unfold qbl;simp only;rw[if_pos h1];cases c with
 |nil=>simp
 |cons x r=>
  simp only[List.map_cons,List.isEmpty_cons,Bool.false_eq_true,if_false];rw[if_pos ⟨by simpa using h,trivial,h2⟩];simp
theorem qtY(xs:List DV)(m:Nat):qb8 xs 0 m=(xs.take m).map DV.clr++xs.drop m:=by
 unfold qb8;simp[DV.qav]
def putAt(t:T)(l:List T):Nat:=match qaq (fun i=>decide (T.cmp t (tAt l i)<0)) l.length 0 with
 |some j=>j
 |none=>l.length
theorem qfs(q:Nat->Bool):∀(k i:Nat),(∀j,qaq q k i=some j->∀m,i<=m->m<j->q m=false)/\(qaq q k i=none->∀m,i<=m->m<i+k->q m=false)
 |0,i=>⟨fun j h=>by simp[qaq]at h,fun _ m h1 h2=>by omega⟩
 |k+1,i=>by
  have ih:=qfs q k (i+1);simp only[qaq]
  by_cases h:q i=true
  ·simp only[h,if_true]
   exact⟨fun j hj m h1 h2=>by simp at hj;omega,fun h=>by simp at h⟩
  ·simp only[h,Bool.false_eq_true,if_false]
   refine⟨fun j hj m h1 h2=> ?_,fun hn m h1 h2=> ?_⟩
   ·by_cases e:m=i
    ·subst e;simpa using h
    ·exact ih.1 j hj m (by omega) h2
   ·by_cases e:m=i
    ·subst e;simpa using h
    ·exact ih.2 hn m (by omega) (by omega)
theorem qpG(t:T)(l:List T):putAt t l<=l.length:=by
 unfold putAt;split
 ·rename_i j h;have:=(qdj _ _ _ _ h).2.1;omega
 ·omega
theorem quS(t:T)(l:List T):ins t l=l.take (putAt t l)++t::l.drop (putAt t l):=by
 have h:=qfs (fun i=>decide (T.cmp t (tAt l i)<0)) l.length 0;refine qAk t l _ (qpG t l) (fun i hi=> ?_) (fun hlt=> ?_)
 ·unfold putAt at hi
  split at hi
  ·rename_i j hj
   simpa using h.1 j hj i (by omega) hi
  ·rename_i hn
   simpa using h.2 hn i (by omega) (by omega)
 ·unfold putAt at hlt⊢
  split
  ·rename_i j hj
   simpa using (qdj _ _ _ _ hj).2.2
  ·rename_i hn;rw[hn]at hlt;simp at hlt
theorem qpR(l:List T)(t:T)(hl:qeh l<=1099511627776)(ht:t.inner<=1099511627776)(x0 x1 x2 x3:Option (List AV)):qac XV 154 [.d (qak U l),.d (t.enc U)] [x0,x1,x2,x3]=some (.d (.sl U ((ins t l).map (T.enc U))),[x0,x1,x2,x3]):=by
 have hlen:=qie l;have hlt:=qpG t l;have hb:∀i,i<l.length->qac XV 84 [.d (t.enc .sub),.d ((tAt l i).enc .sub)] []=some (.d (.bool (decide (T.cmp t (tAt l i)<0))),[]):=fun i hi=>qc3 t (tAt l i) ht (by have:=qgc (qaT hi);omega)
 rw[qar XV _ _ _ qDa rfl qte rfl];have h:=qaA (X:=XV) (T:=XV.lin 154) (L:=5) (live:=[0,3,5]) (b:=qkD) (n:=l.length) (st:=fun(_:Unit) i=>⟨[(0,.d (qak U l)),(3,.ptr 4 0),(5,.d (.int .i64 i))],[x0,x1,x2,x3,some [.d (.int .i64 t.f),.d (.int .i64 t.v),.d (qak U t.kids)]]⟩) (step:=qcs fun i=>decide (T.cmp t (tAt l i)<0))
  (F:=fun _=>(.exit 0,⟨[(0,.d (qak U l)),(3,.ptr 4 0),(5,.d (.int .i64 l.length)),(19,.d (.bool false))],[x0,x1,x2,x3,some [.d (.int .i64 t.f),.d (.int .i64 t.v),.d (qak U t.kids)]]⟩)) (R:=fun(j:Nat)=>(.exit 0,⟨[(0,.d (qak U l)),(3,.ptr 4 0),(5,.d (.int .i64 j)),(19,.d (.bool false))],[x0,x1,x2,x3,some [.d (.int .i64 t.f),.d (.int .i64 t.v),.d (qak U t.kids)]]⟩))
  (fun a=>⟨by simp,by simp[qkD,qmB,qmA,qwe,qpB,qmz,qmy,qmx]⟩)
  (fun a i hi=>by
   have hw:=qax (n:=i) (by omega);have hc:=hb i hi;unfold qcs
   by_cases hq:decide (T.cmp t (tAt l i)<0)=true
   ·rw[if_pos hq]
    rw[hq]at hc;exact⟨by simp,by simp[qkD,qmB,qmA,qwe,qpB,qmz,qmy,qmx,hi,hw,cut,qaF hi,hc,qae]⟩
   ·rw[if_neg hq]
    have hq':decide (T.cmp t (tAt l i)<0)=false:=by simpa using hq
    rw[hq']at hc;exact⟨⟨[(0,.d (qak U l)),(3,.ptr 4 0),(5,.d (.int .i64 (i+1:Nat)))],[x0,x1,x2,x3,some [.d (.int .i64 t.f),.d (.int .i64 t.v),.d (qak U t.kids)]]⟩,by simp[qkD,qmB,qmA,qwe,qpB,qmz,qmy,qmx,hi,hw,cut,qaF hi,hc,qae],by simp[qai,qab]⟩)
  l.length () 0 ⟨[(0,.d (qak U l)),(3,.ptr 4 0),(5,.d (.int .i64 0))],[x0,x1,x2,x3,some [.d (.int .i64 t.f),.d (.int .i64 t.v),.d (qak U t.kids)]]⟩ (by omega) (by simp[qai,qab])
 have h':qdM XV (XV.lin 154) 5 [0,3,5] qkD ⟨[(0,.d (qak U l)),(3,.ptr 4 0),(5,.d (.int .i64 0))],[x0,x1,x2,x3,some [.d (.int .i64 t.f),.d (.int .i64 t.v),.d (qak U t.kids)]]⟩=
  some (.exit 0,⟨[(0,.d (qak U l)),(3,.ptr 4 0),(5,.d (.int .i64 (putAt t l))),(19,.d (.bool false))],[x0,x1,x2,x3,some [.d (.int .i64 t.f),.d (.int .i64 t.v),.d (qak U t.kids)]]⟩):=by
  rw[h,qo1];unfold putAt;cases hq:qaq (fun i=>decide (T.cmp t (tAt l i)<0)) l.length 0<;>simp
 clear h;rw[quS];generalize putAt t l=m at*
 have hm:¬((m:Int)<0):=by omega
 have a1:=qwL [] (l.take m) .sub (by simp;omega);have a2:=qwL (l.take m) [t] U (by simp;omega);have a3:=qwL (l.take m++[t]) (l.drop m) .sub (by simp;omega);have hall:(l.map (T.enc U)).all (fun e=>decide (e.cells.length=3))=true:=by simp
 have hrest:qb8 (l.map (T.enc U)) 0 m=(l.take m).map (T.enc .sub)++(l.drop m).map (T.enc U):=by rw[qtY,<-List.map_take,qcB,<-List.map_drop]
 have hall2:((l.take m).map (T.enc .sub)++(l.drop m).map (T.enc U)).all (fun e=>decide (e.cells.length=3))=true:=by
  have q:∀(l:List T) (g:Tag),(l.map (T.enc g)).all (fun e=>decide (e.cells.length=3))=true:=fun l g=>by simp
  rw[List.all_append,q,q];rfl
 have hlen2:((l.take m).map (T.enc .sub)++(l.drop m).map (T.enc U)).length=l.length:=by simp;omega
 have hd2:(((l.take m).map (T.enc .sub)++(l.drop m).map (T.enc U)).take l.length).drop m=(l.drop m).map (T.enc U):=by
  rw[List.take_of_length_le (by rw[hlen2];exact Nat.le_refl _),List.drop_append_of_le_length (by simp;omega),List.drop_of_length_le (by simp;omega)];rfl
 have ht2:(l.map (T.enc U)).take m=(l.take m).map (T.enc U):=List.map_take.symm;simp only[List.map_nil,List.nil_append,List.map_cons,List.map_append,List.append_assoc,List.cons_append]at a1 a2 a3⊢
 generalize hR:(l.take m).map (T.enc .sub)++(l.drop m).map (T.enc U)=R at*
 generalize hL1:(l.take m).map (T.enc U)=L1 at*
 generalize hL2:(l.drop m).map (T.enc U)=L2 at*
 generalize hL3:L1++[T.enc U t]=L3 at*
 generalize hL4:L1++T.enc U t::L2=L4 at*
 simp only[qCb]at h';simp[qDa,qmB,qmA,splice,qad,qal,qan,qaI,qae];rw[h'];simp[qmz,qmy,qmx,hlt,hm,hall,hall2,hlen2,hrest,hd2,ht2,a1,a2,a3,qae,splice,AV.qav]
end Go.Proofs.Ytfiakfiocdfpbaa.VS
namespace Go.Proofs.Ytfiakfiocdfpbaa.VS
def nM(s:List SymL)(t:T):DV:=(t.norm s).enc U
theorem qm3(s:List SymL)(f:Int)(h:¬qcT s f=true):∀l:List T,flatK s f l=l
 | []=>rfl
 |k::l=>by
  rw[qhb,qm3 s f h l];have h':qcT s f=false:=by simpa using h
  simp[qsE,h']
def qw1(s:List SymL)(t:T):List DV:=(t.norm s).kids.map (T.enc U)
theorem qrH(s:List SymL)(t:T):nM s t= .agg [.int .i64 t.f,.int .i64 t.v,.sl U (qw1 s t)]:=by
 unfold nM qw1;rw[T.qc0,qAb,qAa]
theorem qyZ(s:List SymL)(t:T):(qw1 s t).map DV.clr=(t.norm s).kids.map (T.enc .sub):=by unfold qw1;exact qcB _ _
theorem qqj(s:List SymL)(t:T):(nM s t).cells=[.int .i64 t.f,.int .i64 t.v,.sl U (qw1 s t)]:=by rw[qrH];rfl
theorem qGU(s:List SymL)(a:List T)(t:T)(h:a.length<=1099511627776):qbl 3 40 (.sl U (a.map (nM s))) (.sl U [nM s t])=some (.sl U (a.map (nM s)++[nM s t])):=by
 unfold qbl;simp only;rw[if_pos (by simp[qqj,qad,qal])];simp only[List.isEmpty_cons,Bool.false_eq_true,if_false];rw[if_pos ⟨by simp;omega,trivial,by simp[qqj]⟩]
def rowAt(s:List SymL)(f:Int)(ks:List T)(i:Nat):List DV:=if qcT s f=true then(qfq (qwT s f ks i)).map (T.enc U)else(ks.take i).map (nM s)
theorem rowAt_zero(s:List SymL)(f:Int)(ks:List T):rowAt s f ks 0=[]:=by unfold rowAt;rw[qwQ];split<;>rfl
theorem norms_map(s:List SymL):∀l:List T,T.norms s l=l.map (T.norm s)
 | []=>by simp[T.norms]
 |t::r=>by simp[T.norms,norms_map s r]
theorem rowAt_all(s:List SymL)(f v:Int)(ks:List T):DV.agg [.int .i64 f,.int .i64 v,.sl U (rowAt s f ks ks.length)]=nM s (.node f v ks):=by
 rw[qrH];unfold rowAt qw1;rw[qze,List.take_length];simp only[T.qdq,T.qfk,T.norm]
 by_cases hb:qcT s f=true
 ·simp only[hb,if_true,T.qbb]
 ·simp only[hb,Bool.false_eq_true,if_false,T.qbb]
  rw[qm3 s f hb,norms_map,List.map_map];rfl
def nB3(f v:Int)(ks:List T)(R:List DV):qaj:=[some [.d (.int .i64 f),.d (.int .i64 v),.d (qak .sub ks)],some [.d (.int .i64 0),.d (.int .i64 0),.d (.sl U [])],some [.d (.int .i64 f),.d (.int .i64 v),.d (.sl U R)]]
def qlX(l:List T)(j:Nat):List DV:=(l.take j).map (T.enc .sub)++(l.drop j).map (T.enc U)
theorem qx6(l:List T)(j:Nat)(h:j<=l.length):(qlX l j).length=l.length:=by unfold qlX;simp;omega
theorem qx7(l:List T)(j:Nat):(qlX l j).map DV.clr=l.map (T.enc .sub):=by
 unfold qlX;rw[List.map_append,qcB,qcB,<-List.map_append,List.take_append_drop]
theorem qBr(l:List T)(j:Nat)(h:j<l.length):(qlX l j)[j]?=some ((tAt l j).enc U):=by
 unfold qlX;rw[List.getElem?_append_right (by simp;omega),List.drop_eq_getElem_cons h,qaF h];simp[Nat.min_eq_left (Nat.le_of_lt h)]
theorem qx5(l:List T)(j:Nat)(h:j<l.length):(qlX l j).set j ((tAt l j).enc .sub)=qlX l (j+1):=by
 unfold qlX;have hm:((l.take j).map (T.enc .sub)).length=j:=by simp;omega
 rw[List.set_append_right _ _ (by rw[hm];exact Nat.le_refl _),hm,Nat.sub_self,List.drop_eq_getElem_cons h,qaF h,List.map_cons,List.set_cons_zero,qfz l j h,List.map_append,List.append_assoc,List.map_cons,List.map_nil];rfl
theorem qx8(l:List T):qlX l l.length=l.map (T.enc .sub):=by unfold qlX;simp
theorem qtV(l:List T):qlX l 0=l.map (T.enc U):=by unfold qlX;simp
theorem qxV(TT:List Nat)(d4:Nat)(s:XS)(b off:Nat)(cs:List AV)(g gt:Tag)(xs:List DV)(k:Nat)(t:T):qty TT d4 3 s b off cs g xs k (some (t.enc gt))=some (qbe TT ⟨s.r,s.B.set b (some (cs.set off (.d (.sl g (xs.set k (t.enc .sub))))))⟩ (some d4) (.d (t.enc gt))):=by
 rw[<-T.qeP gt t,T.qc0];rfl
theorem qyG(s:List SymL)(hs:s.length<=1099511627776)(f v kf kv:Int)(ks l:List T)(i:Nat)(hl:l.length<=1099511627776):∀(k j:Nat),j+k=l.length->∀acc:List T,qeh acc+qeh (l.drop j)<=1099511627776->∀e:qaj,
 qdM XV (XV.lin 153) 4 [0,3,4,5,6,7,8] qqo ⟨[(0,.d (sg s)),(3,.ptr 0 0),(4,.ptr 1 0),(5,.ptr 2 0),(6,.d (.int .i64 i)),(7,.ptr 3 0),(8,.d (.int .i64 j))],nB3 f v ks (acc.map (T.enc U))++[some [.d (.int .i64 kf),.d (.int .i64 kv),.d (.sl U (qlX l j))]]++e⟩=
  some (.exit 3,⟨[(0,.d (sg s)),(3,.ptr 0 0),(4,.ptr 1 0),(5,.ptr 2 0),(6,.d (.int .i64 i)),(7,.ptr 3 0),(8,.d (.int .i64 l.length)),(32,.d (.bool false))],nB3 f v ks ((qcJ acc (l.drop j)).map (T.enc U))++[some [.d (.int .i64 kf),.d (.int .i64 kv),.d (.sl U (l.map (T.enc .sub)))]]⟩):=by
 have head:∀(x:Int) (A e:qaj),A.length=4->qai 4 [0,3,4,5,6,7,8] ⟨[(0,.d (sg s)),(3,.ptr 0 0),(4,.ptr 1 0),(5,.ptr 2 0),(6,.d (.int .i64 i)),(7,.ptr 3 0),(8,.d (.int .i64 x))],A++e⟩=some ⟨[(0,.d (sg s)),(3,.ptr 0 0),(4,.ptr 1 0),(5,.ptr 2 0),(6,.d (.int .i64 i)),(7,.ptr 3 0),(8,.d (.int .i64 x))],A⟩:=fun x A e hA=>
  qdu (by simp) (by simp[qab]) hA rfl
 intro k
 induction k with
 |zero=>
  intro j hj acc ha e;have:j=l.length:=by omega
  subst this;refine qeA (head _ _ e (by simp[nB3])) ?_ (by simp);rw[List.drop_length,qx8];simp only[qcJ];simp[qqo,qfN,qfM,qfL,qhH,qhF,qex,qew,qev,qeu,qhE,qhD,qjx,qhC,qhG,qdZ,nB3,qae]
 |succ k ih=>
  intro j hj acc ha e;have hlt:j<l.length:=by omega
  have hm:=qaT hlt;have h1:=qgc hm;have hd:l.drop j=tAt l j::l.drop (j+1):=by rw[List.drop_eq_getElem_cons hlt,qaF hlt]
  have hw:=qax (n:=j) (by omega);have r1:=qx6 l j (by omega);have r2:=qx7 l j;have r3:∀h:j<(qlX l j).length,(qlX l j)[j]'h=(tAt l j).enc U:=fun h=>(List.getElem?_eq_some_iff.1 (qBr l j hlt)).2
  have r4:=qx5 l j hlt;rw[hd,qbX]at ha;have hp:=qpR acc (tAt l j) (by omega) (by omega);rw[hd];simp only[qcJ];rw[<-ih (j+1) (by omega) (ins (tAt l j) acc) (by rw[qgz (qlA _ _),qbX];omega) []];refine qlv (head _ _ e (by simp[nB3])) ?_;generalize qlX l (j+1)=R1 at*
  generalize qlX l j=R0 at*
  simp[qqo,qfN,qfM,qfL,qhH,qhF,qex,qew,qev,qeu,qhE,qhD,qjx,qhC,qhG,qdZ,nB3,hlt,hw,cut,qaF hlt,hp,r1,r2,r3,r4,qxV,qap,VX.linT,splice,qad,qal,qan,qaI,qae]
theorem qF3(s:List SymL)(hs:s.length<=1099511627776)(f v:Int)(ks:List T)(hl:qeh ks<=1099511627776)(i:Nat)(hi:i<ks.length)
 (hc:qac XV 153 [.d (sg s),.d ((tAt ks i).enc .sub)] []=some (.d (nM s (tAt ks i)),[])):
 ∃e:qaj,qaC XV (XV.lin 153) qhY ⟨[(0,.d (sg s)),(3,.ptr 0 0),(4,.ptr 1 0),(5,.ptr 2 0),(6,.d (.int .i64 i))],nB3 f v ks (rowAt s f ks i)⟩=
  some (.normal,⟨[(0,.d (sg s)),(3,.ptr 0 0),(4,.ptr 1 0),(5,.ptr 2 0),(6,.d (.int .i64 (i+1:Nat)))],nB3 f v ks (rowAt s f ks (i+1))++e⟩):=by
 have hlen:=qie ks;have hw:=qax (n:=i) (by omega);have hb:=qhu s hs f;have ht:=qaF hi;have hm:=qgc (qaT hi);have hin:=qg8 s (tAt ks i);have hac:=qwR s f ks i hi;have hcn:=qwS s f ks (i+1);have htk:=qfz ks i hi;have hM:=qyZ s (tAt ks i);have hnf:=qAb s (tAt ks i);have hnv:=qAa s (tAt ks i);have happ:=qGU s (ks.take i) (tAt ks i) (by simp;omega);rw[hac,qjz]at hcn;unfold rowAt;rw[hac,htk];rw[qrH]at hc happ;generalize hk:tAt ks i=k at*
 generalize hr:qwT s f ks i=acc at*
 have hXu:qw1 s k=(k.norm s).kids.map (T.enc U):=rfl;generalize hX:qw1 s k=X at*
 by_cases h1:qcT s f=true
 ·simp only[h1,if_true]
  by_cases h2:(k.f==f)=true
  ·have e1:qsE s f (k.norm s)=(k.norm s).kids:=by unfold qsE;rw[hnf,h1,h2];rfl
   rw[e1]at hcn⊢
   have hloop:=qyG s hs f v k.f k.v ks (k.norm s).kids i (by have:=qie (k.norm s).kids;rw[qni]at this;omega) (k.norm s).kids.length 0 (by omega) (qfq acc) (by rw[qgz (qeX acc),List.drop_zero];omega) [];rw[List.drop_zero,qtV,show qcJ (qfq acc) (k.norm s).kids=qfq (acc++(k.norm s).kids)from by unfold qfq;rw[qdz]]at hloop;refine⟨[some [.d (.int .i64 k.f),.d (.int .i64 k.v),.d (.sl U ((k.norm s).kids.map (T.enc .sub)))]],?_⟩;have h2n:(k.f !=f)=false:=by simpa using h2
   rw[<-hXu]at hloop;generalize (qfq (acc++(k.norm s).kids)).map (T.enc U)=R2 at*
   generalize (qfq acc).map (T.enc U)=R1 at*
   generalize (k.norm s).kids=l at*
   simp only[nB3,qu6,Int.natCast_zero,List.cons_append,List.nil_append,List.append_nil]at hloop⊢
   simp[qhY,qfN,qfM,qfL,qhH,qhF,qex,qew,qev,qeu,qhE,qhD,qjx,qhC,qhG,qdZ,hi,hw,cut,ht,hc,hb,h1,h2n,hM,splice,qad,qal,qan,qaI,qae,AV.qav];rw[hloop];simp[qhY,qfN,qfM,qfL,qhH,qhF,qex,qew,qev,qeu,qhE,qhD,qjx,qhC,qhG,qdZ,hw]
  ·have h2':(k.f==f)=false:=by simpa using h2
   have h2n:(k.f !=f)=true:=by simpa using h2
   have e1:qsE s f (k.norm s)=[k.norm s]:=by unfold qsE;rw[hnf,h1,h2'];rfl
   rw[e1]at hcn⊢
   rw[show qfq (acc++[k.norm s])=ins (k.norm s) (qfq acc)from by unfold qfq;rw[qdz];rfl];have hp:=qpR (qfq acc) (k.norm s) (by rw[qgz (qeX acc)];omega) (by omega);have hke:(k.norm s).enc U= .agg [.int .i64 k.f,.int .i64 k.v,.sl U X]:=by rw[T.qc0,hnf,hnv,hXu]
   simp only[hke]at hp;refine⟨[some [.d (.int .i64 k.f),.d (.int .i64 k.v),.d (qak .sub (k.norm s).kids)]],?_⟩;generalize ins (k.norm s) (qfq acc)=R2 at*
   generalize qfq acc=R1 at*
   generalize (k.norm s).kids=l at*
   simp[qhY,qfN,qfM,qfL,qhH,qhF,qex,qew,qev,qeu,qhE,qhD,qjx,qhC,qhG,qdZ,nB3,hi,hw,cut,ht,hc,hb,h1,h2n,hM,hp,qap,VX.linT,splice,qad,qal,qan,qaI,qae,AV.qav]
 ·have h1':qcT s f=false:=by simpa using h1
  simp only[h1',Bool.false_eq_true,if_false];refine⟨[some [.d (.int .i64 k.f),.d (.int .i64 k.v),.d (qak .sub (k.norm s).kids)]],?_⟩;rw[List.map_append,List.map_cons,List.map_nil,qrH,hX];generalize hR2:(ks.take i).map (nM s)++[.agg [.int .i64 k.f,.int .i64 k.v,.sl U X]]=R2 at*
  generalize (ks.take i).map (nM s)=R1 at*
  generalize (k.norm s).kids=l at*
  simp[qhY,qfN,qfM,qfL,qhH,qhF,qex,qew,qev,qeu,qhE,qhD,qjx,qhC,qhG,qdZ,nB3,hi,hw,cut,ht,hc,hb,h1',happ,hM,splice,qad,qal,qan,qaI,qae,AV.qav]
end Go.Proofs.Ytfiakfiocdfpbaa.VS
namespace Go.Proofs.Ytfiakfiocdfpbaa.VS
theorem qB3(s:List SymL)(hs:s.length<=1099511627776)(f v:Int)(ks:List T)(hl:qeh ks<=1099511627776)
 (hc:∀t,t∈ks->qac XV 153 [.d (sg s),.d (t.enc .sub)] []=some (.d (nM s t),[])):∀(k i:Nat),i+k=ks.length->∀e:qaj,
 qdM XV (XV.lin 153) 3 [0,3,4,5,6] qhY ⟨[(0,.d (sg s)),(3,.ptr 0 0),(4,.ptr 1 0),(5,.ptr 2 0),(6,.d (.int .i64 i))],nB3 f v ks (rowAt s f ks i)++e⟩=
  some (.exit 0,⟨[(0,.d (sg s)),(3,.ptr 0 0),(4,.ptr 1 0),(5,.ptr 2 0),(6,.d (.int .i64 ks.length)),(18,.d (.bool false))],nB3 f v ks (rowAt s f ks ks.length)⟩):=by
 have head:∀(x:Int) (A e:qaj),A.length=3->qai 3 [0,3,4,5,6] ⟨[(0,.d (sg s)),(3,.ptr 0 0),(4,.ptr 1 0),(5,.ptr 2 0),(6,.d (.int .i64 x))],A++e⟩=some ⟨[(0,.d (sg s)),(3,.ptr 0 0),(4,.ptr 1 0),(5,.ptr 2 0),(6,.d (.int .i64 x))],A⟩:=fun x A e hA=>
  qdu (by simp) (by simp[qab]) hA rfl
 intro k
 induction k with
 |zero=>
  intro i hi e;have:i=ks.length:=by omega
  subst this;refine qeA (head _ _ e (by simp[nB3])) ?_ (by simp);generalize rowAt s f ks ks.length=R;simp[qhY,qfN,qfM,qfL,qhH,qhF,qex,qew,qev,qeu,qhE,qhD,qjx,qhC,qhG,qdZ,nB3,qae]
 |succ k ih=>
  intro i hi e;have hlt:i<ks.length:=by omega
  obtain⟨e',he⟩:=qF3 s hs f v ks hl i hlt (hc _ (qaT hlt));rw[<-ih (i+1) (by omega) e'];exact qlv (head _ _ e (by simp[nB3])) he
theorem qnX(s:List SymL)(hs:s.length<=1099511627776)(f v:Int)(ks:List T)(hl:qeh ks<=1099511627776)
 (hc:∀t,t∈ks->qac XV 153 [.d (sg s),.d (t.enc .sub)] []=some (.d (nM s t),[])):
 qac XV 153 [.d (sg s),.d ((T.node f v ks).enc .sub)] []=some (.d (nM s (.node f v ks)),[]):=by
 rw[qar XV _ _ _ qDb rfl qtf rfl];have hloop:=qB3 s hs f v ks hl hc ks.length 0 (by omega) [];rw[<-rowAt_all];simp only[rowAt_zero,List.append_nil,qu6,nB3,Int.natCast_zero]at hloop;generalize rowAt s f ks ks.length=R at*
 simp[qDb,qfN,qfM,qfL,splice,qad,qal,qan,qaI,qae,AV.qav];rw[hloop];simp[qdZ,splice,qad,qal,qan,qaI,qae,AV.qav]
theorem qiv(s:List SymL)(hs:s.length<=1099511627776)(t:T)(ht:t.inner<=1099511627776):qac XV 153 [.d (sg s),.d (t.enc .sub)] []=some (.d (nM s t),[]):=by
 match t,ht with
 | .node f v ks,ht=>
  rw[T.qhm]at ht;exact qnX s hs f v ks ht fun x hx=>qiv s hs x (by have:=qgc hx;omega)
termination_by t
decreasing_by
 simp_wf
 have:=List.sizeOf_lt_of_mem hx;omega
end Go.Proofs.Ytfiakfiocdfpbaa.VS
namespace Go.Proofs.Ytfiakfiocdfpbaa.VS
def dst(n:Int)(neg:Bool)(s:ByteArray):XS:=⟨[(0,.d (.int .i64 n)),(3,.d (.bool neg)),(4,.d (.str s))],[]⟩
end Go.Proofs.Ytfiakfiocdfpbaa.VS
namespace Go.Proofs.Ytfiakfiocdfpbaa.VS
end Go.Proofs.Ytfiakfiocdfpbaa.VS
namespace Go.Proofs.Ytfiakfiocdfpbaa.VS
end Go.Proofs.Ytfiakfiocdfpbaa.VS
namespace Go.Proofs.Ytfiakfiocdfpbaa.VS
def qfF:List SymL:=[⟨⟨#[116,116]⟩,0,false⟩,⟨⟨#[97]⟩,0,false⟩,⟨⟨#[98]⟩,0,false⟩,⟨⟨#[103]⟩,1,false⟩,⟨⟨#[104]⟩,2,false⟩,⟨⟨#[102]⟩,2,true⟩,⟨⟨#[107]⟩,2,true⟩]
theorem qpT:qac XV 155 [] []=some (.d (.sl U (qfF.map SymL.enc)),[]):=by
 rw[qar XV _ _ _ qC9 rfl qtd rfl];simp[qC9,qzM,qzL,qfF,qaK,List.replicate,splice]
structure SigD(l:List SymL):Prop where
 len:l.length<=9
 sym:∀s,s∈l->s.name.size<=9/\-1<=s.arity/\s.arity<=4
theorem SigD.ok{l:List SymL}(h:SigD l):∀s,s∈l->s.ok:=fun s hs=>by
 obtain⟨h1,h2,h3⟩:=h.sym s hs;exact⟨by unfold maxLen;omega,by omega,by omega⟩
theorem SigD.nm{l:List SymL}(h:SigD l)(n:Nat)(hn:9<=n):∀i,i<l.length->(qaz l i).name.size<=n:=fun i hi=>by
 have:=(h.sym _ (qme hi)).1;omega
theorem qCh(x y:Int)(r:DV):(DV.int .u8 x).like r=(DV.int .u8 y).like r:=by cases r<;>rfl
theorem qyN(bs:List Int):(bs.map (DV.int .u8)).flatMap DV.cells=bs.map (DV.int .u8):=by
 induction bs with
 |nil=>rfl
 |cons b r ih=>simp only[List.map_cons,List.flatMap_cons,ih,DV.cells,List.singleton_append]
theorem qhn(rs:List DV):∀bs:List Int,DV.xrests rs (bs.map (.int .u8))=true
 | []=>by simp[DV.xrests]
 |b::r=>by simp[DV.xrests,DV.xrest,qhn rs r]
theorem qnF(rs:List DV)(h:rs.all (fun r=> !(DV.int .u8 0).like r)=true)(bs:List Int):DV.xrest rs (.sl .sub (bs.map (.int .u8)))=true:=by
 simp only[DV.xrest,qhn,Bool.and_true,qyN];cases bs with
 |nil=>rfl
 |cons b r=>
  have:(rs.all fun r=> !(DV.int .u8 b).like r)=true:=by
   rw[<-h];congr 1;funext r;rw[qCh b 0]
  simp[this]
theorem qgJ(rs:List DV)(h:rs.all (fun r=> !(DV.int .u8 0).like r)=true)(bs:List Int)(pos st:Int):qbu rs (qbi bs pos st)=true:=by
 simp only[qbu,qbi,List.all_cons,List.all_nil,AV.xrest];rw[qnF rs h bs];simp only[DV.xrest,Bool.and_self]
@[simp] theorem qF7(s:SymL):qa5 s.enc=true:=rfl
@[simp] theorem qDG(rs:List DV)(s:SymL):DV.xrest rs s.enc=true:=by
 show DV.xrest rs (.agg [.str s.name,.int .i64 s.arity,.bool s.ac])=true;simp only[DV.xrest,DV.xrests,Bool.and_self]
theorem qcS(bs:List Int)(pos st:Int):AV.clrs (qbi bs pos st)=qbi bs pos st:=by simp[qbi]
theorem qD8:SigD qfF:=by
 refine⟨by decide,fun s hs=> ?_⟩;simp only[qfF,List.mem_cons,List.not_mem_nil,or_false]at hs;rcases hs with rfl|rfl|rfl|rfl|rfl|rfl|rfl<;>exact⟨by decide,by decide,by decide⟩
end Go.Proofs.Ytfiakfiocdfpbaa.VS
namespace Go.Proofs.Ytfiakfiocdfpbaa.VS
mutual
def T.rng:T->Prop
 | .node _ v ks=>(-9223372036854775808<=v/\v<=9223372036854775807)/\T.rngs ks
def T.rngs:List T->Prop
 | []=>True
 |t::r=>t.rng/\T.rngs r
end
theorem T.qe5:∀l:List T,T.rngs l↔∀t,t∈l->t.rng
 | []=>by simp[T.rngs]
 |t::r=>by simp[T.rngs,T.qe5 r]
end Go.Proofs.Ytfiakfiocdfpbaa.VS
namespace Go.Proofs.Ytfiakfiocdfpbaa.VS
theorem qcn{bs:List Int}{q:Nat}{B R B':qaj}(hq:q<B.length)(h:qcd bs q (B++R) B'):∃B1,qcd bs q B B1/\B1.length=B.length/\B'=B1++R:=by
 obtain⟨pos,st,hp,rfl⟩:=h;exact⟨B.set q (some (qbi bs pos st)),⟨pos,st,hp,rfl⟩,by simp,by rw[List.set_append_left _ _ hq]⟩
theorem qcE.app{bs:List Int}{q:Nat}{B:qaj}(h:qcE bs q B)(R:qaj):qcE bs q (B++R):=by
 have hq:=h.lt;obtain⟨pos,st,hp,hb⟩:=h;exact⟨pos,st,hp,by have:=qc8 hb;simp[qaV,List.getElem?_append_left hq,this]⟩
theorem qjw(A:qaj)(c:Option (List AV))(L:Nat)(h:A.length=L):(A++[c])[L]?=some c:=by subst h;simp
theorem qkv(A:qaj)(c c':Option (List AV))(L:Nat)(h:A.length=L):(A++[c]).set L c'=A++[c']:=by subst h;simp
theorem qvZ(A:qaj)(c:Option (List AV))(L:Nat)(h:A.length=L):(A++[c]).take L=A:=by subst h;simp
theorem qof(bs:List Int)(hl:bs.length<=1099511627776)(B:qaj)(i:Nat)(h:qcE bs i B)(n:Int)(hn:0<n)(hn2:n<=256):∃(b:Bool) (B':qaj),qcd bs i B B'/\qac XV 162 [.ptr i 0,.d (.int .i64 n)] B=some (.d (.bool b),B'):=by
 obtain⟨r,B',hr,hT,hc⟩:=qcp bs hl B i h n hn hn2;have hi:=h.lt;have hlen:=hT.len;have htake:List.take B.length B'=B':=List.take_of_length_le (by omega);refine⟨r==0,B',hT,?_⟩;rw[qar XV _ _ _ qC4 rfl qs8 rfl];simp[qC4,qzy,qzx,hc,htake,hi]
theorem qpS(f:Int)(ks:List T):qac XV 164 [.d (.int .i64 f),.d (qak .sub ks)] []=some (.d ((T.node f 0 ks).enc .sub),[]):=by
 rw[qar XV _ _ _ v164 rfl qs6 rfl];simp[v164,qzu,qzt,splice,qad,qal,qan,qaI,qae]
theorem qtA{n:Nat}(h:n<9223372036854775808):IntKind.i64.wrap (((n+1:Nat):Int)-1)=n:=by
 rw[show((n+1:Nat):Int)-1=n by omega];exact wrap_i64 (by omega) (by omega)
def qjj:VCode:=(.seq (.seq (.region false 0 [0,2,6,20] qmr) (.cond (.t 20) (.seq (.region false 0 [6] quu) .ret) .skip)) (.seq (.region false 0 [6] qpw) .ret))
def qoD:VCode:=(.seq (.region false 0 [0,1,2,6,7] qpv) (.seq (.region false 0 [0,1,2,6,7,8] qpu) (.seq (.seq (.region false 0 [0,1,2,6,7,8,39] qpt) (.cond (.t 39) (.region false 0 [6,7,8] qps) .skip)) (.seq (.region false 0 [6] qpr) .ret))))
def qhk:VCode:= .seq (.seq (.region false 0 [0,1,2,6,14] qke) (.cond (.t 14) qjj .skip)) qoD
theorem qBi:qC2=⟨3,[.cell 6 true 3],.seq (.region false 1 [0,1,2,6] quv) qhk⟩:=rfl
theorem qqa(bs:List Int)(hl:bs.length<=1099511627776)(deep vars:Int)(hv:vars<=256)(B:qaj)(q:Nat)(h:qcE bs q B)(L:Nat)(hL:B.length=L)(C:Option (List AV))(hC:C=some [.d (.int .i64 0),.d (.int .i64 0),.d (.sl U [])]):
 ∃(t:T) (g:Tag) (B':qaj),(t.inner=0/\t.rng)/\qcd bs q B B'/\B'.length=L/\
  qaC XV (XV.lin 166) qjj ⟨[(0,.ptr q 0),(1,.d (.int .i64 deep)),(2,.d (.int .i64 vars)),(6,.ptr L 0),(14,.d (.bool true))],B++[C]⟩=
   some (.ret,⟨[(6,.ptr L 0)],B'++[some [.d (.int .i64 t.f),.d (.int .i64 t.v),.d (.sl g (t.kids.map (T.enc g)))]]⟩):=by
 subst hC;have hq:=h.lt;have leaf2:∀B1:qaj,qcd bs q B B1->B1.length=L->∃(t:T) (g:Tag) (B':qaj),(t.inner=0/\t.rng)/\qcd bs q B B'/\B'.length=L/\
  ∀b20:AV,qaC XV (XV.lin 166) (.seq (.region false 0 [6] qpw) .ret) ⟨[(0,.ptr q 0),(2,.d (.int .i64 vars)),(6,.ptr L 0),(20,b20)],B1++[some [.d (.int .i64 0),.d (.int .i64 0),.d (.sl U [])]]⟩=
   some (.ret,⟨[(6,.ptr L 0)],B'++[some [.d (.int .i64 t.f),.d (.int .i64 t.v),.d (.sl g (t.kids.map (T.enc g)))]]⟩):=by
  intro B1 hT1 hL1;obtain⟨r,B2,hr,hT2,hc⟩:=qcp bs hl _ q ((hT1.at hq).app [some [.d (.int .i64 0),.d (.int .i64 0),.d (.sl U [])]]) 2 (by omega) (by omega);obtain⟨B3,hT3,hL3,rfl⟩:=qcn (by omega) hT2;rw[hL1]at hL3;have hw:IntKind.i64.wrap (1+r)=1+r:=wrap_i64 (by omega) (by omega);refine⟨.node (1+r) 0 [],U,B3,by simp[T.inner,T.inners,T.rng,T.rngs],hT1.trans hT3,hL3,fun b20=> ?_⟩;simp[qpw,hc,hw,hL3,qjw,qkv,splice,qad,qal,qan,qaI]
 by_cases hv0:0<vars
 ·obtain⟨b,B2,hT2,hc⟩:=qof bs hl _ q (h.app [some [.d (.int .i64 0),.d (.int .i64 0),.d (.sl U [])]]) 2 (by omega) (by omega)
  obtain⟨B3,hT3,hL3,rfl⟩:=qcn hq hT2;cases b with
  |true=>
   obtain⟨r,B4,hr,hT4,hc4⟩:=qcp bs hl _ q ((hT3.at hq).app [some [.d (.int .i64 0),.d (.int .i64 0),.d (.sl U [])]]) vars hv0 hv;obtain⟨B5,hT5,hL5,rfl⟩:=qcn (by omega) hT4;have hlv:=qyC r;rw[hL3,hL]at hL5;refine⟨.node (-1) r [],U,B5,by simp[T.inner,T.inners,T.rng,T.rngs];omega,hT3.trans hT5,hL5,?_⟩;simp[qjj,qmr,quu,hv0,hc,hc4,hlv,hL5,qjw,qkv,splice,qad,qal,qan,qaI]
  |false=>
   obtain⟨t,g,B',h1,h2,h3,h4⟩:=leaf2 B3 hT3 (by omega);refine⟨t,g,B',h1,h2,h3,?_⟩;have h4':=h4 (.d (.bool false));simp only[qjh]at h4';simp[qjj,qmr,hv0,hc];simpa using h4'
 ·obtain⟨t,g,B',h1,h2,h3,h4⟩:=leaf2 B (by
   obtain⟨pos,st,hp,hb⟩:=h;refine⟨pos,st,hp,?_⟩;apply List.ext_getElem?;intro j
   by_cases hj:q=j
   ·subst hj;rw[List.getElem?_set_self',qc8 hb];simp
   ·rw[List.getElem?_set_ne hj]) hL
  refine⟨t,g,B',h1,h2,h3,?_⟩;have h4':=h4 (.d (.bool false));simp only[qjh]at h4';simp[qjj,qmr,hv0];simpa using h4'
theorem qii(L:Nat)(B B':qaj)(q:Nat)(deep vars:Int)(t:T)(g:Tag)(hq:q<B.length)(hL:B.length=L)(hL':B'.length=L)
 (h:qaC XV (XV.lin 166) qhk ⟨[(0,.ptr q 0),(1,.d (.int .i64 deep)),(2,.d (.int .i64 vars)),(6,.ptr L 0)],B++[some [.d (.int .i64 0),.d (.int .i64 0),.d (.sl U [])]]⟩=
  some (.ret,⟨[(6,.ptr L 0)],B'++[some [.d (.int .i64 t.f),.d (.int .i64 t.v),.d (.sl g (t.kids.map (T.enc g)))]]⟩)):
 qac XV 166 [.ptr q 0,.d (.int .i64 deep),.d (.int .i64 vars)] B=some (.d (t.enc g),B'):=by
 rw[qar XV _ _ _ qC2 rfl qs4 rfl,qBi];simp only[qjh]at h;obtain⟨f,v,ks⟩:=t;simp only[T.qdq,T.qfk,T.qbb]at h;simp[quv,hL,qjw,qkv,hq];rw[h];simp[hL',qjw,qvZ,qae]
theorem qft(bs:List Int)(hl:bs.length<=1099511627776):∀(d:Nat),d<=8->∀(vars:Int),vars<=256->∀(B:qaj) (q:Nat),qcE bs q B->
 ∃(t:T) (g:Tag) (B':qaj),(t.inner+2<=2^(d+1)/\t.rng)/\qcd bs q B B'/\qac XV 166 [.ptr q 0,.d (.int .i64 d),.d (.int .i64 vars)] B=some (.d (t.enc g),B'):=by
 intro d
 induction d with
 |zero=>
  intro _ vars hv B q hs;obtain⟨t,g,B',h1,h2,h3,h4⟩:=qqa bs hl 0 vars hv B q hs B.length rfl _ rfl;refine⟨t,g,B',⟨by omega,h1.2⟩,h2,qii B.length B B' q 0 vars t g hs.lt rfl h3 ?_⟩;simp only[qjh]at h4⊢
  simp[qhk,qke];rw[h4];simp
 |succ d ih=>
  intro hd vars hv B q hs;have hq:=hs.lt;obtain⟨b,B2,hT2,hc⟩:=qof bs hl _ q (hs.app [some [.d (.int .i64 0),.d (.int .i64 0),.d (.sl U [])]]) 3 (by omega) (by omega);obtain⟨B3,hT3,hL3,rfl⟩:=qcn hq hT2;have hne:(((d+1:Nat):Int)==0)=false:=by simpa using (show¬(((d+1:Nat):Int)=0)by omega)
  cases b with
  |true=>
   obtain⟨t,g,B',h1,h2,h3,h4⟩:=qqa bs hl ((d+1:Nat):Int) vars hv B3 q (hT3.at hq) B.length hL3 _ rfl;refine⟨t,g,B',⟨by have:2^1<=2^(d+1+1):=Nat.pow_le_pow_right (by omega) (by omega);omega,h1.2⟩,hT3.trans h2,qii B.length B B' q _ vars t g hq rfl h3 ?_⟩;simp only[qjh]at h4⊢
   generalize ((d+1:Nat):Int)=D at*
   simp[qhk,qke,hne,hc];rw[h4];simp
  |false=>
   obtain⟨j,hj,B4,hT4,hc4⟩:=qeB bs hl _ q ((hT3.at hq).app [some [.d (.int .i64 0),.d (.int .i64 0),.d (.sl U [])]]) [3,4,5,5,6] (by simp) (by simp);obtain⟨B5,hT5,hL5,rfl⟩:=qcn (by omega) hT4;generalize ([3,4,5,5,6]:List Int)[j]=f at hc4;obtain⟨t1,g1,B6,hi1,hT6,hc6⟩:=ih (by omega) vars hv _ q ((hT5.at (by omega)).app [some [.d (.int .i64 0),.d (.int .i64 0),.d (.sl U [])]]);obtain⟨B7,hT7,hL7,rfl⟩:=qcn (by omega) hT6;have hw:=qtA (n:=d) (by omega)
   by_cases hf:3<f
   ·obtain⟨t2,g2,B8,hi2,hT8,hc8⟩:=ih (by omega) vars hv _ q ((hT7.at (by omega)).app [some [.d (.int .i64 0),.d (.int .i64 0),.d (.sl U [])]])
    obtain⟨B9,hT9,hL9,rfl⟩:=qcn (by omega) hT8;have hof:qac XV 164 [.d (.int .i64 f),.d (.sl .sub [t1.enc .sub,t2.enc .sub])] []=some (.d (.agg [.int .i64 f,.int .i64 0,.sl .sub [t1.enc .sub,t2.enc .sub]]),[]):=by
     have:=qpS f [t1,t2];rw[T.qc0]at this;exact this
    refine⟨.node f 0 [t1,t2],.sub,B9,⟨by simp only[T.inner,T.inners,List.length_cons,List.length_nil];rw[Nat.pow_succ];omega,by simp[T.rng,T.rngs,hi1.2,hi2.2]⟩,hT3.trans (hT5.trans (hT7.trans hT9)),qii B.length B B9 q _ vars _ .sub hq rfl (by omega) ?_⟩;have e9:B9.length=B.length:=by omega
    have e7:B7.length=B.length:=by omega
    have e5:B5.length=B.length:=by omega
    simp only[List.map_cons,List.map_nil]at hc4;generalize ((d+1:Nat):Int)=D at*
    generalize (d:Int)=D0 at*
    simp[qhk,qoD,qke,qpv,qpu,qpt,qps,qpr,hne,hc,hc4,hw,hc6,hf,hc8,hof,e9,qaK,List.replicate,qjw,qkv,splice,qad,qal,qan,qaI,qbl]
   ·have hof:qac XV 164 [.d (.int .i64 f),.d (.sl .sub [t1.enc .sub])] []=some (.d (.agg [.int .i64 f,.int .i64 0,.sl .sub [t1.enc .sub]]),[]):=by
     have:=qpS f [t1];rw[T.qc0]at this;exact this
    refine⟨.node f 0 [t1],.sub,B7,⟨by simp only[T.inner,T.inners,List.length_cons,List.length_nil];rw[Nat.pow_succ];omega,by simp[T.rng,T.rngs,hi1.2]⟩,hT3.trans (hT5.trans hT7),qii B.length B B7 q _ vars _ .sub hq rfl (by omega) ?_⟩;have e7:B7.length=B.length:=by omega
    have e5:B5.length=B.length:=by omega
    simp only[List.map_cons,List.map_nil]at hc4;generalize ((d+1:Nat):Int)=D at*
    generalize (d:Int)=D0 at*
    simp[qhk,qoD,qke,qpv,qpu,qpt,qps,qpr,hne,hc,hc4,hw,hc6,hf,hof,e7,qaK,List.replicate,qjw,qkv,splice,qad,qal,qan,qaI,qbl]
end Go.Proofs.Ytfiakfiocdfpbaa.VS
namespace Go.Proofs.Ytfiakfiocdfpbaa.VS
theorem qzc(s:List SymL)(f:Int)(k:T)(h:k.rng):T.rngs (qsE s f k):=by
 unfold qsE;split
 ·obtain⟨a,b,c⟩:=k;exact h.2
 ·exact⟨h,trivial⟩
theorem qk2{a b:List T}(h1:T.rngs a)(h2:T.rngs b):T.rngs (a++b):=by
 rw[T.qe5]at*
 intro t ht;rcases List.mem_append.1 ht with h|h
 ·exact h1 t h
 ·exact h2 t h
theorem qm2(s:List SymL)(f:Int):∀l:List T,T.rngs l->T.rngs (flatK s f l)
 | [],_=>by simp[flatK,T.rngs]
 |k::l,h=>by rw[qhb];exact qk2 (qzc s f k h.1) (qm2 s f l h.2)
mutual
theorem qpK(s:List SymL):∀t:T,t.rng->(t.norm s).rng
 | .node f v ks,h=>by
  have h2:=qm2 s f _ (qmN s ks h.2);simp only[T.norm];split
  ·refine⟨h.1,?_⟩
   rw[T.qe5]at h2⊢
   exact fun t ht=>h2 t ((qeX _).mem_iff.1 ht)
  ·exact⟨h.1,h2⟩
theorem qmN(s:List SymL):∀l:List T,T.rngs l->T.rngs (T.norms s l)
 | [],_=>trivial
 |t::r,h=>⟨qpK s t h.1,qmN s r h.2⟩
end
theorem qeJ(bs:List Int)(hl:bs.length<=1099511627776)(vars:Int)(hv:vars<=256)(B:qaj)(q:Nat)(h:qcE bs q B):
 ∃(t:T) (B':qaj),(t.inner<=6/\t.rng)/\(∃u,t=T.norm qfF u)/\qcd bs q B B'/\qac XV 163 [.ptr q 0,.d (.int .i64 vars)] B=some (.d (t.enc U),B'):=by
 have hq:=h.lt;obtain⟨t,g,B1,hi,hT,hc⟩:=qft bs hl 2 (by omega) vars hv _ q (h.app [some [.d (.int .i64 0),.d (.int .i64 0),.d (.sl U [])]]);obtain⟨B2,hT2,hL2,rfl⟩:=qcn hq hT;have hn:=qiv qfF (by decide) t (by omega);have hin:=qg8 qfF t;refine⟨t.norm qfF,B2,⟨by omega,qpK qfF t hi.2⟩,⟨t,rfl⟩,hT2,?_⟩;rw[qar XV _ _ _ qC3 rfl qs7 rfl];have hsg:=qpT;rw[qrH]at hn;have e:(t.norm qfF).enc U= .agg [.int .i64 t.f,.int .i64 t.v,.sl U (qw1 qfF t)]:=by rw[<-qrH];rfl
 rw[e];generalize qw1 qfF t=X at*
 have hc':qac XV 166 [AV.ptr q 0,AV.d (DV.int IntKind.i64 2),AV.d (DV.int IntKind.i64 vars)] (B++[some [AV.d (DV.int IntKind.i64 0),AV.d (DV.int IntKind.i64 0),AV.d (DV.sl U [])]])=some (AV.d (t.enc g),B2++[some [AV.d (DV.int IntKind.i64 0),AV.d (DV.int IntKind.i64 0),AV.d (DV.sl U [])]]):=hc;simp[qC3,qzw,qzv,hq,hsg,hc',hn,hL2,qjw,qkv,qvZ,qae,splice,qad,qal,qan,qaI]
end Go.Proofs.Ytfiakfiocdfpbaa.VS
namespace Go.Proofs.Ytfiakfiocdfpbaa.VS
def fc(l:List T):List DV:=l.flatMap fun t=>(t.enc U).cells
def fcs(l:List T):List DV:=l.flatMap fun t=>(t.enc .sub).cells
theorem qJI(l:List T):(l.map (T.enc U)).flatMap DV.cells=fc l:=by unfold fc;rw[List.flatMap_map]
theorem qhc(t:T)(l:List T):fc (t::l)= .int .i64 t.f:: .int .i64 t.v:: .sl U (t.kids.map (T.enc U))::fc l:=by
 unfold fc;rw[List.flatMap_cons,T.qc0];rfl
theorem qgr(t:T)(l:List T):fcs (t::l)= .int .i64 t.f:: .int .i64 t.v:: .sl .sub (t.kids.map (T.enc .sub))::fcs l:=by
 unfold fcs;rw[List.flatMap_cons,T.qc0];rfl
theorem qGj(a b:List T):fc (a++b)=fc a++fc b:=by unfold fc;simp
theorem qvH(a b:List T):fcs (a++b)=fcs a++fcs b:=by unfold fcs;simp
theorem qm7:∀l:List T,(fc l).map DV.clr=fcs l
 | []=>rfl
 |t::l=>by rw[qhc,qgr,List.map_cons,List.map_cons,List.map_cons,qm7 l];simp
theorem qfg:∀l:List T,(fc l).length=l.length*3
 | []=>rfl
 |t::l=>by rw[qhc];simp[qfg l];omega
theorem qvG:∀l:List T,(fcs l).length=l.length*3
 | []=>rfl
 |t::l=>by rw[qgr];simp[qvG l];omega
theorem qgn(f:AV->Option DV):∀(a b:List AV) {x y:List DV},qdN f a=some x->qdN f b=some y->qdN f (a++b)=some (x++y)
 | [],b,x,y,h1,h2=>by simp[qdN]at h1;subst h1;simpa using h2
 |v::a,b,x,y,h1,h2=>by
  simp only[qdN]at h1;obtain⟨d,e1,h1⟩:=Option.bind_eq_some_iff.1 h1;obtain⟨x',e2,rfl⟩:=Option.map_eq_some_iff.1 h1;simp only[List.cons_append,qdN,e1,qgn f a b e2 h2,Option.bind_some,Option.map_some]
theorem qkt(M:qaj)(n:Nat):∀l:List DV,qdN (AV.frzC M n) (l.map .d)=some l
 | []=>rfl
 |d::l=>by
  simp only[List.map_cons,qdN,qAn,qkt M n l,Option.bind_some,Option.map_some]
theorem qjB{d:DV}{k:IntKind}{n:Int}(h:d.clr= .int k n):d= .int k n:=by
 cases d<;>simp[DV.clr]at h⊢<;>exact h
theorem qsf{d:DV}{l:List DV}(h:d.clr= .sl .sub l):∃g xs,d= .sl g xs/\DV.clrs xs=l:=by
 cases d<;>simp[DV.clr]at h
 exact⟨_,_,rfl,h⟩
theorem qoy{t:T}{l:List T}{ds:List DV}(h:ds.map DV.clr=fcs (t::l)):∃g xs r,ds= .int .i64 t.f:: .int .i64 t.v:: .sl g xs::r/\DV.clrs xs=t.kids.map (T.enc .sub)/\r.map DV.clr=fcs l:=by
 rw[qgr]at h
 match ds,h with
 | [],h=>simp at h
 | [_],h=>simp at h
 | [_,_],h=>simp at h
 |d0::d1::d2::r,h=>
  simp only[List.map_cons,List.cons.injEq]at h;obtain⟨h0,h1,h2,h3⟩:=h;obtain⟨g,xs,rfl,hx⟩:=qsf h2;exact⟨g,xs,r,by rw[qjB h0,qjB h1],hx,h3⟩
theorem qp6:∀(l:List T) (ds:List DV),ds.map DV.clr=fcs l->ds.all DV.isCell=true
 | [],ds,h=>by
  have:ds=[]:=by simpa[fcs]using h
  subst this;rfl
 |t::l,ds,h=>by
  obtain⟨g,xs,r,rfl,hx,hr⟩:=qoy h;simp[qad,qal];simpa using qp6 l r hr
theorem qku:∀(l:List T) (ds:List DV),ds.map DV.clr=fcs l->∃xs,chunks true 3 l.length ds=some xs/\xs.map DV.clr=l.map (T.enc .sub)
 | [],ds,h=>⟨[],rfl,rfl⟩
 |t::l,ds,h=>by
  obtain⟨g,xs,r,rfl,hx,hr⟩:=qoy h;obtain⟨ys,h1,h2⟩:=qku l r hr;refine⟨.agg [.int .i64 t.f,.int .i64 t.v,.sl g xs]::ys,?_,?_⟩
  ·simp[chunks,cut,qad,qal,h1,DV.cells]
  ·rw[List.map_cons,List.map_cons,h2,T.qc0]
   simp only[DV.clr,DV.clrs,hx]
theorem qCS(B:qaj)(i:Nat)(h:2<=i):qaV (qcw 2 B) i=qaV B i:=by
 unfold qaV qcw;rw[List.getElem?_append_right (by simp;exact h),List.length_replicate,List.getElem?_drop,show 2+(i-2)=i by omega]
def Ctx(j:Nat)(B:qaj)(A D:List T)(N:Nat):Prop:=
 ∀(B':qaj) (cs:List AV) (u:T) (ds:List DV),B'.length=6->(∀i,j<i->B'[i]?=B[i]?)->B'[j]?=some (some cs)->qdN (AV.frzC (qcw 2 B') (j+1)) cs=some ds->ds.map DV.clr=fcs (A++u::D)->
  ∃(c5:List AV) (ds5:List DV) (t':T),B'[5]?=some (some c5)/\qdN (AV.frzC (qcw 2 B') 6) c5=some ds5/\ds5.map DV.clr=fcs [t']/\t'.inner<=N+u.inner/\(u.rng->t'.rng)
theorem Ctx.base(B:qaj):Ctx 5 B [] [] 0:=fun B' cs u ds h1 h2 h3 h4 h5=>⟨cs,ds,u,h3,h4,h5,by omega,id⟩
theorem qeY:∀a b:List T,T.inners (a++b)=T.inners a+T.inners b
 | [],b=>by simp[T.inners]
 |t::a,b=>by simp only[List.cons_append,T.inners,qeY a b];omega
theorem Ctx.step{j:Nat}{B B1:qaj}{A D A' D':List T}{N m:Nat}{f v:Int}(hj:2<=j)(h:Ctx (j+1) B A D N)(hag:∀i,j+1<i->B1[i]?=B[i]?)
 (hat:B1[j+1]?=some (some ((fc A).map .d++([.d (.int .i64 f),.d (.int .i64 v),.tsl true j 3 m]++(fc D).map .d)))) (hm:A'.length+1+D'.length=m) (hv: -9223372036854775808<=v/\v<=9223372036854775807) (hA:T.rngs A') (hD:T.rngs D'):Ctx j B1 A' D' (N+(m+T.inners A'+T.inners D')):=by
 intro B' cs u ds h1 h2 h3 h4 h5;have hlen:ds.length=m*3:=by
  have:=congrArg List.length h5;rw[List.length_map,qvG]at this;rw[this];simp only[List.length_append,List.length_cons];rw[<-hm];congr 1;omega
 obtain⟨xs,hx1,hx2⟩:=qku _ _ h5;have hm':(A'++u::D').length=m:=by simp only[List.length_append,List.length_cons];omega
 rw[hm']at hx1;have htsl:AV.frzC (qcw 2 B') (j+1+1) (.tsl true j 3 m)=some (.sl .sub xs):=by
  simp only[AV.frzC];rw[qCS _ _ hj];simp only[qaV,h3,Option.bind_some,h4,hlen,if_true,hx1,Option.map_some]
 have hmid:qdN (AV.frzC (qcw 2 B') (j+1+1)) [.d (.int .i64 f),.d (.int .i64 v),.tsl true j 3 m]=some [.int .i64 f,.int .i64 v,.sl .sub xs]:=by
  simp only[qdN,htsl,qAn,Option.bind_some,Option.map_some]
 have hfr:=qgn _ _ _ (qkt (qcw 2 B') (j+1+1) (fc A)) (qgn _ _ _ hmid (qkt (qcw 2 B') (j+1+1) (fc D)));have hclr:(fc A++([DV.int .i64 f,DV.int .i64 v,DV.sl .sub xs]++fc D)).map DV.clr=fcs (A++(T.node f v (A'++u::D'))::D):=by
  rw[List.map_append,List.map_append,qm7,qm7,qvH,qgr];simp only[List.map_cons,List.map_nil,DV.clr,DV.qav,hx2,T.qdq,T.qfk,T.qbb,List.cons_append,List.nil_append]
 obtain⟨c5,ds5,t',e1,e2,e3,e4,e4r⟩:=h B' _ _ _ h1 (fun i hi=>by rw[h2 i (by omega),hag i hi]) (by rw[h2 (j+1) (by omega),hat]) hfr hclr;refine⟨c5,ds5,t',e1,e2,e3,?_,fun hu=>e4r ⟨hv,qk2 hA ⟨hu,hD⟩⟩⟩;have e5:(T.node f v (A'++u::D')).inner=m+(T.inners A'+(u.inner+T.inners D')):=by rw[T.qgG,T.qbb,hm',qeY];rfl
 omega
end Go.Proofs.Ytfiakfiocdfpbaa.VS
namespace Go.Proofs.Ytfiakfiocdfpbaa.VS
def qcG(A:List T)(x0 x1 x2:AV)(D:List T):List AV:=(fc A).map .d++([x0,x1,x2]++(fc D).map .d)
theorem qc4(A:List T)(x0 x1 x2:AV)(D:List T):(qcG A x0 x1 x2 D).length=A.length*3+3+D.length*3:=by
 unfold qcG;simp[qfg];omega
theorem qo3(A:List T)(x0 x1 x2:AV)(D:List T):(qcG A x0 x1 x2 D)[A.length*3+2]?=some x2:=by
 unfold qcG;rw[List.getElem?_append_right (by simp[qfg])];simp[qfg]
theorem qtW(A:List T)(x0 x1 x2 y:AV)(D:List T):(qcG A x0 x1 x2 D).set (A.length*3+2) y=qcG A x0 x1 y D:=by
 unfold qcG;rw[List.set_append_right _ _ (by simp[qfg])];simp[qfg]
theorem qBt(A:List T)(x0 x1 x2 y:AV)(D:List T):(qcG A x0 x1 x2 D).set (A.length*3) y=qcG A y x1 x2 D:=by
 unfold qcG;rw[List.set_append_right _ _ (by simp[qfg])];simp[qfg]
theorem qBs(A:List T)(x0 x1 x2 y:AV)(D:List T):(qcG A x0 x1 x2 D).set (A.length*3+1) y=qcG A x0 y x2 D:=by
 unfold qcG;rw[List.set_append_right _ _ (by simp[qfg])];simp[qfg]
theorem qgL{cs:List AV}{k:Nat}(h:k<cs.length)(y:AV):splice cs k [y]=cs.set k y:=by
 unfold splice;rw[List.set_eq_take_append_cons_drop,if_pos h];simp
theorem qBv(A:List T)(x0 x1 x2 y:AV)(D:List T):splice (qcG A x0 x1 x2 D) (A.length*3) [y]=qcG A y x1 x2 D:=by
 rw[qgL (by rw[qc4];omega),qBt]
theorem qBu(A:List T)(x0 x1 x2 y:AV)(D:List T):splice (qcG A x0 x1 x2 D) (A.length*3+1) [y]=qcG A x0 y x2 D:=by
 rw[qgL (by rw[qc4];omega),qBs]
theorem qtX(A:List T)(x0 x1 x2 y:AV)(D:List T):splice (qcG A x0 x1 x2 D) (A.length*3+2) [y]=qcG A x0 x1 y D:=by
 rw[qgL (by rw[qc4];omega),qtW]
def TR(rs:List DV):Prop:=rs.all (fun r=> !(DV.int .u8 0).like r)=true
theorem qGX:∀l:List T,TR (fc l)
 | []=>rfl
 |t::l=>by
  have:=qGX l;unfold TR at this⊢
  rw[qhc];simp only[List.all_cons,this,Bool.and_true];rfl
mutual
theorem qya(rs:List DV):∀t:T,DV.xrest rs (t.enc U)=true
 | .node f v ks=>by
  rw[T.qc0];simp only[ql5,qfm,ql3,qsP,qgI,Bool.and_true,Bool.true_and,T.qbb];exact qeq rs ks
theorem qeq(rs:List DV):∀l:List T,DV.xrests rs (l.map (T.enc U))=true
 | []=>by simp only[List.map_nil,qgI]
 |t::l=>by simp only[List.map_cons,qfm,qya rs t,qeq rs l,Bool.and_true]
end
theorem qt1(rs:List DV):∀l:List T,DV.xrests rs (fc l)=true
 | []=>by simp[fc]
 |t::l=>by rw[qhc];simp[qeq,qt1 rs l]
theorem qe1(rs:List DV):∀l:List T,qbu rs ((fc l).map .d)=true
 | []=>by simp[fc]
 |t::l=>by rw[qhc];simp[qeq,qe1 rs l]
theorem qgw(rs:List DV)(a b:List AV):qbu rs (a++b)=(qbu rs a&&qbu rs b):=by simp[qbu]
theorem qgE(rs:List DV)(B:qaj)(i:Nat)(cs:List AV)(h:qaU rs B=true)(hc:qbu rs cs=true):qaU rs (B.set i (some cs))=true:=by
 unfold qaU at h⊢
 rw[List.all_eq_true]at h⊢
 intro x hx;rcases List.mem_or_eq_of_mem_set hx with h1|h1
 ·exact h x h1
 ·subst h1;exact hc
structure WS(bs:List Int)(j k:Nat)(B:qaj)(A D:List T)(f v:Int)(ks:List T)(N:Nat):Prop where
 jk:j+k=5
 j2:2<=j
 len:B.length=6
 seed:qcE bs 0 B
 one:B[1]?=some (some [.d (.int .i64 0),.d (.int .i64 0),.d (.sl U [])])
 free:∀i,2<=i->i<j->B[i]?=some none
 at_:B[j]?=some (some (qcG A (.d (.int .i64 f)) (.d (.int .i64 v)) (.d (.sl U (ks.map (T.enc U)))) D))
 rest:∀rs,TR rs->qaU rs B=true
 ctx:Ctx j B A D N
 siz:N+(T.node f v ks).inner<=6
 rg:(T.node f v ks).rng
theorem WS.turn{bs:List Int}{j k:Nat}{B:qaj}{A D:List T}{f v:Int}{ks:List T}{N:Nat}(h:WS bs j k B A D f v ks N){B':qaj}(hT:qcd bs 0 B B'):WS bs j k B' A D f v ks N:=by
 have h0:=hT.at (by rw[h.len];omega);obtain⟨pos,st,hp,rfl⟩:=hT;have e:∀i,1<=i->(B.set 0 (some (qbi bs pos st)))[i]?=B[i]?:=fun i hi=>by rw[List.getElem?_set_ne (by omega)]
 have hj:=h.j2;refine⟨h.jk,h.j2,by simp[h.len],h0,by rw[e 1 (by omega)];exact h.one,fun i h1 h2=>by rw[e i (by omega)];exact h.free i h1 h2,by rw[e j (by omega)];exact h.at_,fun rs hr=>qgE rs B 0 _ (h.rest rs hr) (qgJ rs hr bs pos st),?_,h.siz,h.rg⟩;intro B' cs u ds h1 h2;exact h.ctx B' cs u ds h1 (fun i hi=>by rw[h2 i hi,e i (by omega)])
theorem qGh{bs:List Int}{j k:Nat}{B:qaj}{A D:List T}{f v:Int}{ks:List T}{N:Nat}(h:WS bs (j+1) k B A D f v ks N)(hk:0<ks.length)(hj:2<=j)(x5 x22:DV)(h5:∀rs,DV.xrest rs x5=true):
 qnw (.focC 4 2 [0,2,3,4,5]) ⟨[(0,.ptr 0 0),(2,.ptr 1 0),(3,.ptr 5 0),(4,.ptr (j+1) (A.length*3)),(5,.d x5),(22,.d x22)],B⟩=
  some ⟨[(0,.ptr 0 0),(2,.ptr 1 0),(3,.ptr 5 0),(4,.ptr (j+1) (A.length*3)),(5,.d x5)],(B.set (j+1) (some (qcG A (.d (.int .i64 f)) (.d (.int .i64 v)) (.tsl true j 3 ks.length) D))).set j (some ((fc ks).map .d))⟩:=by
 have hat:=h.at_;have hfree:=h.free j hj (by omega);have hr:=h.rest (fc ks) (qGX ks);have hc:qbu (fc ks) (qcG A (.d (.int .i64 f)) (.d (.int .i64 v)) (.tsl true j 3 ks.length) D)=true:=by
  unfold qcG;rw[qgw,qgw,qe1,qe1];simp
 have hb:=qgE (fc ks) B (j+1) _ hr hc;have hx:=qt1 (fc ks) ks;have hg:=qo3 A (.d (.int .i64 f)) (.d (.int .i64 v)) (.d (.sl U (ks.map (T.enc U)))) D;have hs:=qtW A (.d (.int .i64 f)) (.d (.int .i64 v)) (.d (.sl U (ks.map (T.enc U)))) (.tsl true j 3 ks.length) D;have hlen:(ks.map (T.enc U)).length=ks.length:=by simp
 cases ks with
 |nil=>simp at hk
 |cons k0 kr=>
  have hfc:(T.enc U k0::kr.map (T.enc U)).flatMap DV.cells=fc (k0::kr):=by rw[<-qJI];rfl
  have hag:qa5 (k0.enc U)=true:=by rw[T.qc0];rfl
  have hcl:(k0.enc U).cells.length=3:=by simp
  have hbg:qaV B (j+1)=some (qcG A (.d (.int .i64 f)) (.d (.int .i64 v)) (.d (.sl U (T.enc U k0::kr.map (T.enc U)))) D):=by simp only[qaV,hat,List.map_cons]
  simp only[List.map_cons]at hg hs hlen;have hw:xFc 2 [0,2,3,4,5] ⟨[(0,.ptr 0 0),(2,.ptr 1 0),(3,.ptr 5 0),(4,.ptr (j+1) (A.length*3)),(5,.d x5),(22,.d x22)],B⟩ j (A.length*3) (qcG A (.d (.int .i64 f)) (.d (.int .i64 v)) (.d (.sl U (T.enc U k0::kr.map (T.enc U)))) D) (some (.d (.sl U (T.enc U k0::kr.map (T.enc U)))))=
   some ⟨[(0,.ptr 0 0),(2,.ptr 1 0),(3,.ptr 5 0),(4,.ptr (j+1) (A.length*3)),(5,.d x5)],(B.set (j+1) (some (qcG A (.d (.int .i64 f)) (.d (.int .i64 v)) (.tsl true j 3 (k0::kr).length) D))).set j (some ((fc (k0::kr)).map .d))⟩:=by
   rw[qvu,hfc,hag,hcl,show(kr.map (T.enc U)).length+1=(k0::kr).length from by simp,hs,if_pos ⟨by simp[qbK,hfree],by simp[keep,lk,h5],hb,hx⟩];rfl
  rw[qAm];simp only[lk,Nat.reduceEqDiff,if_false,if_true];rw[qvv,hbg,Option.bind_some,hg];exact hw
end Go.Proofs.Ytfiakfiocdfpbaa.VS
namespace Go.Proofs.Ytfiakfiocdfpbaa.VS
theorem qd8(bs:List Int)(pos st:Int):qaB (qbi bs pos st)=some [.sl .sub (bs.map (.int .u8)),.int .i64 pos,.int .i64 st]:=by simp[qbi]
theorem qfb{B:qaj}{i j:Nat}{c:Option (List AV)}(h:i≠j):(B.set i c)[j]?=B[j]?:=by rw[List.getElem?_set_ne h]
theorem qx9{ks:List T}{r:Nat}(h:r<ks.length):(fc ks).map AV.d=qcG (ks.take r) (.d (.int .i64 (tAt ks r).f)) (.d (.int .i64 (tAt ks r).v)) (.d (.sl U ((tAt ks r).kids.map (T.enc U)))) (ks.drop (r+1)):=by
 have e:ks=ks.take r++tAt ks r::ks.drop (r+1):=by
  conv=>lhs;rw[<-List.take_append_drop r ks,List.drop_eq_getElem_cons h,qaF h]
 conv=>lhs;rw[e,qGj,qhc]
 unfold qcG;simp
theorem qJE(bs:List Int)(hl:bs.length<=1099511627776){j k:Nat}{B:qaj}{A D:List T}{f v:Int}{ks:List T}{N:Nat}(h:WS bs (j+1) k B A D f v ks N)(hk:0<ks.length)(hj:2<=j):
 ∃(B':qaj) (A' D':List T) (f' v':Int) (ks':List T) (N':Nat),WS bs j (k+1) B' A' D' f' v' ks' N'/\
  qaC XV (XV.lin 161) (.seq (.block 1 (.ghost (.focC 4 2 [0,2,3,4,5]) (.region true 0 [0,2,3,4,5] qms))) (.region false 0 [0,2,3,4,5] qpx)) ⟨[(0,.ptr 0 0),(2,.ptr 1 0),(3,.ptr 5 0),(4,.ptr (j+1) (A.length*3)),(5,.d (.int .i64 k)),(22,.d (.bool true))],B⟩=
   some (.normal,⟨[(0,.ptr 0 0),(2,.ptr 1 0),(3,.ptr 5 0),(4,.ptr j (A'.length*3)),(5,.d (.int .i64 ((k+1:Nat):Int)))],B'⟩):=by
 have hfo:=qGh h hk hj (.int .i64 k) (.bool true) (fun rs=>by simp);have hlen:=h.len;have hjk:=h.jk;obtain⟨pos,st,hp,hb0⟩:=h.seed;have hb0':=qc8 hb0;have hs1:qcE bs 0 [some (qbi bs pos st)]:=⟨pos,st,hp,rfl⟩;have hsz:=h.siz;rw[T.qhm]at hsz;have hcn:=qie ks;obtain⟨r,B1,hr,⟨pos1,st1,hp1,rfl⟩,hc⟩:=qcp bs hl _ 0 hs1 ks.length (by omega) (by omega);simp only[List.set_cons_zero]at hc;have hrl:r.toNat<ks.length:=by omega
 have hw:=qax (n:=k) (by omega);generalize hR:qcG A (.d (.int .i64 f)) (.d (.int .i64 v)) (.tsl true j 3 ks.length) D=R at hfo;have hR2:R[A.length*3+2]?=some (.tsl true j 3 ks.length):=by rw[<-hR];exact qo3 _ _ _ _ _
 have hRl:A.length*3+2<R.length:=by rw[<-hR,qc4];omega
 have g0:((B.set (j+1) (some R)).set j (some ((fc ks).map .d)))[0]?=some (some (qbi bs pos st)):=by rw[qfb (by omega),qfb (by omega)];exact hb0'
 have g1:((B.set (j+1) (some R)).set j (some ((fc ks).map .d)))[j+1]?=some (some R):=by rw[qfb (by omega),List.getElem?_set_self (by omega)]
 have g2:((B.set (j+1) (some R)).set j (some ((fc ks).map .d))).length=6:=by simp[hlen]
 have gj:((B.set (j+1) (some R)).set j (some ((fc ks).map .d)))[j]?=some (some ((fc ks).map .d)):=by rw[List.getElem?_set_self (by simp;omega)]
 have gi:∀i,i≠j->i≠j+1->((B.set (j+1) (some R)).set j (some ((fc ks).map .d)))[i]?=B[i]?:=fun i h1 h2=>by rw[qfb (Ne.symm h1),qfb (Ne.symm h2)]
 have grest:∀rs,TR rs->qaU rs ((B.set (j+1) (some R)).set j (some ((fc ks).map .d)))=true:=fun rs hrs=>by
  refine qgE _ _ _ _ (qgE _ _ _ _ (h.rest rs hrs) ?_) (qe1 rs ks);rw[<-hR];unfold qcG;rw[qgw,qgw,qe1,qe1];simp
 generalize hB2:(B.set (j+1) (some R)).set j (some ((fc ks).map .d))=B2 at*
 have hn6:¬6<=j+1:=by omega
 have g0':∀h:0<B2.length,B2[0]'h=some (qbi bs pos st):=fun h=>(List.getElem?_eq_some_iff.1 g0).2
 have hR3:∀h:A.length*3+2<R.length,R[A.length*3+2]'h= .tsl true j 3 ks.length:=fun h=>(List.getElem?_eq_some_iff.1 hR2).2
 have hmin:min r.toNat ks.length=r.toNat:=by omega
 have hsd:=qd8 bs pos st;have hsd1:=qd8 bs pos1 st1;have hcl:=qcS bs pos st;have hcl1:=qcS bs pos1 st1;generalize qbi bs pos st=S0 at*
 refine⟨B2.set 0 (some (qbi bs pos1 st1)),ks.take r.toNat,ks.drop (r.toNat+1),(tAt ks r.toNat).f,(tAt ks r.toNat).v,(tAt ks r.toNat).kids,N+(ks.length+T.inners (ks.take r.toNat)+T.inners (ks.drop (r.toNat+1))),?_,?_⟩
 ·have e:ks=ks.take r.toNat++tAt ks r.toNat::ks.drop (r.toNat+1):=by
   conv=>lhs;rw[<-List.take_append_drop r.toNat ks,List.drop_eq_getElem_cons hrl,qaF hrl]
  refine⟨by omega,hj,by simp[g2],⟨pos1,st1,hp1,qqm (by omega)⟩,by rw[qfb (by omega),gi 1 (by omega) (by omega)];exact h.one,fun i h1 h2=>by rw[qfb (by omega),gi i (by omega) (by omega)];exact h.free i h1 (by omega),by rw[qfb (by omega),gj];exact congrArg (some∘some) (qx9 hrl),fun rs hrs=>qgE _ _ _ _ (grest rs hrs) (qgJ rs hrs bs pos1 st1),?_,?_,?_⟩
  ·refine Ctx.step hj h.ctx (fun i hi=>by rw[qfb (by omega),gi i (by omega) (by omega)]) (by rw[qfb (by omega),g1,<-hR];rfl) ?_ h.rg.1 ?_ ?_
   ·have:=congrArg List.length e
    simp only[List.length_append,List.length_cons]at this;omega
   ·have:=h.rg.2;rw[T.qe5]at this⊢;exact fun t ht=>this t (List.mem_of_mem_take ht)
   ·have:=h.rg.2;rw[T.qe5]at this⊢;exact fun t ht=>this t (List.mem_of_mem_drop ht)
  ·have e2:T.inners ks=T.inners (ks.take r.toNat)+((tAt ks r.toNat).inner+T.inners (ks.drop (r.toNat+1))):=by
    conv=>lhs;rw[e,qeY]
    rfl
   have e3:(T.node (tAt ks r.toNat).f (tAt ks r.toNat).v (tAt ks r.toNat).kids).inner=(tAt ks r.toNat).inner:=by cases tAt ks r.toNat;rfl
   have e4:(T.node f v ks).inner=ks.length+T.inners ks:=by rw[T.qgG,T.qbb]
   have:=h.siz;omega
  ·have:=h.rg.2
   rw[T.qe5]at this;have h3:=this _ (qaT hrl);generalize tAt ks r.toNat=x at h3;cases x;exact h3
 ·generalize qbi bs pos1 st1=S1 at*
  simp only[qu5];simp only[qeK,qsK,qnA,hfo,Option.bind_some];simp[qGJ,qpx,g2,g0,g1,gj,hR2,hRl,hsd,hsd1,hcl,hcl1,hc,hr.1,hr.2,hw,hn6,qae,hR3,hmin,g0',qqi]
end Go.Proofs.Ytfiakfiocdfpbaa.VS
namespace Go.Proofs.Ytfiakfiocdfpbaa.VS
theorem qB2(bs:List Int)(hl:bs.length<=1099511627776):∀(n j k:Nat) (B:qaj) (A D:List T) (f v:Int) (ks:List T) (N:Nat),n+2=j->WS bs j k B A D f v ks N->
 ∀s0,qai 6 [0,2,3,4,5] s0=some ⟨[(0,.ptr 0 0),(2,.ptr 1 0),(3,.ptr 5 0),(4,.ptr j (A.length*3)),(5,.d (.int .i64 k))],B⟩->
 ∃(j' k':Nat) (B':qaj) (A' D':List T) (f' v':Int) (ks':List T) (N':Nat),WS bs j' k' B' A' D' f' v' ks' N'/\
  qdM XV (XV.lin 161) 6 [0,2,3,4,5] qjF s0=some (.exit 0,⟨[(0,.ptr 0 0),(2,.ptr 1 0),(3,.ptr 5 0),(4,.ptr j' (A'.length*3)),(5,.d (.int .i64 k')),(22,.d (.bool false))],B'⟩):=by
 intro n
 induction n with
 |zero=>
  intro j k B A D f v ks N hn h s0 h0;refine⟨j,k,B,A,D,f,v,ks,N,h,qeA h0 ?_ (by simp)⟩;have hjk:=h.jk;have hk:¬((k:Int)<3):=by omega
  simp[qjF,qkf,hk]
 |succ n ih=>
  intro j k B A D f v ks N hn h s0 h0;have hjk:=h.jk;have hk:(k:Int)<3:=by omega
  have hat:=h.at_;have hrow:=qo3 A (.d (.int .i64 f)) (.d (.int .i64 v)) (.d (.sl U (ks.map (T.enc U)))) D;generalize hR:qcG A (.d (.int .i64 f)) (.d (.int .i64 v)) (.d (.sl U (ks.map (T.enc U)))) D=R at*
  have hRl:A.length*3+2<R.length:=by rw[<-hR,qc4];omega
  have hR3:∀h:A.length*3+2<R.length,R[A.length*3+2]'h= .d (.sl U (ks.map (T.enc U))):=fun h=>(List.getElem?_eq_some_iff.1 hrow).2
  have hBl:j<B.length:=by rw[h.len];omega
  have hB3:∀h:j<B.length,B[j]'h=some R:=fun h=>(List.getElem?_eq_some_iff.1 hat).2
  by_cases hks:0<ks.length
  ·obtain⟨b,B1,hT,hc⟩:=qof bs hl B 0 h.seed 2 (by omega) (by omega)
   have h1:=h.turn hT;cases b with
   |true=>
    refine⟨j,k,B1,A,D,f,v,ks,N,h1,qeA h0 ?_ (by simp)⟩;simp[qjF,qkf,hk,hks,hc,hBl,hB3,hRl,hR3,qae]
   |false=>
    subst hn;obtain⟨B',A',D',f',v',ks',N',hW,hgo⟩:=qJE bs hl h1 hks (by omega);obtain⟨j',k',B'',A'',D'',f'',v'',ks'',N'',hW2,hl2⟩:=ih (n+2) (k+1) B' A' D' f' v' ks' N' rfl hW ⟨[(0,.ptr 0 0),(2,.ptr 1 0),(3,.ptr 5 0),(4,.ptr (n+2) (A'.length*3)),(5,.d (.int .i64 ((k+1:Nat):Int)))],B'⟩ (qdu (e:=[]) (by simp) (by simp[qab];omega) hW.len (by simp));refine⟨j',k',B'',A'',D'',f'',v'',ks'',N'',hW2,?_⟩;rw[<-hl2];refine qlv h0 ?_;rw[<-hgo];generalize hG:VCode.seq (.block 1 (.ghost (.focC 4 2 [0,2,3,4,5]) (.region true 0 [0,2,3,4,5] qms))) (.region false 0 [0,2,3,4,5] qpx)=G;rw[show qjF= .seq (.seq (.region false 0 [0,2,3,4,5,22] qkf) (.cond (.t 22) .skip (.exit 0))) G from by rw[<-hG];rfl];simp[qkf,hk,hks,hc,hBl,hB3,hRl,hR3,qae]
  ·refine⟨j,k,B,A,D,f,v,ks,N,h,qeA h0 ?_ (by simp)⟩
   have hk0:ks.length=0:=by omega
   simp[qjF,qkf,hk,hk0,hBl,hB3,hRl,hR3,qae]
end Go.Proofs.Ytfiakfiocdfpbaa.VS
namespace Go.Proofs.Ytfiakfiocdfpbaa.VS
theorem WS.read{bs:List Int}{j k:Nat}{B:qaj}{A D:List T}{f v:Int}{ks:List T}{N:Nat}(h:WS bs j k B A D f v ks N){B':qaj}(hl:B'.length=6)(hi:∀i,j<i->B'[i]?=B[i]?)(u:T)(g:Tag)(X:List DV)(hX:X.map DV.clr=u.kids.map (T.enc .sub))
 (hj:B'[j]?=some (some (qcG A (.d (.int .i64 u.f)) (.d (.int .i64 u.v)) (.d (.sl g X)) D))):
 ∃(c5:List AV) (ds5:List DV) (t':T),B'[5]?=some (some c5)/\qdN (AV.frzC (qcw 2 B') 6) c5=some ds5/\ds5.map DV.clr=fcs [t']/\t'.inner<=N+u.inner/\(u.rng->t'.rng):=by
 refine h.ctx B' _ u (fc A++([.int .i64 u.f,.int .i64 u.v,.sl g X]++fc D)) hl hi hj ?_ ?_
 ·unfold qcG
  exact qgn _ _ _ (qkt _ _ _) (qgn _ _ _ (qkt _ _ [.int .i64 u.f,.int .i64 u.v,.sl g X]) (qkt _ _ _))
 ·rw[List.map_append,List.map_append,qm7,qm7,qvH,qgr]
  simp only[List.map_cons,List.map_nil,DV.clr,DV.qav,hX,List.cons_append,List.nil_append]
theorem qGi(B:qaj)(S0 Z:Option (List AV))(z0 z1 z2:AV)(hlen:B.length=6)(h0:B[0]?=some S0)(h1:B[1]?=some (some [z0,z1,z2]))(r:List (Nat×AV))(h2:lk r 2=some (.ptr 1 0))(h3:lk r 3=some (.ptr 5 0))(t:T)(c5:List AV)(ds5:List DV)
 (e1:B[5]?=some (some c5)) (e2:qdN (AV.frzC (qcw 2 B) 6) c5=some ds5) (e3:ds5.map DV.clr=fcs [t]):
 ∃C,qaC XV (XV.lin 161) (.seq (.ghost (.frzB 3 2 [2]) (.region false 0 [2] qll)) .ret) ⟨r,B⟩=some (.ret,⟨[(2,.ptr 1 0)],[S0,some [.d (.int .i64 t.f),.d (.int .i64 t.v),.d (qak .sub t.kids)],C]⟩):=by
 have hk:keep r [2]=[(2,.ptr 1 0)]:=by simp[keep,h2]
 have htk:B.take 2=[S0,some [z0,z1,z2]]:=by
  match B,hlen with
  | [b0,b1,b2,b3,b4,b5],_=>simp at h0 h1⊢;exact⟨h0,h1⟩
 obtain⟨g,xs,r',rfl,hx,hr⟩:=qoy e3;have hr0:r'=[]:=by simpa[fcs]using hr
 subst hr0;have hcell:=qp6 _ _ e3;have hbg:qaV B 5=some c5:=by simp only[qaV,e1]
 refine⟨some [.d (.int .i64 t.f),.d (.int .i64 t.v),.d (qak .sub t.kids)],?_⟩;have hx':xs.map DV.clr=t.kids.map (T.enc .sub):=by rw[<-DV.qav];exact hx
 have hgh:qnw (.frzB 3 2 [2]) ⟨r,B⟩=some ⟨[(3,.ptr 2 0),(2,.ptr 1 0)],[S0,some [z0,z1,z2],some [.d (.int .i64 t.f),.d (.int .i64 t.v),.d (qak .sub t.kids)]]⟩:=by
  rw[qAl];simp only[h3];rw[qvt,if_pos ⟨by omega,by simp,by rw[hk];simp[qab],by omega⟩,hbg,Option.bind_some,hlen,e2,Option.bind_some,if_pos hcell,hk,htk];simp[hx']
 simp only[qeK,qnA,hgh,Option.bind_some];simp[qll,splice,qad,qal,qan,qaI,qae]
end Go.Proofs.Ytfiakfiocdfpbaa.VS
