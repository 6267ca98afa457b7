/- Contracts of the program's functions on the evaluator without names, and plain lemmas: part 2. -/
import Derived.Test.YtfiakfiocdfpbaaXP1
set_option linter.unusedSimpArgs false
set_option linter.unusedVariables false
namespace Go.Proofs.Ytfiakfiocdfpbaa.VS
theorem qhh(a b:T)(ha:a.inner<=1099511627776)(hb:b.inner<=1099511627776):qad XV 79 [.d (a.enc .sub),.d (b.enc .sub)] []=some (.d (.bool (decide (T.cmp a b<0))),[]):=by
 rw[qap XV _ _ _ v79 rfl qDi rfl];have h:=qin a b ha hb;simp[v79,qLs,qLr,h]
theorem qnL(f v:Int)(ks:List T)(f' v':Int)(ks':List T)(hl:ks.length<=1099511627776)(hl':ks'.length<=1099511627776)
 (hsame:∀s s',s∈ks->s'∈ks'->qad XV 3 [.d (s.enc .sub),.d (s'.enc .sub)] []=some (.d (.bool (T.cmp s s'==0)),[]))
 (hrec:∀s s',s∈ks->s'∈ks'->qad XV 84 [.d (s.enc .sub),.d (s'.enc .sub)] []=some (.d (.bool (decide (T.cmp s s'<0))),[])):
 qad XV 84 [.d ((T.node f v ks).enc .sub),.d ((T.node f' v' ks').enc .sub)] []=some (.d (.bool (decide (T.cmp (.node f v ks) (.node f' v' ks')<0))),[]):=by
 rw[qap XV _ _ _ v84 rfl qDd rfl];rw[qjT]
 by_cases c1:f=f'
 case neg=>
  have b1:(f !=f')=true:=by simp[c1]
  have e:decide (qqS f f' v v' ks.length ks'.length (T.cmps ks ks')<0)=decide (f<f'):=by
   unfold qqS;by_cases h1:f<f'
   ·simp[h1]
   ·have h2:f>f':=by omega
    simp[h1,h2]
  rw[e];simp[v84,qn0,qnZ,qnY,qnX,qnW,qnV,qnU,qnT,qnS,qjh,qjg,qnR,qgF,b1]
 subst c1
 by_cases c2:v=v'
 case neg=>
  have b2:(v !=v')=true:=by simp[c2]
  have e:decide (qqS f f v v' ks.length ks'.length (T.cmps ks ks')<0)=decide (v<v'):=by
   unfold qqS;by_cases h1:v<v'
   ·simp[h1]
   ·have h2:v>v':=by omega
    simp[h1,h2]
  rw[e];simp[v84,qn0,qnZ,qnY,qnX,qnW,qnV,qnU,qnT,qnS,qjh,qjg,qnR,qgF,b2]
 subst c2
 by_cases c3:ks.length=ks'.length
 case neg=>
  have b3:((ks.length:Int) !=ks'.length)=true:=by simp;omega
  have e:decide (qqS f f v v ks.length ks'.length (T.cmps ks ks')<0)=decide (ks.length<ks'.length):=by
   unfold qqS;by_cases h1:ks.length<ks'.length
   ·simp[h1]
   ·have h2:ks'.length<ks.length:=by omega
    simp[h1,h2]
  rw[e];simp[v84,qn0,qnZ,qnY,qnX,qnW,qnV,qnU,qnT,qnS,qjh,qjg,qnR,qgF,b3]
 have hcp:qqS f f v v ks.length ks'.length (T.cmps ks ks')=T.cmps ks ks':=by simp[qqS,c3]
 rw[hcp];have h:=qau (X:=XV) (T:=[]) (L:=2) (live:=[2,3,5]) (b:=qCu) (n:=ks.length) (γ:=Int) (st:=fun(_:Unit) i=>⟨[(2,.ptr 0 0),(3,.ptr 1 0),(5,.d (.int .i64 i))],qeu f v ks f v ks'⟩) (step:=qmk ks ks')
  (F:=fun _=>(.exit 0,⟨[(2,.ptr 0 0),(3,.ptr 1 0),(5,.d (.int .i64 ks.length)),(44,.d (.bool false))],qeu f v ks f v ks'⟩)) (R:=fun r=>(.ret,⟨[(4,.d (.bool (decide (r<0))))],qeu f v ks f v ks'⟩))
  (fun _=>⟨by simp,by simp[qCu,qn0,qnZ,qnY,qnX,qnW,qnV,qnU,qnT,qnS,qjh,qjg,qnR,qgF,qeu]⟩)
  (fun _ i hi=>by
   have hw:=qan (n:=i) (by omega);have hi2:i<ks'.length:=by omega
   have hs:=hsame _ _ (qaK hi) (qaK hi2);have hc:=hrec _ _ (qaK hi) (qaK hi2);unfold qmk qeu
   by_cases h0:T.cmp (tAt ks i) (tAt ks' i)=0
   ·rw[h0]at hs⊢
    simp only[ne_eq,not_true_eq_false,if_false];refine⟨_,by simp[qCu,qn0,qnZ,qnY,qnX,qnW,qnV,qnU,qnT,qnS,qjh,qjg,qnR,qgF,hi,hi2,hw,cut,qaF hi,qaF hi2,hs];rfl,?_⟩;simp[qah,qab]
   ·simp only[ne_eq,h0,not_false_eq_true,if_true]
    have h0':(T.cmp (tAt ks i) (tAt ks' i)==0)=false:=by simp[h0]
    rw[h0']at hs;refine⟨by simp,?_⟩;simp[qCu,qn0,qnZ,qnY,qnX,qnW,qnV,qnU,qnT,qnS,qjh,qjg,qnR,qgF,hi,hi2,hw,cut,qaF hi,qaF hi2,hs,hc])
  ks.length () 0 ⟨[(2,.ptr 0 0),(3,.ptr 1 0),(5,.d (.int .i64 0))],qeu f v ks f v ks'⟩ (by omega) (by simp[qah,qab,qeu])
 rw[qLk ks ks' c3 _ _ (by omega)]at h;simp only[List.drop_zero,qeu,qai]at h;simp[v84,qn0,qnZ,qnY,qnX,qnW,qnV,qnU,qnT,qnS,qjh,qjg,qnR,qgF,c3];rw[c3]at h;rw[h]
 by_cases h0:T.cmps ks ks'=0<;>simp[h0,v84,qn0,qnZ,qnY,qnX,qnW,qnV,qnU,qnT,qnS,qjh,qjg,qnR,qgF]
theorem qdy(a b:T)(ha:a.inner<=1099511627776)(hb:b.inner<=1099511627776):qad XV 84 [.d (a.enc .sub),.d (b.enc .sub)] []=some (.d (.bool (decide (T.cmp a b<0))),[]):=by
 match a,b,ha,hb with
 | .node f v ks,.node f' v' ks',ha,hb=>
  simp only[T.inner]at ha hb;exact qnL f v ks f' v' ks' (by omega) (by omega) (fun s s' hs hs'=>qke s s' (by have:=T.qaE hs;omega) (by have:=T.qaE hs';omega)) (fun s s' hs hs'=>qdy s s' (by have:=T.qaE hs;omega) (by have:=T.qaE hs';omega))
termination_by a
decreasing_by
 simp_wf
 have:=List.sizeOf_lt_of_mem hs;omega
end Go.Proofs.Ytfiakfiocdfpbaa.VS
namespace Go.Proofs.Ytfiakfiocdfpbaa.VS
def qdT(l:List SymL)(f v:Int)(n:Nat):Bool:=
 if qe0 l f=true then
  if v=0 then(if(qaG l f.toNat).ac=true then decide ((n:Int)<2)else !decide ((n:Int)=(qaG l f.toNat).arity))
  else true
 else true
def qdm(l:List SymL)(f:Int)(ks:List T)(i:Nat):Bool:=
 if(qaG l f.toNat).ac=true then(if(tAt ks i).f=f then true else if i=0 then false else decide (T.cmp (tAt ks i) (tAt ks (i-1))<0))else false
mutual
def T.form(l:List SymL):T->Bool
 | .node f v ks=>
  if f= -1 then inB v 0 99&&decide (ks.length=0)
  else if qdT l f v ks.length=true then false
  else(qao (fun i=> !((T.forms l ks)[i]?).getD false||qdm l f ks i) ks.length 0).isNone
def T.forms(l:List SymL):List T->List Bool
 | []=>[]
 |t::r=>T.form l t::T.forms l r
end
theorem T.qrc(l:List SymL):∀ks:List T,T.forms l ks=ks.map (T.form l)
 | []=>by simp[T.forms]
 |t::r=>by simp[T.forms,T.qrc l r]
theorem T.qjZ(l:List SymL)(ks:List T)(i:Nat)(hi:i<ks.length):((T.forms l ks)[i]?).getD false=T.form l (tAt ks i):=by
 rw[T.qrc];simp[qyY hi]
theorem qNE(l:List SymL)(hs:l.length<=1099511627776)(f v:Int)(ks:List T):qax XV (XV.lin 78) (.region true 0 [0,3,62] qEv) ⟨[(0,.d (sg l)),(3,.ptr 0 0),(8,.d (.bool false))],qam f v ks⟩=some (.normal,⟨[(0,.d (sg l)),(3,.ptr 0 0),(62,.d (.bool (qdT l f v ks.length)))],qam f v ks⟩):=by
 have hsy:=qul l hs f;unfold qdT qam;cases c1:qe0 l f with
 |false=>rw[c1]at hsy;simp[qB0,hsy]
 |true=>
  rw[c1]at hsy;obtain⟨g1,g2⟩:=qeA c1
  by_cases c2:v=0
  ·cases c3:(qaG l f.toNat).ac with
   |true=>simp[qB0,hsy,c2,g1,g2,qaz g2,cut,c3]
   |false=>
    by_cases c4:(ks.length:Int)=(qaG l f.toNat).arity
    ·simp[qB0,hsy,c2,g1,g2,qaz g2,cut,c3,c4]
    ·have b4:((ks.length:Int) !=(qaG l f.toNat).arity)=true:=by simp[c4]
     simp[qB0,hsy,c2,g1,g2,qaz g2,cut,c3,c4,b4]
  ·have b2:(v !=0)=true:=by simp[c2]
   simp[qB0,hsy,c2,b2]
theorem qND(l:List SymL)(hs:l.length<=1099511627776)(f v:Int)(ks:List T):qax XV (XV.lin 83) (.region true 0 [0,3,64] qEq) ⟨[(0,.d (sg l)),(3,.ptr 0 0),(8,.d (.bool false))],qam f v ks⟩=some (.normal,⟨[(0,.d (sg l)),(3,.ptr 0 0),(64,.d (.bool (qdT l f v ks.length)))],qam f v ks⟩):=by
 have hsy:=qia f 0 (l.length-1);have hw:IntKind.i64.wrap ((l.length:Int)-1)=l.length-1:=wrap_i64 (by omega) (by omega);unfold qdT qam;cases c1:qe0 l f with
 |false=>unfold qe0 at c1;rw[c1]at hsy;simp[qBY,hsy,hw]
 |true=>
  obtain⟨g1,g2⟩:=qeA c1;unfold qe0 at c1;rw[c1]at hsy
  by_cases c2:v=0
  ·cases c3:(qaG l f.toNat).ac with
   |true=>simp[qBY,hsy,hw,c2,g1,g2,qaz g2,cut,c3]
   |false=>
    by_cases c4:(ks.length:Int)=(qaG l f.toNat).arity
    ·simp[qBY,hsy,hw,c2,g1,g2,qaz g2,cut,c3,c4]
    ·have b4:((ks.length:Int) !=(qaG l f.toNat).arity)=true:=by simp[c4]
     simp[qBY,hsy,hw,c2,g1,g2,qaz g2,cut,c3,c4,b4]
  ·have b2:(v !=0)=true:=by simp[c2]
   simp[qBY,hsy,hw,c2,b2]
theorem qRy(l:List SymL)(hs:l.length<=1099511627776)(f v:Int)(ks:List T)(hf:qe0 l f=true)(i:Nat)(hi:i<ks.length)(hl:ks.length<=1099511627776)
 (hbef:∀s s',s∈ks->s'∈ks->qad XV 79 [.d (s.enc .sub),.d (s'.enc .sub)] []=some (.d (.bool (decide (T.cmp s s'<0))),[]))
 (hrec:qad XV 78 [.d (sg l),.d ((tAt ks i).enc .sub)] []=some (.d (.bool (T.form l (tAt ks i))),[])):
 qax XV (XV.lin 78) (.region true 0 [0,3,64,65,66,103] qEt) ⟨[(0,.d (sg l)),(3,.ptr 0 0),(5,.d (.int .i64 i)),(6,.ptr 1 0),(64,.d (qai .sub ks)),(65,.d (.int .i64 ks.length)),(66,.d (.int .i64 i))],qam f v ks++[some [.d (.int .i64 (tAt ks i).f),.d (.int .i64 (tAt ks i).v),.d (qai .sub (tAt ks i).kids)]]⟩=
  some (.normal,⟨[(0,.d (sg l)),(3,.ptr 0 0),(64,.d (qai .sub ks)),(65,.d (.int .i64 ks.length)),(66,.d (.int .i64 i)),(103,.d (.bool (!T.form l (tAt ks i)||qdm l f ks i)))],qam f v ks++[some [.d (.int .i64 (tAt ks i).f),.d (.int .i64 (tAt ks i).v),.d (qai .sub (tAt ks i).kids)]]⟩):=by
 obtain⟨g1,g2⟩:=qeA hf;unfold qam qdm;cases c1:T.form l (tAt ks i)with
 |false=>rw[c1]at hrec;simp[qBZ,hrec]
 |true=>
  rw[c1]at hrec;cases c2:(qaG l f.toNat).ac with
  |false=>simp[qBZ,hrec,g1,g2,qaz g2,c2,cut]
  |true=>
   by_cases c3:(tAt ks i).f=f
   ·have b3:((tAt ks i).f==f)=true:=by simp[c3]
    simp[qBZ,hrec,g1,g2,qaz g2,c2,b3,cut];simp[c3]
   ·have b3:((tAt ks i).f==f)=false:=by simp[c3]
    by_cases c4:i=0
    ·subst c4;simp[qBZ,hrec,g1,g2,qaz g2,c2,c3,b3,cut]
    ·obtain⟨j,rfl⟩:∃j,i=j+1:=⟨i-1,by omega⟩
     have hj:j<ks.length:=by omega
     have hb:=hbef _ _ (qaK hi) (qaK hj);have hw:IntKind.i64.wrap (j:Int)=j:=qjE (by omega);have hpos:(0:Int)<((j+1:Nat):Int):=by omega
     simp only[Int.natCast_add,Int.cast_ofNat_Int]at hpos;simp[qBZ,hrec,g1,g2,qaz g2,c2,c3,b3,hw,hpos,hj,qaF hj,cut,hb]
theorem qBs(l:List SymL)(hs:l.length<=1099511627776)(f v:Int)(ks:List T)(hl:ks.length<=1099511627776)
 (hbef:∀s s',s∈ks->s'∈ks->qad XV 79 [.d (s.enc .sub),.d (s'.enc .sub)] []=some (.d (.bool (decide (T.cmp s s'<0))),[]))
 (hrec:∀s,s∈ks->qad XV 78 [.d (sg l),.d (s.enc .sub)] []=some (.d (.bool (T.form l s)),[])):
 qad XV 78 [.d (sg l),.d ((T.node f v ks).enc .sub)] []=some (.d (.bool (T.form l (.node f v ks))),[]):=by
 rw[qap XV _ _ _ v78 rfl qDj rfl];have hv:=qjP (.node f v ks);have hin:=qif v 0 99;simp only[T.qbv]at hv
 by_cases c1:f= -1
 ·have hform:T.form l (.node f v ks)=(inB v 0 99&&decide (ks.length=0)):=by simp[T.form,c1]
  rw[hform];subst c1;simp only[BEq.rfl]at hv;cases c2:inB v 0 99 with
  |false=>rw[c2]at hin;simp[v78,qvH,qvG,qvF,hv,hin]
  |true=>
   rw[c2]at hin
   by_cases c3:ks.length=0
   ·simp[v78,qvH,qvG,qvF,hv,hin,c3]
   ·have b3:((ks.length:Int)==0)=false:=by simp;exact fun h=>c3 (by simp[h])
    simp[v78,qvH,qvG,qvF,hv,hin,b3];exact fun h=>c3 (by simp[h])
 have b1:(f== -1)=false:=by simp[c1]
 rw[b1]at hv;have hh:=qNE l hs f v ks;simp only[qam,qai,qAP]at hh;cases c2:qdT l f v ks.length with
 |true=>
  have hform:T.form l (.node f v ks)=false:=by simp[T.form,c1,c2]
  rw[hform];rw[c2]at hh;simp[v78,qvH,qvG,qvF,hv,qIl];rw[hh];simp
 |false=>
  have hsy:qe0 l f=true:=by
   unfold qdT at c2
   by_cases h:qe0 l f=true
   ·exact h
   ·rw[if_neg h]at c2;simp at c2
  have hform:T.form l (.node f v ks)=(qao (fun i=> !T.form l (tAt ks i)||qdm l f ks i) ks.length 0).isNone:=by
   have e:qao (fun i=> !((T.forms l ks)[i]?).getD false||qdm l f ks i) ks.length 0=qao (fun i=> !T.form l (tAt ks i)||qdm l f ks i) ks.length 0:=by
    have key:∀(k i:Nat),i+k=ks.length->qao (fun i=> !((T.forms l ks)[i]?).getD false||qdm l f ks i) k i=qao (fun i=> !T.form l (tAt ks i)||qdm l f ks i) k i:=by
     intro k
     induction k with
     |zero=>intro i _;rfl
     |succ k ih=>
      intro i h;simp only[qao];simp only[T.qjZ l ks i (by omega),ih (i+1) (by omega)]
    exact key _ _ (by omega)
   rw[<-e];simp[T.form,c1,c2]
  rw[hform];rw[c2]at hh;have h:=qau (X:=XV) (T:=XV.lin 78) (L:=1) (live:=[0,3,64,65,66]) (b:=qCw) (n:=ks.length) (γ:=Nat) (st:=fun(_:Unit) i=>⟨[(0,.d (sg l)),(3,.ptr 0 0),(64,.d (qai .sub ks)),(65,.d (.int .i64 ks.length)),(66,.d (.int .i64 i))],qam f v ks⟩) (step:=qbT fun i=> !T.form l (tAt ks i)||qdm l f ks i)
   (F:=fun _=>(.exit 0,⟨[(0,.d (sg l)),(3,.ptr 0 0),(64,.d (qai .sub ks)),(65,.d (.int .i64 ks.length)),(66,.d (.int .i64 ks.length)),(67,.d (.bool false))],qam f v ks⟩)) (R:=fun j=>(.ret,⟨[(4,.d (.bool false))],qam f v ks++[some [.d (.int .i64 (tAt ks j).f),.d (.int .i64 (tAt ks j).v),.d (qai .sub (tAt ks j).kids)]]⟩))
   (fun a=>⟨by simp,by simp[qCw,qEu]⟩)
   (fun a i hi=>by
    have hw:=qan (n:=i) (by omega);have hk:=qRy l hs f v ks hsy i hi hl hbef (hrec _ (qaK hi));unfold qbT;simp only[qam,qai,List.cons_append,List.nil_append,qAP]at hk
    by_cases hq:(!T.form l (tAt ks i)||qdm l f ks i)=true
    ·rw[if_pos hq]
     rw[hq]at hk;refine⟨by simp,?_⟩;simp[qCw,qEu,qIk,qIj,qzm,hi,hw,cut,qaF hi,qam,splice];rw[hk];simp
    ·rw[if_neg hq]
     have hq':(!T.form l (tAt ks i)||qdm l f ks i)=false:=by simpa using hq
     rw[hq']at hk;refine⟨⟨[(0,.d (sg l)),(3,.ptr 0 0),(64,.d (qai .sub ks)),(65,.d (.int .i64 ks.length)),(66,.d (.int .i64 (i+1:Nat)))],qam f v ks++[some [.d (.int .i64 (tAt ks i).f),.d (.int .i64 (tAt ks i).v),.d (qai .sub (tAt ks i).kids)]]⟩,?_,by simp[qah,qab,qam]⟩;simp[qCw,qEu,qIk,qIj,qzm,hi,hw,cut,qaF hi,qam,splice];rw[hk];simp[hw])
   ks.length () 0 ⟨[(0,.d (sg l)),(3,.ptr 0 0),(64,.d (qai .sub ks)),(65,.d (.int .i64 ks.length)),(66,.d (.int .i64 0))],qam f v ks⟩ (by omega) (by simp[qah,qab,qam])
  rw[qpt]at h;simp only[qam,qai,List.cons_append,List.nil_append,qAP]at h;simp[v78,qvH,qvG,qvF,hv,qIl,qLt];rw[hh];simp;rw[h];cases hq:qao (fun i=> !T.form l (tAt ks i)||qdm l f ks i) ks.length 0<;>simp[qFL]
theorem qBq(l:List SymL)(f v:Int)(ks:List T)(c1:f≠-1)(c2:qdT l f v ks.length=false):T.form l (.node f v ks)=(qao (fun i=> !T.form l (tAt ks i)||qdm l f ks i) ks.length 0).isNone:=by
 have e:qao (fun i=> !((T.forms l ks)[i]?).getD false||qdm l f ks i) ks.length 0=qao (fun i=> !T.form l (tAt ks i)||qdm l f ks i) ks.length 0:=by
  have key:∀(k i:Nat),i+k=ks.length->qao (fun i=> !((T.forms l ks)[i]?).getD false||qdm l f ks i) k i=qao (fun i=> !T.form l (tAt ks i)||qdm l f ks i) k i:=by
   intro k
   induction k with
   |zero=>intro i _;rfl
   |succ k ih=>
    intro i h;simp only[qao];simp only[T.qjZ l ks i (by omega),ih (i+1) (by omega)]
  exact key _ _ (by omega)
 rw[<-e];simp[T.form,c1,c2]
theorem qqw(l:List SymL)(hs:l.length<=1099511627776)(t:T)(ht:t.inner<=1099511627776):qad XV 78 [.d (sg l),.d (t.enc .sub)] []=some (.d (.bool (T.form l t)),[]):=by
 match t,ht with
 | .node f v ks,ht=>
  simp only[T.inner]at ht;exact qBs l hs f v ks (by omega) (fun s s' h h'=>qhh s s' (by have:=T.qaE h;omega) (by have:=T.qaE h';omega)) (fun s h=>qqw l hs s (by have:=T.qaE h;omega))
termination_by t
decreasing_by
 simp_wf
 have:=List.sizeOf_lt_of_mem h;omega
theorem qRx(l:List SymL)(hs:l.length<=1099511627776)(f v:Int)(ks:List T)(hf:qe0 l f=true)(i:Nat)(hi:i<ks.length)(hl:ks.length<=1099511627776)
 (hbef:∀s s',s∈ks->s'∈ks->qad XV 84 [.d (s.enc .sub),.d (s'.enc .sub)] []=some (.d (.bool (decide (T.cmp s s'<0))),[]))
 (hrec:qad XV 83 [.d (sg l),.d ((tAt ks i).enc .sub)] []=some (.d (.bool (T.form l (tAt ks i))),[])):
 qax XV (XV.lin 83) (.region true 0 [0,3,5,116] qEo) ⟨[(0,.d (sg l)),(3,.ptr 0 0),(5,.d (.int .i64 i)),(69,.d (.bool true))],qam f v ks⟩=
  some (.normal,⟨[(0,.d (sg l)),(3,.ptr 0 0),(5,.d (.int .i64 i)),(116,.d (.bool (!T.form l (tAt ks i)||qdm l f ks i)))],qam f v ks⟩):=by
 obtain⟨g1,g2⟩:=qeA hf;unfold qam qdm;cases c2:(qaG l f.toNat).ac with
 |false=>
  cases c1:T.form l (tAt ks i)with
  |false=>rw[c1]at hrec;simp[qqP,hrec,g1,g2,qaz g2,c2,cut,hi,qaF hi]
  |true=>rw[c1]at hrec;simp[qqP,hrec,g1,g2,qaz g2,c2,cut,hi,qaF hi]
 |true=>
  by_cases c3:(tAt ks i).f=f
  ·have b3:((tAt ks i).f==f)=true:=by simp[c3]
   simp[qqP,g1,g2,qaz g2,c2,b3,cut,hi,qaF hi];simp[c3]
  ·have b3:((tAt ks i).f==f)=false:=by simp[c3]
   by_cases c4:i=0
   ·subst c4
    cases c1:T.form l (tAt ks 0)with
    |false=>rw[c1]at hrec;simp[qqP,hrec,g1,g2,qaz g2,c2,c3,b3,cut,hi,qaF hi]
    |true=>rw[c1]at hrec;simp[qqP,hrec,g1,g2,qaz g2,c2,c3,b3,cut,hi,qaF hi]
   ·obtain⟨j,rfl⟩:∃j,i=j+1:=⟨i-1,by omega⟩
    have hj:j<ks.length:=by omega
    have hb:=hbef _ _ (qaK hi) (qaK hj);have hw:IntKind.i64.wrap (j:Int)=j:=qjE (by omega);have hpos:(0:Int)<((j+1:Nat):Int):=by omega
    have hnat:(((j+1:Nat):Int)).toNat=j+1:=by omega
    simp only[Int.natCast_add,Int.cast_ofNat_Int]at hpos hnat;have hnn:(0:Int)<=(j:Int)+1:=by omega
    by_cases c5:T.cmp (tAt ks (j+1)) (tAt ks j)<0
    ·simp only[c5,decide_true]at hb
     simp[qqP,g1,g2,qaz g2,c2,c3,b3,hw,hpos,hnat,hnn,hj,hi,qaF hj,qaF hi,cut,hb,c5]
    ·simp only[c5,decide_false]at hb
     cases c1:T.form l (tAt ks (j+1))with
     |false=>rw[c1]at hrec;simp[qqP,hrec,g1,g2,qaz g2,c2,c3,b3,hw,hpos,hnat,hnn,hj,hi,qaF hj,qaF hi,cut,hb,c5]
     |true=>rw[c1]at hrec;simp[qqP,hrec,g1,g2,qaz g2,c2,c3,b3,hw,hpos,hnat,hnn,hj,hi,qaF hj,qaF hi,cut,hb,c5]
theorem qwC(l:List SymL)(hs:l.length<=1099511627776)(f v:Int)(ks:List T)(hl:ks.length<=1099511627776)
 (hbef:∀s s',s∈ks->s'∈ks->qad XV 84 [.d (s.enc .sub),.d (s'.enc .sub)] []=some (.d (.bool (decide (T.cmp s s'<0))),[]))
 (hrec:∀s,s∈ks->qad XV 83 [.d (sg l),.d (s.enc .sub)] []=some (.d (.bool (T.form l s)),[])):
 qad XV 83 [.d (sg l),.d ((T.node f v ks).enc .sub)] []=some (.d (.bool (T.form l (.node f v ks))),[]):=by
 rw[qap XV _ _ _ v83 rfl qDe rfl];have hin:=qia v 0 99
 by_cases c1:f= -1
 ·have hform:T.form l (.node f v ks)=(inB v 0 99&&decide (ks.length=0)):=by simp[T.form,c1]
  rw[hform];subst c1;cases c2:inB v 0 99 with
  |false=>rw[c2]at hin;simp[v83,qvE,qvD,qvC,hin]
  |true=>
   rw[c2]at hin
   by_cases c3:ks.length=0
   ·simp[v83,qvE,qvD,qvC,hin,c3]
   ·have b3:((ks.length:Int)==0)=false:=by simp;exact fun h=>c3 (by simp[h])
    simp[v83,qvE,qvD,qvC,hin,b3];exact fun h=>c3 (by simp[h])
 have b1:(f== -1)=false:=by simp[c1]
 have hh:=qND l hs f v ks;simp only[qam,qai,qAO]at hh;cases c2:qdT l f v ks.length with
 |true=>
  have hform:T.form l (.node f v ks)=false:=by simp[T.form,c1,c2]
  rw[hform];rw[c2]at hh;simp[v83,qvE,qvD,qvC,b1,qIi];rw[hh];simp
 |false=>
  have hsy:qe0 l f=true:=by
   unfold qdT at c2
   by_cases h:qe0 l f=true
   ·exact h
   ·rw[if_neg h]at c2;simp at c2
  rw[qBq l f v ks c1 c2];rw[c2]at hh;have h:=qau (X:=XV) (T:=XV.lin 83) (L:=1) (live:=[0,3,5]) (b:=qCv) (n:=ks.length) (γ:=Nat) (st:=fun(_:Unit) i=>⟨[(0,.d (sg l)),(3,.ptr 0 0),(5,.d (.int .i64 i))],qam f v ks⟩) (step:=qbT fun i=> !T.form l (tAt ks i)||qdm l f ks i)
   (F:=fun _=>(.exit 0,⟨[(0,.d (sg l)),(3,.ptr 0 0),(5,.d (.int .i64 ks.length)),(69,.d (.bool false))],qam f v ks⟩)) (R:=fun j=>(.ret,⟨[(4,.d (.bool false))],qam f v ks⟩))
   (fun a=>⟨by simp,by simp[qCv,qEp,qam]⟩)
   (fun a i hi=>by
    have hw:=qan (n:=i) (by omega);have hk:=qRx l hs f v ks hsy i hi hl hbef (hrec _ (qaK hi));unfold qbT;simp only[qam,qai,List.cons_append,List.nil_append,qAO]at hk
    by_cases hq:(!T.form l (tAt ks i)||qdm l f ks i)=true
    ·rw[if_pos hq]
     rw[hq]at hk;refine⟨by simp,?_⟩;simp[qCv,qEp,qIh,qIg,hi,hw,cut,qaF hi,qam,splice];rw[hk];simp
    ·rw[if_neg hq]
     have hq':(!T.form l (tAt ks i)||qdm l f ks i)=false:=by simpa using hq
     rw[hq']at hk;refine⟨⟨[(0,.d (sg l)),(3,.ptr 0 0),(5,.d (.int .i64 (i+1:Nat)))],qam f v ks⟩,?_,by simp[qah,qab,qam]⟩;simp[qCv,qEp,qIh,qIg,hi,hw,cut,qaF hi,qam,splice];rw[hk];simp[hw])
   ks.length () 0 ⟨[(0,.d (sg l)),(3,.ptr 0 0),(5,.d (.int .i64 0))],qam f v ks⟩ (by omega) (by simp[qah,qab,qam])
  rw[qpt]at h;simp only[qam,qai,List.cons_append,List.nil_append,qAO]at h;simp[v83,qvE,qvD,qvC,b1,qIi,qLq];rw[hh];simp;rw[h];cases hq:qao (fun i=> !T.form l (tAt ks i)||qdm l f ks i) ks.length 0<;>simp[qFK]
theorem qmU(l:List SymL)(hs:l.length<=1099511627776)(t:T)(ht:t.inner<=1099511627776):qad XV 83 [.d (sg l),.d (t.enc .sub)] []=some (.d (.bool (T.form l t)),[]):=by
 match t,ht with
 | .node f v ks,ht=>
  simp only[T.inner]at ht;exact qwC l hs f v ks (by omega) (fun s s' h h'=>qdy s s' (by have:=T.qaE h;omega) (by have:=T.qaE h';omega)) (fun s h=>qmU l hs s (by have:=T.qaE h;omega))
termination_by t
decreasing_by
 simp_wf
 have:=List.sizeOf_lt_of_mem h;omega
mutual
theorem qry:∀t:T,T.sum (fun _=>1) t=t.inner+1
 | .node f v ks=>by simp only[T.sum,T.inner];rw[qs3 ks];push_cast;omega
theorem qs3:∀l:List T,T.sums (fun _=>1) l=T.inners l+l.length
 | []=>by simp[T.sums,T.inners]
 |t::r=>by simp only[T.sums,T.inners,List.length_cons];rw[qry t,qs3 r];push_cast;omega
end
theorem qqb(t:T)(ht:t.inner<=1099511627776):IntKind.i64.wrap (T.sum (fun _=>1) t)=(t.inner+1:Nat):=by
 rw[qry];exact qjE (n:=t.inner+1) (by omega)
def qaT(l:List SymL)(t:T):Bool:=qkf l&&(decide (t.inner+1<=60)&&T.form l t)
theorem qcZ(l:List SymL)(hs:l.length<=1099511627776)(hn:∀i,i<l.length->(qaG l i).name.size<=1099511627776)(t:T)(ht:t.inner<=1099511627776):qad XV 70 [.d (sg l),.d (t.enc .sub)] []=some (.d (.bool (qaT l t)),[]):=by
 rw[qap XV _ _ _ v70 rfl qDr rfl];have h1:=qqs l hs hn;have h2:=qqt t ht;rw[qqb t ht]at h2;have h3:=qqw l hs t ht;unfold qaT;cases c1:qkf l with
 |false=>rw[c1]at h1;simp[v70,qEA,qEz,h1]
 |true=>
  rw[c1]at h1
  by_cases c2:t.inner+1<=60
  ·have c2':(((t.inner+1:Nat):Int))<=60:=by omega
   simp only[Int.natCast_add,Int.cast_ofNat_Int]at c2';simp[v70,qEA,qEz,h1,h2,h3,c2,c2']
  ·have c2':¬(((t.inner+1:Nat):Int))<=60:=by omega
   simp only[Int.natCast_add,Int.cast_ofNat_Int]at c2';simp[v70,qEA,qEz,h1,h2,c2,c2']
theorem qgz(l:List SymL)(hs:l.length<=1099511627776)(hn:∀i,i<l.length->(qaG l i).name.size<=1099511627776)(t:T)(ht:t.inner<=1099511627776):qad XV 80 [.d (sg l),.d (t.enc .sub)] []=some (.d (.bool (qaT l t)),[]):=by
 rw[qap XV _ _ _ v80 rfl qDh rfl];have h1:=qpm l hs hn;have h2:=qiB t ht;rw[qqb t ht]at h2;have h3:=qmU l hs t ht;unfold qaT;cases c1:qkf l with
 |false=>rw[c1]at h1;simp[v80,qEs,qEr,h1]
 |true=>
  rw[c1]at h1
  by_cases c2:t.inner+1<=60
  ·have c2':(((t.inner+1:Nat):Int))<=60:=by omega
   simp only[Int.natCast_add,Int.cast_ofNat_Int]at c2';simp[v80,qEs,qEr,h1,h2,h3,c2,c2']
  ·have c2':¬(((t.inner+1:Nat):Int))<=60:=by omega
   simp only[Int.natCast_add,Int.cast_ofNat_Int]at c2';simp[v80,qEs,qEr,h1,h2,c2,c2']
end Go.Proofs.Ytfiakfiocdfpbaa.VS
namespace Go.Proofs.Ytfiakfiocdfpbaa.VS
structure Bd where
 v:Int
 t:T
def Bd.enc(g:Tag)(b:Bd):DV:= .agg [.int .i64 b.v,.int .i64 b.t.f,.int .i64 b.t.v,qai g b.t.kids]
def Bd.ok(b:Bd):Prop:=(-9223372036854775808<=b.v/\b.v<=9223372036854775807)/\b.t.ok
abbrev binds(g:Tag)(l:List Bd):DV:= .sl g (l.map (Bd.enc g))
@[simp] theorem Bd.qre(g:Tag)(x:Bd):(x.enc g).cells=[.int .i64 x.v,.int .i64 x.t.f,.int .i64 x.t.v,qai g x.t.kids]:=rfl
@[simp] theorem Bd.qnu(g:Tag)(x:Bd):(AV.d (x.enc g)).cells=[.d (.int .i64 x.v),.d (.int .i64 x.t.f),.d (.int .i64 x.t.v),.d (qai g x.t.kids)]:=rfl
@[simp] theorem Bd.qnt(g:Tag)(x:Bd):(x.enc g).isCell=false:=rfl
@[simp] theorem Bd.qOw(g:Tag)(x:Bd):isAgg (x.enc g)=true:=rfl
@[simp] theorem Bd.qfI(g:Tag)(x:Bd):(x.enc g).clr=x.enc .sub:=by
 simp only[Bd.enc,DV.clr,DV.clrs,qai,DV.qav,qb2]
@[simp high] theorem Bd.qeW(g:Tag)(l:List Bd):(l.map (Bd.enc g)).map DV.clr=l.map (Bd.enc .sub):=by simp[List.map_map,Function.comp_def]
@[simp] theorem Bd.agg_enc(g:Tag)(x:Bd):DV.agg [.int .i64 x.v,.int .i64 x.t.f,.int .i64 x.t.v,qai g x.t.kids]=x.enc g:=rfl
def bAt(l:List Bd)(i:Nat):Bd:=(l[i]?).getD ⟨0,.node 0 0 []⟩
theorem qdt{l:List Bd}{i:Nat}(h:i<l.length):l[i]=bAt l i:=by simp[bAt,h]
theorem qsL{l:List Bd}{i:Nat}(h:i<l.length):bAt l i∈l:=by rw[<-qdt h];exact List.getElem_mem h
end Go.Proofs.Ytfiakfiocdfpbaa.VS
namespace Go.Proofs.Ytfiakfiocdfpbaa.VS
end Go.Proofs.Ytfiakfiocdfpbaa.VS
namespace Go.Proofs.Ytfiakfiocdfpbaa.VS
theorem qfE(a c:List T)(g:Tag)(h:(a.length+c.length)*40<=140737488355328):qa0 3 40 (.sl U (a.map (T.enc U))) (.sl g (c.map (T.enc U)))=some (.sl U ((a++c).map (T.enc U))):=by
 have h1:(c.map (T.enc U)).all (fun e=>decide (e.cells.length=3/\e.cells.all DV.isCell=true))=true:=by
  simp[qaa,qac]
 have h2:(a.map (T.enc U)).all (fun e=>decide (e.cells.length=3))=true:=by simp
 unfold qa0;simp only;rw[if_pos h1];cases c with
 |nil=>simp
 |cons x r=>
  simp only[List.map_cons,List.isEmpty_cons,Bool.false_eq_true,if_false];rw[if_pos ⟨by simpa using h,trivial,h2⟩];simp
theorem qu6(l:List T)(i:Nat)(h:i<l.length)(hl:l.length<=1099511627776):qa0 3 40 (.sl U ((l.take i).map (T.enc U))) (.sl U [(tAt l i).enc U])=some (.sl U ((l.take (i+1)).map (T.enc U))):=by
 have:=qfE (l.take i) [tAt l i] U (by simp;omega);rw[qe4 l i h];exact this
theorem qAX(f v:Int)(ks:List T)(hl:ks.length<=1099511627776)(hc:∀t,t∈ks->qad XV 146 [.d (t.enc .sub)] []=some (.d (t.enc U),[])):
 qad XV 146 [.d ((T.node f v ks).enc .sub)] []=some (.d ((T.node f v ks).enc U),[]):=by
 rw[qap XV _ _ _ qHV rfl qyo rfl];have hloop:=qau (X:=XV) (T:=XV.lin 146) (L:=3) (live:=[1,2,3,4]) (b:=qu1) (n:=ks.length) (γ:=Unit) (st:=fun(_:Unit) i=>⟨[(1,.ptr 0 0),(2,.ptr 1 0),(3,.ptr 2 0),(4,.d (.int .i64 i))],[some [.d (.int .i64 f),.d (.int .i64 v),.d (qai .sub ks)],some [.d (.int .i64 0),.d (.int .i64 0),.d (.sl U [])],some [.d (.int .i64 f),.d (.int .i64 v),.d (.sl U ((ks.take i).map (T.enc U)))]]⟩) (step:=fun _ _=> .inl ())
  (F:=fun _=>(.exit 0,⟨[(1,.ptr 0 0),(2,.ptr 1 0),(3,.ptr 2 0),(4,.d (.int .i64 ks.length)),(14,.d (.bool false))],[some [.d (.int .i64 f),.d (.int .i64 v),.d (qai .sub ks)],some [.d (.int .i64 0),.d (.int .i64 0),.d (.sl U [])],some [.d (.int .i64 f),.d (.int .i64 v),.d (.sl U ((ks.take ks.length).map (T.enc U)))]]⟩)) (R:=fun _=>(.ret,⟨[],[]⟩))
  (fun _=>⟨by simp,by simp[qu1,qqa,qp9,qp8,qp7,quK,qp6,qp5]⟩)
  (fun _ i hi=>by
   have hw:=qan (n:=i) (by omega);have hc':=hc _ (qaK hi);have ha:=qu6 ks i hi hl;generalize hl2:(ks.take (i+1)).map (T.enc U)=l2 at ha;generalize (ks.take i).map (T.enc U)=l1 at ha⊢
   exact⟨⟨[(1,.ptr 0 0),(2,.ptr 1 0),(3,.ptr 2 0),(4,.d (.int .i64 (i+1:Nat)))],[some [.d (.int .i64 f),.d (.int .i64 v),.d (qai .sub ks)],some [.d (.int .i64 0),.d (.int .i64 0),.d (.sl U [])],some [.d (.int .i64 f),.d (.int .i64 v),.d (.sl U l2)]]⟩,by simp[qu1,qqa,qp9,qp8,qp7,quK,qp6,qp5,hi,hw,cut,qaF hi,hc',ha,splice,AV.qav,qaa,qac,qaf,qar],by simp[qah,qab,<-hl2]⟩)
  ks.length () 0 ⟨[(1,.ptr 0 0),(2,.ptr 1 0),(3,.ptr 2 0),(4,.d (.int .i64 0))],[some [.d (.int .i64 f),.d (.int .i64 v),.d (qai .sub ks)],some [.d (.int .i64 0),.d (.int .i64 0),.d (.sl U [])],some [.d (.int .i64 f),.d (.int .i64 v),.d (.sl U [])]]⟩ (by omega) (by simp[qah,qab])
 rw[qmI,List.take_length]at hloop;simp only[qI5,qai]at hloop;simp[qHV,qqa,qp9,qp8,qp7,quK,qp6,qp5,splice,qaa,qac,qaf,qar,qae];rw[hloop];simp[qHV,qqa,qp9,qp8,qp7,quK,qp6,qp5,splice,qaa,qac,qaf,qar,qae]
theorem qqk(t:T)(ht:t.inner<=1099511627776):qad XV 146 [.d (t.enc .sub)] []=some (.d (t.enc U),[]):=by
 match t,ht with
 | .node f v ks,ht=>
  simp only[T.inner]at ht;exact qAX f v ks (by omega) fun s hs=>qqk s (by have:=T.qaE hs;omega)
termination_by t
decreasing_by
 simp_wf
 have:=List.sizeOf_lt_of_mem hs;omega
theorem qqQ(ks:List T)(hl:ks.length<=1099511627776)(hc:∀t,t∈ks->qad XV 150 [.d (t.enc .sub)] []=some (.d (t.enc U),[])):
 qad XV 151 [.d (qai .sub ks)] []=some (.d (qai U ks),[]):=by
 rw[qap XV _ _ _ qKb rfl qyj rfl];have hloop:=qau (X:=XV) (T:=XV.lin 151) (L:=0) (live:=[3,7,8,9]) (b:=qu0) (n:=ks.length) (γ:=Unit) (st:=fun(_:Unit) i=>⟨[(3,.d (.sl U ((ks.take i).map (T.enc U)))),(7,.d (qai .sub ks)),(8,.d (.int .i64 ks.length)),(9,.d (.int .i64 i))],[]⟩) (step:=fun _ _=> .inl ())
  (F:=fun _=>(.exit 0,⟨[(3,.d (.sl U ((ks.take ks.length).map (T.enc U)))),(7,.d (qai .sub ks)),(8,.d (.int .i64 ks.length)),(9,.d (.int .i64 ks.length)),(10,.d (.bool false))],[]⟩)) (R:=fun _=>(.ret,⟨[],[]⟩))
  (fun _=>⟨by simp,by simp[qu0,qtX,qtW,qtV,qAo,qAn,qAm,qAl,qp2]⟩)
  (fun _ i hi=>by
   have hw:=qan (n:=i) (by omega);have hc':=hc _ (qaK hi);have ha:=qu6 ks i hi hl;generalize hl2:(ks.take (i+1)).map (T.enc U)=l2 at ha;generalize (ks.take i).map (T.enc U)=l1 at ha⊢
   exact⟨⟨[(3,.d (.sl U l2)),(7,.d (qai .sub ks)),(8,.d (.int .i64 ks.length)),(9,.d (.int .i64 (i+1:Nat)))],[some [.d (.int .i64 (tAt ks i).f),.d (.int .i64 (tAt ks i).v),.d (qai .sub (tAt ks i).kids)]]⟩,by simp[qu0,qtX,qtW,qtV,qAo,qAn,qAm,qAl,qp2,hi,hw,cut,qaF hi,hc',ha,splice,qaa,qac,qaf,qar,qae],qcf (e:=[some [.d (.int .i64 (tAt ks i).f),.d (.int .i64 (tAt ks i).v),.d (qai .sub (tAt ks i).kids)]]) (by simp[<-hl2]) (by simp[qab]) (by simp) (by simp)⟩)
  ks.length () 0 ⟨[(3,.d (.sl U [])),(7,.d (qai .sub ks)),(8,.d (.int .i64 ks.length)),(9,.d (.int .i64 0))],[]⟩ (by omega) (by simp[qah,qab])
 rw[qmI,List.take_length]at hloop;simp only[qI3]at hloop;simp[qKb,qtX,qtW,qtV,qp2];rw[hloop];simp[qp2]
theorem qsB(f v:Int)(ks:List T)(h:qad XV 151 [.d (qai .sub ks)] []=some (.d (qai U ks),[])):qad XV 150 [.d ((T.node f v ks).enc .sub)] []=some (.d ((T.node f v ks).enc U),[]):=by
 rw[qap XV _ _ _ qKc rfl qyk rfl];simp only[qai]at h;simp[qKc,qGi,qGh,qGg,h,splice,qaa,qac,qaf,qar,qae]
theorem qlT(t:T)(ht:t.inner<=1099511627776):qad XV 150 [.d (t.enc .sub)] []=some (.d (t.enc U),[]):=by
 match t,ht with
 | .node f v ks,ht=>
  simp only[T.inner]at ht;exact qsB f v ks (qqQ ks (by omega) fun s hs=>qlT s (by have:=T.qaE hs;omega))
termination_by t
decreasing_by
 simp_wf
 have:=List.sizeOf_lt_of_mem hs;omega
theorem quh(n:Int):qad XV 147 [.d (.int .i64 n)] []=some (.d ((T.node (-1) n []).enc U),[]):=by
 rw[qap XV _ _ _ qKf rfl qyn rfl];simp[qKf,qGm,qGl,splice,qaa,qac,qaf,qar,qae];rw[T.qbP];rfl
theorem qru(n:Int):qad XV 149 [.d (.int .i64 n)] []=some (.d ((T.node (-1) n []).enc U),[]):=by
 rw[qap XV _ _ _ qKd rfl qyl rfl];simp[qKd,qGk,qGj,splice,qaa,qac,qaf,qar,qae];rw[T.qbP];rfl
def qm2(l:List Bd)(n:Int):Option Nat:=qao (fun i=>(bAt l i).v==n) l.length 0
def qf3(l:List Bd)(n:Int):T:=match qm2 l n with
 |some i=>(bAt l i).t
 |none=> .node (-1) n []
theorem qFp(l:List Bd)(n:Int)(hl:l.length<=1099511627776):qad XV 148 [.d (binds .sub l),.d (.int .i64 n)] []=some (.d (match qm2 l n with|some j=> .tup [(bAt l j).t.enc .sub,.bool true]|none=> .tup [(T.node 0 0 []).enc .sub,.bool false]),[]):=by
 rw[qap XV _ _ _ qKe rfl qym rfl];have h:=qau (X:=XV) (T:=XV.lin 148) (L:=1) (live:=[1,4,8,9,10]) (b:=qq4) (n:=l.length) (st:=fun(_:Unit) i=>⟨[(1,.d (.int .i64 n)),(4,.ptr 0 0),(8,.d (binds .sub l)),(9,.d (.int .i64 l.length)),(10,.d (.int .i64 i))],[some [.d (.int .i64 0),.d (.int .i64 0),.d (.sl U [])]]⟩) (step:=qbT fun i=>(bAt l i).v==n)
  (F:=fun _=>(.exit 0,⟨[(1,.d (.int .i64 n)),(4,.ptr 0 0),(8,.d (binds .sub l)),(9,.d (.int .i64 l.length)),(10,.d (.int .i64 l.length)),(11,.d (.bool false))],[some [.d (.int .i64 0),.d (.int .i64 0),.d (.sl U [])]]⟩)) (R:=fun(j:Nat)=>(.ret,⟨[(4,.ptr 0 0),(5,.d (.bool true))],[some [.d (.int .i64 (bAt l j).t.f),.d (.int .i64 (bAt l j).t.v),.d (qai .sub (bAt l j).t.kids)],some [.d (.int .i64 (bAt l j).v),.d (.int .i64 (bAt l j).t.f),.d (.int .i64 (bAt l j).t.v),.d (qai .sub (bAt l j).t.kids)]]⟩))
  (fun a=>⟨by simp,by simp[qq4,qp4,qp3,qt2,qt1,qt0,qtZ,qtY,qkV]⟩)
  (fun a i hi=>by
   have hw:=qan (n:=i) (by omega);unfold qbT
   by_cases hq:((bAt l i).v==n)=true
   ·rw[if_pos hq]
    exact⟨by simp,by simp[qq4,qp4,qp3,qt2,qt1,qt0,qtZ,qtY,qkV,hi,hw,cut,qdt hi,hq,splice,AV.qav,qaa,qac,qaf,qar,qae]⟩
   ·rw[if_neg hq]
    have hq':((bAt l i).v==n)=false:=by simpa using hq
    exact⟨⟨[(1,.d (.int .i64 n)),(4,.ptr 0 0),(8,.d (binds .sub l)),(9,.d (.int .i64 l.length)),(10,.d (.int .i64 (i+1:Nat)))],[some [.d (.int .i64 0),.d (.int .i64 0),.d (.sl U [])],some [.d (.int .i64 (bAt l i).v),.d (.int .i64 (bAt l i).t.f),.d (.int .i64 (bAt l i).t.v),.d (qai .sub (bAt l i).t.kids)]]⟩,by simp[qq4,qp4,qp3,qt2,qt1,qt0,qtZ,qtY,qkV,hi,hw,cut,qdt hi,hq',splice,AV.qav,qaa,qac,qaf,qar,qae],qcf (e:=[some [.d (.int .i64 (bAt l i).v),.d (.int .i64 (bAt l i).t.f),.d (.int .i64 (bAt l i).t.v),.d (qai .sub (bAt l i).t.kids)]]) (by simp) (by simp[qab]) (by simp) (by simp)⟩)
  l.length () 0 ⟨[(1,.d (.int .i64 n)),(4,.ptr 0 0),(8,.d (binds .sub l)),(9,.d (.int .i64 l.length)),(10,.d (.int .i64 0))],[some [.d (.int .i64 0),.d (.int .i64 0),.d (.sl U [])]]⟩ (by omega) (by simp[qah,qab])
 rw[qpt]at h;simp only[qI4,binds]at h;unfold qm2;simp[qKe,qp4,qp3,qkV];rw[h];cases hq:qao (fun i=>(bAt l i).v==n) l.length 0 with
 |none=>
  simp[qkV,splice,qaa,qac,qaf,qar,qae];rw[T.qbP];rfl
 |some j=>
  simp[qkV,splice,qaa,qac,qaf,qar,qae]
theorem qsm(l:List Bd)(n:Int)(hl:l.length<=1099511627776)(hb:∀i,i<l.length->(bAt l i).t.inner<=1099511627776):qad XV 144 [.d (binds .sub l),.d (.int .i64 n)] []=some (.d ((qf3 l n).enc U),[]):=by
 rw[qap XV _ _ _ qHW rfl qyp rfl];have h:=qFp l n hl;have hv:=qru n;unfold qf3;cases hq:qm2 l n with
 |none=>
  rw[hq]at h;simp[qHW,qAu,qAt,qAs,qAr,qAq,h,hv,splice,qaa,qac,qaf,qar,qae]
 |some j=>
  rw[hq]at h;have hj:j<l.length:=by have:=(qcE _ _ _ _ hq).2.1;omega
  have hc:=qlT (bAt l j).t (hb j hj);simp[qHW,qAu,qAt,qAs,qAr,qAq,h,hc,splice,qaa,qac,qaf,qar,qae]
end Go.Proofs.Ytfiakfiocdfpbaa.VS
namespace Go.Proofs.Ytfiakfiocdfpbaa.VS
mutual
theorem qoL:∀a b:T,T.cmp a b= -(T.cmp b a)
 | .node f v ks,.node f' v' ks'=>by
  have h:=quN ks ks';simp only[T.cmp]
  repeat' split
  all_goals first|omega|exact h
theorem quN:∀a b:List T,T.cmps a b= -(T.cmps b a)
 | [],[]=>rfl
 | [],_::_=>rfl
 |_::_,[]=>rfl
 |x::xs,y::ys=>by
  have h1:=qoL x y;have h2:=quN xs ys;simp only[T.cmps]
  repeat' split
  all_goals omega
end
mutual
theorem qna:∀a b:T,T.cmp a b=0->a=b
 | .node f v ks,.node f' v' ks',h=>by
  simp only[T.cmp]at h
  repeat' split at h
  all_goals first|omega|skip
  have h1:=qCc ks ks' (by omega) h;have h2:f=f':=by omega
  have h3:v=v':=by omega
  rw[h1,h2,h3]
theorem qCc:∀a b:List T,a.length=b.length->T.cmps a b=0->a=b
 | [],[],_,_=>rfl
 | [],_::_,h,_=>by simp at h
 |_::_,[],h,_=>by simp at h
 |x::xs,y::ys,hl,h=>by
  simp only[T.cmps]at h;split at h
  ·omega
  ·rename_i h0
   rw[qna x y (by omega),qCc xs ys (by simpa using hl) h]
end
mutual
theorem qG9:∀a b c:T,T.cmp a b<0->T.cmp b c<0->T.cmp a c<0
 | .node f v ks,.node f' v' ks',.node f2 vw2 ks2,h1,h2=>by
  simp only[T.cmp]at h1 h2⊢
  by_cases e1:f<f'
  ·have:f'<=f2:=by
    apply Classical.byContradiction;intro h
    rw[if_neg (by omega),if_pos (by omega)]at h2;omega
   rw[if_pos (by omega)];omega
  ·have e1':f=f':=by
    apply Classical.byContradiction;intro h
    rw[if_neg e1,if_pos (by omega)]at h1;omega
   subst e1'
   by_cases e2:f<f2
   ·rw[if_pos e2];omega
   ·have e2':f=f2:=by
     apply Classical.byContradiction;intro h
     rw[if_neg e2,if_pos (by omega)]at h2;omega
    subst e2';simp only[Int.lt_irrefl,gt_iff_lt,if_false]at h1 h2⊢
    by_cases e3:v<v'
    ·have:v'<=vw2:=by
      apply Classical.byContradiction;intro h
      rw[if_neg (by omega),if_pos (by omega)]at h2;omega
     rw[if_pos (by omega)];omega
    ·have e3':v=v':=by
      apply Classical.byContradiction;intro h
      rw[if_neg e3,if_pos (by omega)]at h1;omega
     subst e3'
     by_cases e4:v<vw2
     ·rw[if_pos e4];omega
     ·have e4':v=vw2:=by
       apply Classical.byContradiction;intro h
       rw[if_neg e4,if_pos (by omega)]at h2;omega
      subst e4';simp only[Int.lt_irrefl,gt_iff_lt,if_false]at h1 h2⊢
      by_cases e5:ks.length<ks'.length
      ·have:ks'.length<=ks2.length:=by
        apply Classical.byContradiction;intro h
        rw[if_neg (by omega),if_pos (by omega)]at h2;omega
       rw[if_pos (by omega)];omega
      ·have e5':ks.length=ks'.length:=by
        apply Classical.byContradiction;intro h
        rw[if_neg e5,if_pos (by omega)]at h1;omega
       by_cases e6:ks.length<ks2.length
       ·rw[if_pos e6];omega
       ·have e6':ks.length=ks2.length:=by
         apply Classical.byContradiction;intro h
         rw[if_neg (by omega),if_pos (by omega)]at h2;omega
        rw[if_neg (by omega),if_neg (by omega)]at h1 h2⊢
        exact qCd ks ks' ks2 e5' (by omega) h1 h2
theorem qCd:∀a b c:List T,a.length=b.length->b.length=c.length->T.cmps a b<0->T.cmps b c<0->T.cmps a c<0
 | [],[],_,_,_,h,_=>by simp[T.cmps]at h
 | [],_::_,_,h,_,_,_=>by simp at h
 |_::_,[],_,h,_,_,_=>by simp at h
 |x::xs,y::ys,[],_,h,_,_=>by simp at h
 |x::xs,y::ys,z::zs,l1,l2,h1,h2=>by
  simp only[T.cmps]at h1 h2⊢
  have t1:=qG9 x y z
  by_cases c1:T.cmp x y=0
  ·have:=qna x y c1
   subst this
   by_cases c2:T.cmp x z=0
   ·simp only[c1,c2,ne_eq,not_true_eq_false,if_false]at h1 h2⊢
    exact qCd xs ys zs (by simpa using l1) (by simpa using l2) h1 h2
   ·simp only[c2,ne_eq,not_false_eq_true,if_true]at h2⊢
    exact h2
  ·simp only[c1,ne_eq,not_false_eq_true,if_true]at h1
   by_cases c2:T.cmp y z=0
   ·have:=qna y z c2
    subst this;simp only[c1,ne_eq,not_false_eq_true,if_true];exact h1
   ·simp only[c2,ne_eq,not_false_eq_true,if_true]at h2
    have h3:=t1 h1 h2;have c3:T.cmp x z≠0:=by omega
    simp only[c3,ne_eq,not_false_eq_true,if_true];exact h3
end
def tle(a b:T):Prop:=T.cmp a b<=0
theorem qs0(a:T):tle a a:=by
 have:=qoL a a;unfold tle;omega
theorem qe3{a b c:T}(h1:tle a b)(h2:tle b c):tle a c:=by
 unfold tle at*
 by_cases c1:T.cmp a b=0
 ·rw[qna a b c1];exact h2
 by_cases c2:T.cmp b c=0
 ·rw[<-qna b c c2];exact h1
 have:=qG9 a b c (by omega) (by omega);omega
theorem qpb{a b:T}(h1:tle a b)(h2:tle b a):a=b:=by
 have:=qoL a b;unfold tle at*
 exact qna a b (by omega)
theorem qcq{a b:T}(h:¬T.cmp a b<0):tle b a:=by
 have:=qoL a b;unfold tle;omega
theorem qek{a b:T}(h:T.cmp a b<0):tle a b:=by unfold tle;omega
def Srt(l:List T):Prop:=l.Pairwise tle
theorem qD4{a b:List T}(h1:Srt a)(h2:Srt b)(h:a.Perm b):a=b:=List.Perm.eq_of_pairwise (fun _ _ _ _=>qpb) h1 h2 h
end Go.Proofs.Ytfiakfiocdfpbaa.VS
namespace Go.Proofs.Ytfiakfiocdfpbaa.VS
def ins(t:T):List T->List T
 | []=>[t]
 |x::r=>if T.cmp t x<0 then t::x::r else x::ins t r
def qcP:List T->List T->List T
 |acc,[]=>acc
 |acc,t::r=>qcP (ins t acc) r
def qeL(l:List T):List T:=qcP [] l
theorem qjQ(t:T):∀l:List T,(ins t l).Perm (t::l)
 | []=> .refl _
 |x::r=>by
  simp only[ins];split
  ·exact .refl _
  ·exact((qjQ t r).cons x).trans (.swap t x r)
theorem qA4(t:T):∀l:List T,Srt l->Srt (ins t l)
 | [],_=>List.pairwise_singleton _ _
 |x::r,h=>by
  have h':=List.pairwise_cons.1 h;simp only[ins];split
  ·rename_i hlt
   refine List.pairwise_cons.2 ⟨fun y hy=> ?_,h⟩;rcases List.mem_cons.1 hy with rfl|hy
   ·exact qek hlt
   ·exact qe3 (qek hlt) (h'.1 y hy)
  ·rename_i hlt
   refine List.pairwise_cons.2 ⟨fun y hy=> ?_,qA4 t r h'.2⟩;have:=(qjQ t r).mem_iff.1 hy;rcases List.mem_cons.1 this with rfl|hy
   ·exact qcq hlt
   ·exact h'.1 y hy
theorem qi5:∀(l acc:List T),(qcP acc l).Perm (acc++l)
 | [],acc=>by simp[qcP]
 |t::r,acc=>by
  simp only[qcP];refine(qi5 r _).trans ?_;refine((qjQ t acc).append_right r).trans ?_;exact List.perm_middle.symm
theorem qlw:∀(l acc:List T),Srt acc->Srt (qcP acc l)
 | [],acc,h=>h
 |t::r,acc,h=>by
  simp only[qcP];exact qlw r _ (qA4 t acc h)
theorem qcb(l:List T):(qeL l).Perm l:=qi5 l []
theorem qA2(l:List T):Srt (qeL l):=qlw l [] List.Pairwise.nil
theorem quj{l l':List T}(h:l'.Perm l)(hs:Srt l'):l'=qeL l:=qD4 hs (qA2 l) (h.trans (qcb l).symm)
theorem qee:∀(a acc b:List T),qcP acc (a++b)=qcP (qcP acc a) b
 | [],acc,b=>rfl
 |t::r,acc,b=>by simp only[List.cons_append,qcP];exact qee r _ b
def qmb(s:List SymL)(f:Int)(k:T):List T:=if(qbb s f&&k.f==f)=true then k.kids else [k]
def flatK(s:List SymL)(f:Int)(l:List T):List T:=l.flatMap (qmb s f)
mutual
def T.norm(s:List SymL):T->T
 | .node f v ks=> .node f v (if qbb s f=true then qeL (flatK s f (T.norms s ks))else flatK s f (T.norms s ks))
def T.norms(s:List SymL):List T->List T
 | []=>[]
 |t::r=>t.norm s::T.norms s r
end
theorem T.norms_map(s:List SymL):∀l:List T,T.norms s l=l.map (T.norm s)
 | []=>by simp[T.norms]
 |t::r=>by simp[T.norms,T.norms_map s r]
theorem qGN(s:List SymL)(t:T):(t.norm s).f=t.f:=by cases t;simp[T.norm]
theorem qGM(s:List SymL)(t:T):(t.norm s).v=t.v:=by cases t;simp[T.norm]
theorem qlV(a b:List T):qdZ (a++b)=qdZ a+qdZ b:=by unfold qdZ;rw[qeM,List.length_append];omega
theorem qhx{a b:List T}(h:a.Perm b):qdZ a=qdZ b:=by
 induction h with
 |nil=>rfl
 |cons x _ ih=>rw[qb1,qb1,ih]
 |swap x y l=>rw[qb1,qb1,qb1,qb1];omega
 |trans _ _ h1 h2=>rw[h1,h2]
theorem qCb(s:List SymL)(f:Int)(k:T):qdZ (qmb s f k)<=k.inner+1:=by
 unfold qmb;split
 ·rw[qlU];omega
 ·rw[qb1];simp[qdZ,T.inners]
theorem qdK(s:List SymL)(f:Int)(k:T)(l:List T):flatK s f (k::l)=qmb s f k++flatK s f l:=rfl
theorem qqD(s:List SymL)(f:Int)(a b:List T):flatK s f (a++b)=flatK s f a++flatK s f b:=by unfold flatK;simp
theorem qfX(s:List SymL)(f:Int):∀l:List T,qdZ (flatK s f l)<=qdZ l
 | []=>by simp[flatK,qdZ,T.inners]
 |k::l=>by
  rw[qdK,qlV,qb1];have:=qCb s f k;have:=qfX s f l;omega
theorem T.qde(f v:Int)(ks:List T):(T.node f v ks).inner=qdZ ks:=by simp[T.inner,qdZ]
mutual
theorem qdd(s:List SymL):∀t:T,(t.norm s).inner<=t.inner
 | .node f v ks=>by
  have h:=qfW s ks;have h2:=qfX s f (T.norms s ks);simp only[T.norm,T.qde];split
  ·rw[qhx (qcb _)];omega
  ·omega
theorem qfW(s:List SymL):∀l:List T,qdZ (T.norms s l)<=qdZ l
 | []=>by simp[T.norms]
 |t::r=>by
  have h1:=qdd s t;have h2:=qfW s r;simp only[T.norms,qb1];omega
end
theorem qdn{l:List T}{t:T}(h:t∈l):t.inner<=qdZ l:=by have:=T.qaE h;unfold qdZ;omega
theorem qdC(l:List T):l.length<=qdZ l:=by unfold qdZ;omega
def qu9(s:List SymL)(f:Int)(ks:List T)(i:Nat):List T:=flatK s f ((ks.take i).map (T.norm s))
theorem qq8(s:List SymL)(f:Int)(ks:List T):qu9 s f ks 0=[]:=by simp[qu9,flatK]
theorem qq9(s:List SymL)(f:Int)(ks:List T)(i:Nat)(h:i<ks.length):qu9 s f ks (i+1)=qu9 s f ks i++qmb s f ((tAt ks i).norm s):=by
 unfold qu9;rw[qe4 ks i h,List.map_append,qqD];simp[flatK]
theorem qu8(s:List SymL)(f:Int)(ks:List T):qu9 s f ks ks.length=flatK s f (T.norms s ks):=by
 unfold qu9;rw[List.take_length,T.norms_map]
theorem qra(s:List SymL)(f:Int)(ks:List T)(i:Nat):qdZ (qu9 s f ks i)<=qdZ ks:=by
 unfold qu9;have h1:=qfX s f ((ks.take i).map (T.norm s));rw[<-T.norms_map]at h1⊢
 have h2:=qfW s (ks.take i);have h3:=qJC ks i;omega
theorem qGW(t:T):∀(l:List T) (j:Nat),j<=l.length->(∀i,i<j->¬T.cmp t (tAt l i)<0)->(j<l.length->T.cmp t (tAt l j)<0)->ins t l=l.take j++t::l.drop j
 | [],j,hj,_,_=>by simp at hj;subst hj;rfl
 |x::r,0,hj,h1,h2=>by
  have:=h2 (by simp);simp only[tAt,List.getElem?_cons_zero,Option.getD_some]at this;simp[ins,this]
 |x::r,j+1,hj,h1,h2=>by
  have h0:=h1 0 (by omega);simp only[tAt,List.getElem?_cons_zero,Option.getD_some]at h0;have:=qGW t r j (by simpa using hj) (fun i hi=>by simpa[tAt]using h1 (i+1) (by omega)) (fun h=>by simpa[tAt]using h2 (by simpa using h));simp[ins,h0,this]
end Go.Proofs.Ytfiakfiocdfpbaa.VS
namespace Go.Proofs.Ytfiakfiocdfpbaa.VS
theorem qCK(a c:List T)(g:Tag)(h:(a.length+c.length)*40<=140737488355328):qa0 3 40 (.sl U (a.map (T.enc U))) (.sl g (c.map (T.enc U)))=some (.sl U ((a++c).map (T.enc U))):=by
 have h1:(c.map (T.enc U)).all (fun e=>decide (e.cells.length=3/\e.cells.all DV.isCell=true))=true:=by
  simp[qaa,qac]
 have h2:(a.map (T.enc U)).all (fun e=>decide (e.cells.length=3))=true:=by simp
 unfold qa0;simp only;rw[if_pos h1];cases c with
 |nil=>simp
 |cons x r=>
  simp only[List.map_cons,List.isEmpty_cons,Bool.false_eq_true,if_false];rw[if_pos ⟨by simpa using h,trivial,h2⟩];simp
theorem qzg(xs:List DV)(m:Nat):qcA xs 0 m=(xs.take m).map DV.clr++xs.drop m:=by
 unfold qcA;simp[DV.qav]
def putAt(t:T)(l:List T):Nat:=match qao (fun i=>decide (T.cmp t (tAt l i)<0)) l.length 0 with
 |some j=>j
 |none=>l.length
theorem qgp(q:Nat->Bool):∀(k i:Nat),(∀j,qao q k i=some j->∀m,i<=m->m<j->q m=false)/\(qao q k i=none->∀m,i<=m->m<i+k->q m=false)
 |0,i=>⟨fun j h=>by simp[qao]at h,fun _ m h1 h2=>by omega⟩
 |k+1,i=>by
  have ih:=qgp q k (i+1);simp only[qao]
  by_cases h:q i=true
  ·simp only[h,if_true]
   exact⟨fun j hj m h1 h2=>by simp at hj;omega,fun h=>by simp at h⟩
  ·simp only[h,Bool.false_eq_true,if_false]
   refine⟨fun j hj m h1 h2=> ?_,fun hn m h1 h2=> ?_⟩
   ·by_cases e:m=i
    ·subst e;simpa using h
    ·exact ih.1 j hj m (by omega) h2
   ·by_cases e:m=i
    ·subst e;simpa using h
    ·exact ih.2 hn m (by omega) (by omega)
theorem qt4(t:T)(l:List T):putAt t l<=l.length:=by
 unfold putAt;split
 ·rename_i j h;have:=(qcE _ _ _ _ h).2.1;omega
 ·omega
theorem qAy(t:T)(l:List T):ins t l=l.take (putAt t l)++t::l.drop (putAt t l):=by
 have h:=qgp (fun i=>decide (T.cmp t (tAt l i)<0)) l.length 0;refine qGW t l _ (qt4 t l) (fun i hi=> ?_) (fun hlt=> ?_)
 ·unfold putAt at hi
  split at hi
  ·rename_i j hj
   simpa using h.1 j hj i (by omega) hi
  ·rename_i hn
   simpa using h.2 hn i (by omega) (by omega)
 ·unfold putAt at hlt⊢
  split
  ·rename_i j hj
   simpa using (qcE _ _ _ _ hj).2.2
  ·rename_i hn;rw[hn]at hlt;simp at hlt
theorem qug(l:List T)(t:T)(hl:qdZ l<=1099511627776)(ht:t.inner<=1099511627776)(x0 x1 x2 x3:Option (List AV)):qad XV 154 [.d (qai U l),.d (t.enc U)] [x0,x1,x2,x3]=some (.d (.sl U ((ins t l).map (T.enc U))),[x0,x1,x2,x3]):=by
 have hlen:=qdC l;have hlt:=qt4 t l;have hb:∀i,i<l.length->qad XV 84 [.d (t.enc .sub),.d ((tAt l i).enc .sub)] []=some (.d (.bool (decide (T.cmp t (tAt l i)<0))),[]):=fun i hi=>qdy t (tAt l i) ht (by have:=qdn (qaK hi);omega)
 rw[qap XV _ _ _ qJ9 rfl qyh rfl];have h:=qau (X:=XV) (T:=XV.lin 154) (L:=5) (live:=[0,3,5]) (b:=qnj) (n:=l.length) (st:=fun(_:Unit) i=>⟨[(0,.d (qai U l)),(3,.ptr 4 0),(5,.d (.int .i64 i))],[x0,x1,x2,x3,some [.d (.int .i64 t.f),.d (.int .i64 t.v),.d (qai U t.kids)]]⟩) (step:=qbT fun i=>decide (T.cmp t (tAt l i)<0))
  (F:=fun _=>(.exit 0,⟨[(0,.d (qai U l)),(3,.ptr 4 0),(5,.d (.int .i64 l.length)),(19,.d (.bool false))],[x0,x1,x2,x3,some [.d (.int .i64 t.f),.d (.int .i64 t.v),.d (qai U t.kids)]]⟩)) (R:=fun(j:Nat)=>(.exit 0,⟨[(0,.d (qai U l)),(3,.ptr 4 0),(5,.d (.int .i64 j)),(19,.d (.bool false))],[x0,x1,x2,x3,some [.d (.int .i64 t.f),.d (.int .i64 t.v),.d (qai U t.kids)]]⟩))
  (fun a=>⟨by simp,by simp[qnj,qp1,qp0,qB6,qtU,qpZ,qpY,qpX]⟩)
  (fun a i hi=>by
   have hw:=qan (n:=i) (by omega);have hc:=hb i hi;unfold qbT
   by_cases hq:decide (T.cmp t (tAt l i)<0)=true
   ·rw[if_pos hq]
    rw[hq]at hc;exact⟨by simp,by simp[qnj,qp1,qp0,qB6,qtU,qpZ,qpY,qpX,hi,hw,cut,qaF hi,hc,qae]⟩
   ·rw[if_neg hq]
    have hq':decide (T.cmp t (tAt l i)<0)=false:=by simpa using hq
    rw[hq']at hc;exact⟨⟨[(0,.d (qai U l)),(3,.ptr 4 0),(5,.d (.int .i64 (i+1:Nat)))],[x0,x1,x2,x3,some [.d (.int .i64 t.f),.d (.int .i64 t.v),.d (qai U t.kids)]]⟩,by simp[qnj,qp1,qp0,qB6,qtU,qpZ,qpY,qpX,hi,hw,cut,qaF hi,hc,qae],by simp[qah,qab]⟩)
  l.length () 0 ⟨[(0,.d (qai U l)),(3,.ptr 4 0),(5,.d (.int .i64 0))],[x0,x1,x2,x3,some [.d (.int .i64 t.f),.d (.int .i64 t.v),.d (qai U t.kids)]]⟩ (by omega) (by simp[qah,qab])
 have h':qbm XV (XV.lin 154) 5 [0,3,5] qnj ⟨[(0,.d (qai U l)),(3,.ptr 4 0),(5,.d (.int .i64 0))],[x0,x1,x2,x3,some [.d (.int .i64 t.f),.d (.int .i64 t.v),.d (qai U t.kids)]]⟩=
  some (.exit 0,⟨[(0,.d (qai U l)),(3,.ptr 4 0),(5,.d (.int .i64 (putAt t l))),(19,.d (.bool false))],[x0,x1,x2,x3,some [.d (.int .i64 t.f),.d (.int .i64 t.v),.d (qai U t.kids)]]⟩):=by
  rw[h,qpt];unfold putAt;cases hq:qao (fun i=>decide (T.cmp t (tAt l i)<0)) l.length 0<;>simp
 clear h;rw[qAy];generalize putAt t l=m at*
 have hm:¬((m:Int)<0):=by omega
 have a1:=qCK [] (l.take m) .sub (by simp;omega);have a2:=qCK (l.take m) [t] U (by simp;omega);have a3:=qCK (l.take m++[t]) (l.drop m) .sub (by simp;omega);have hall:(l.map (T.enc U)).all (fun e=>decide (e.cells.length=3))=true:=by simp
 have hrest:qcA (l.map (T.enc U)) 0 m=(l.take m).map (T.enc .sub)++(l.drop m).map (T.enc U):=by rw[qzg,<-List.map_take,qb2,<-List.map_drop]
 have hall2:((l.take m).map (T.enc .sub)++(l.drop m).map (T.enc U)).all (fun e=>decide (e.cells.length=3))=true:=by
  have q:∀(l:List T) (g:Tag),(l.map (T.enc g)).all (fun e=>decide (e.cells.length=3))=true:=fun l g=>by simp
  rw[List.all_append,q,q];rfl
 have hlen2:((l.take m).map (T.enc .sub)++(l.drop m).map (T.enc U)).length=l.length:=by simp;omega
 have hd2:(((l.take m).map (T.enc .sub)++(l.drop m).map (T.enc U)).take l.length).drop m=(l.drop m).map (T.enc U):=by
  rw[List.take_of_length_le (by rw[hlen2];exact Nat.le_refl _),List.drop_append_of_le_length (by simp;omega),List.drop_of_length_le (by simp;omega)];rfl
 have ht2:(l.map (T.enc U)).take m=(l.take m).map (T.enc U):=List.map_take.symm;simp only[List.map_nil,List.nil_append,List.map_cons,List.map_append,List.append_assoc,List.cons_append]at a1 a2 a3⊢
 generalize hR:(l.take m).map (T.enc .sub)++(l.drop m).map (T.enc U)=R at*
 generalize hL1:(l.take m).map (T.enc U)=L1 at*
 generalize hL2:(l.drop m).map (T.enc U)=L2 at*
 generalize hL3:L1++[T.enc U t]=L3 at*
 generalize hL4:L1++T.enc U t::L2=L4 at*
 simp only[qI2]at h';simp[qJ9,qp1,qp0,splice,qaa,qac,qaf,qar,qae];rw[h'];simp[qpZ,qpY,qpX,hlt,hm,hall,hall2,hlen2,hrest,hd2,ht2,a1,a2,a3,qae,splice,AV.qav]
end Go.Proofs.Ytfiakfiocdfpbaa.VS
namespace Go.Proofs.Ytfiakfiocdfpbaa.VS
def nM(s:List SymL)(t:T):DV:=(t.norm s).enc U
theorem qhl(s:List SymL)(f:Int)(h:¬qbb s f=true):∀l:List T,flatK s f l=l
 | []=>rfl
 |k::l=>by
  rw[qdK,qhl s f h l];have h':qbb s f=false:=by simpa using h
  simp[qmb,h']
def qCZ(s:List SymL)(t:T):List DV:=(t.norm s).kids.map (T.enc U)
theorem qwv(s:List SymL)(t:T):nM s t= .agg [.int .i64 t.f,.int .i64 t.v,.sl U (qCZ s t)]:=by
 unfold nM qCZ;rw[T.qbP,qGN,qGM]
theorem qFe(s:List SymL)(t:T):(qCZ s t).map DV.clr=(t.norm s).kids.map (T.enc .sub):=by unfold qCZ;exact qb2 _ _
theorem quQ(s:List SymL)(t:T):(nM s t).cells=[.int .i64 t.f,.int .i64 t.v,.sl U (qCZ s t)]:=by rw[qwv];rfl
theorem qOs(s:List SymL)(a:List T)(t:T)(h:a.length<=1099511627776):qa0 3 40 (.sl U (a.map (nM s))) (.sl U [nM s t])=some (.sl U (a.map (nM s)++[nM s t])):=by
 unfold qa0;simp only;rw[if_pos (by simp[quQ,qaa,qac])];simp only[List.isEmpty_cons,Bool.false_eq_true,if_false];rw[if_pos ⟨by simp;omega,trivial,by simp[quQ]⟩]
def rowAt(s:List SymL)(f:Int)(ks:List T)(i:Nat):List DV:=if qbb s f=true then(qeL (qu9 s f ks i)).map (T.enc U)else(ks.take i).map (nM s)
theorem rowAt_zero(s:List SymL)(f:Int)(ks:List T):rowAt s f ks 0=[]:=by unfold rowAt;rw[qq8];split<;>rfl
theorem norms_map(s:List SymL):∀l:List T,T.norms s l=l.map (T.norm s)
 | []=>by simp[T.norms]
 |t::r=>by simp[T.norms,norms_map s r]
theorem rowAt_all(s:List SymL)(f v:Int)(ks:List T):DV.agg [.int .i64 f,.int .i64 v,.sl U (rowAt s f ks ks.length)]=nM s (.node f v ks):=by
 rw[qwv];unfold rowAt qCZ;rw[qu8,List.take_length];simp only[T.qbv,T.qcS,T.norm]
 by_cases hb:qbb s f=true
 ·simp only[hb,if_true,T.qaH]
 ·simp only[hb,Bool.false_eq_true,if_false,T.qaH]
  rw[qhl s f hb,norms_map,List.map_map];rfl
def nB3(f v:Int)(ks:List T)(R:List DV):qal:=[some [.d (.int .i64 f),.d (.int .i64 v),.d (qai .sub ks)],some [.d (.int .i64 0),.d (.int .i64 0),.d (.sl U [])],some [.d (.int .i64 f),.d (.int .i64 v),.d (.sl U R)]]
def qoS(l:List T)(j:Nat):List DV:=(l.take j).map (T.enc .sub)++(l.drop j).map (T.enc U)
theorem qEh(l:List T)(j:Nat)(h:j<=l.length):(qoS l j).length=l.length:=by unfold qoS;simp;omega
theorem qEi(l:List T)(j:Nat):(qoS l j).map DV.clr=l.map (T.enc .sub):=by
 unfold qoS;rw[List.map_append,qb2,qb2,<-List.map_append,List.take_append_drop]
theorem qH9(l:List T)(j:Nat)(h:j<l.length):(qoS l j)[j]?=some ((tAt l j).enc U):=by
 unfold qoS;rw[List.getElem?_append_right (by simp;omega),List.drop_eq_getElem_cons h,qaF h];simp[Nat.min_eq_left (Nat.le_of_lt h)]
theorem qEg(l:List T)(j:Nat)(h:j<l.length):(qoS l j).set j ((tAt l j).enc .sub)=qoS l (j+1):=by
 unfold qoS;have hm:((l.take j).map (T.enc .sub)).length=j:=by simp;omega
 rw[List.set_append_right _ _ (by rw[hm];exact Nat.le_refl _),hm,Nat.sub_self,List.drop_eq_getElem_cons h,qaF h,List.map_cons,List.set_cons_zero,qe4 l j h,List.map_append,List.append_assoc,List.map_cons,List.map_nil];rfl
theorem qEj(l:List T):qoS l l.length=l.map (T.enc .sub):=by unfold qoS;simp
theorem qzc(l:List T):qoS l 0=l.map (T.enc U):=by unfold qoS;simp
theorem qDY(TT:List Nat)(d4:Nat)(s:XS)(b off:Nat)(cs:List AV)(g gt:Tag)(xs:List DV)(k:Nat)(t:T):qyG TT d4 3 s b off cs g xs k (some (t.enc gt))=some (qbu TT ⟨s.r,s.B.set b (some (cs.set off (.d (.sl g (xs.set k (t.enc .sub))))))⟩ (some d4) (.d (t.enc gt))):=by
 rw[<-T.qfI gt t,T.qbP];rfl
theorem qES(s:List SymL)(hs:s.length<=1099511627776)(f v kf kv:Int)(ks l:List T)(i:Nat)(hl:l.length<=1099511627776):∀(k j:Nat),j+k=l.length->∀acc:List T,qdZ acc+qdZ (l.drop j)<=1099511627776->∀e:qal,
 qbm XV (XV.lin 153) 4 [0,3,4,5,6,7,8] quZ ⟨[(0,.d (sg s)),(3,.ptr 0 0),(4,.ptr 1 0),(5,.ptr 2 0),(6,.d (.int .i64 i)),(7,.ptr 3 0),(8,.d (.int .i64 j))],nB3 f v ks (acc.map (T.enc U))++[some [.d (.int .i64 kf),.d (.int .i64 kv),.d (.sl U (qoS l j))]]++e⟩=
  some (.exit 3,⟨[(0,.d (sg s)),(3,.ptr 0 0),(4,.ptr 1 0),(5,.ptr 2 0),(6,.d (.int .i64 i)),(7,.ptr 3 0),(8,.d (.int .i64 l.length)),(32,.d (.bool false))],nB3 f v ks ((qcP acc (l.drop j)).map (T.enc U))++[some [.d (.int .i64 kf),.d (.int .i64 kv),.d (.sl U (l.map (T.enc .sub)))]]⟩):=by
 have head:∀(x:Int) (A e:qal),A.length=4->qah 4 [0,3,4,5,6,7,8] ⟨[(0,.d (sg s)),(3,.ptr 0 0),(4,.ptr 1 0),(5,.ptr 2 0),(6,.d (.int .i64 i)),(7,.ptr 3 0),(8,.d (.int .i64 x))],A++e⟩=some ⟨[(0,.d (sg s)),(3,.ptr 0 0),(4,.ptr 1 0),(5,.ptr 2 0),(6,.d (.int .i64 i)),(7,.ptr 3 0),(8,.d (.int .i64 x))],A⟩:=fun x A e hA=>
  qcf (by simp) (by simp[qab]) hA rfl
 intro k
 induction k with
 |zero=>
  intro j hj acc ha e;have:j=l.length:=by omega
  subst this;refine qaR (head _ _ e (by simp[nB3])) ?_ (by simp);rw[List.drop_length,qEj];simp only[qcP];simp[quZ,qgJ,qgI,qgH,qi2,qi0,qfh,qfg,qff,qfe,qiZ,qiY,qlQ,qiX,qi1,qeH,nB3,qae]
 |succ k ih=>
  intro j hj acc ha e;have hlt:j<l.length:=by omega
  have hm:=qaK hlt;have h1:=qdn hm;have hd:l.drop j=tAt l j::l.drop (j+1):=by rw[List.drop_eq_getElem_cons hlt,qaF hlt]
  have hw:=qan (n:=j) (by omega);have r1:=qEh l j (by omega);have r2:=qEi l j;have r3:∀h:j<(qoS l j).length,(qoS l j)[j]'h=(tAt l j).enc U:=fun h=>(List.getElem?_eq_some_iff.1 (qH9 l j hlt)).2
  have r4:=qEg l j hlt;rw[hd,qb1]at ha;have hp:=qug acc (tAt l j) (by omega) (by omega);rw[hd];simp only[qcP];rw[<-ih (j+1) (by omega) (ins (tAt l j) acc) (by rw[qhx (qjQ _ _),qb1];omega) []];refine qbs (head _ _ e (by simp[nB3])) ?_;generalize qoS l (j+1)=R1 at*
  generalize qoS l j=R0 at*
  simp[quZ,qgJ,qgI,qgH,qi2,qi0,qfh,qfg,qff,qfe,qiZ,qiY,qlQ,qiX,qi1,qeH,nB3,hlt,hw,cut,qaF hlt,hp,r1,r2,r3,r4,qDY,qat,VX.linT,splice,qaa,qac,qaf,qar,qae]
theorem qNw(s:List SymL)(hs:s.length<=1099511627776)(f v:Int)(ks:List T)(hl:qdZ ks<=1099511627776)(i:Nat)(hi:i<ks.length)
 (hc:qad XV 153 [.d (sg s),.d ((tAt ks i).enc .sub)] []=some (.d (nM s (tAt ks i)),[])):
 ∃e:qal,qax XV (XV.lin 153) qjo ⟨[(0,.d (sg s)),(3,.ptr 0 0),(4,.ptr 1 0),(5,.ptr 2 0),(6,.d (.int .i64 i))],nB3 f v ks (rowAt s f ks i)⟩=
  some (.normal,⟨[(0,.d (sg s)),(3,.ptr 0 0),(4,.ptr 1 0),(5,.ptr 2 0),(6,.d (.int .i64 (i+1:Nat)))],nB3 f v ks (rowAt s f ks (i+1))++e⟩):=by
 have hlen:=qdC ks;have hw:=qan (n:=i) (by omega);have hb:=qiC s hs f;have ht:=qaF hi;have hm:=qdn (qaK hi);have hin:=qdd s (tAt ks i);have hac:=qq9 s f ks i hi;have hcn:=qra s f ks (i+1);have htk:=qe4 ks i hi;have hM:=qFe s (tAt ks i);have hnf:=qGN s (tAt ks i);have hnv:=qGM s (tAt ks i);have happ:=qOs s (ks.take i) (tAt ks i) (by simp;omega);rw[hac,qlV]at hcn;unfold rowAt;rw[hac,htk];rw[qwv]at hc happ;generalize hk:tAt ks i=k at*
 generalize hr:qu9 s f ks i=acc at*
 have hXu:qCZ s k=(k.norm s).kids.map (T.enc U):=rfl;generalize hX:qCZ s k=X at*
 by_cases h1:qbb s f=true
 ·simp only[h1,if_true]
  by_cases h2:(k.f==f)=true
  ·have e1:qmb s f (k.norm s)=(k.norm s).kids:=by unfold qmb;rw[hnf,h1,h2];rfl
   rw[e1]at hcn⊢
   have hloop:=qES s hs f v k.f k.v ks (k.norm s).kids i (by have:=qdC (k.norm s).kids;rw[qlU]at this;omega) (k.norm s).kids.length 0 (by omega) (qeL acc) (by rw[qhx (qcb acc),List.drop_zero];omega) [];rw[List.drop_zero,qzc,show qcP (qeL acc) (k.norm s).kids=qeL (acc++(k.norm s).kids)from by unfold qeL;rw[qee]]at hloop;refine⟨[some [.d (.int .i64 k.f),.d (.int .i64 k.v),.d (.sl U ((k.norm s).kids.map (T.enc .sub)))]],?_⟩;have h2n:(k.f !=f)=false:=by simpa using h2
   rw[<-hXu]at hloop;generalize (qeL (acc++(k.norm s).kids)).map (T.enc U)=R2 at*
   generalize (qeL acc).map (T.enc U)=R1 at*
   generalize (k.norm s).kids=l at*
   simp only[nB3,qAR,Int.natCast_zero,List.cons_append,List.nil_append,List.append_nil]at hloop⊢
   simp[qjo,qgJ,qgI,qgH,qi2,qi0,qfh,qfg,qff,qfe,qiZ,qiY,qlQ,qiX,qi1,qeH,hi,hw,cut,ht,hc,hb,h1,h2n,hM,splice,qaa,qac,qaf,qar,qae,AV.qav];rw[hloop];simp[qjo,qgJ,qgI,qgH,qi2,qi0,qfh,qfg,qff,qfe,qiZ,qiY,qlQ,qiX,qi1,qeH,hw]
  ·have h2':(k.f==f)=false:=by simpa using h2
   have h2n:(k.f !=f)=true:=by simpa using h2
   have e1:qmb s f (k.norm s)=[k.norm s]:=by unfold qmb;rw[hnf,h1,h2'];rfl
   rw[e1]at hcn⊢
   rw[show qeL (acc++[k.norm s])=ins (k.norm s) (qeL acc)from by unfold qeL;rw[qee];rfl];have hp:=qug (qeL acc) (k.norm s) (by rw[qhx (qcb acc)];omega) (by omega);have hke:(k.norm s).enc U= .agg [.int .i64 k.f,.int .i64 k.v,.sl U X]:=by rw[T.qbP,hnf,hnv,hXu]
   simp only[hke]at hp;refine⟨[some [.d (.int .i64 k.f),.d (.int .i64 k.v),.d (qai .sub (k.norm s).kids)]],?_⟩;generalize ins (k.norm s) (qeL acc)=R2 at*
   generalize qeL acc=R1 at*
   generalize (k.norm s).kids=l at*
   simp[qjo,qgJ,qgI,qgH,qi2,qi0,qfh,qfg,qff,qfe,qiZ,qiY,qlQ,qiX,qi1,qeH,nB3,hi,hw,cut,ht,hc,hb,h1,h2n,hM,hp,qat,VX.linT,splice,qaa,qac,qaf,qar,qae,AV.qav]
 ·have h1':qbb s f=false:=by simpa using h1
  simp only[h1',Bool.false_eq_true,if_false];refine⟨[some [.d (.int .i64 k.f),.d (.int .i64 k.v),.d (qai .sub (k.norm s).kids)]],?_⟩;rw[List.map_append,List.map_cons,List.map_nil,qwv,hX];generalize hR2:(ks.take i).map (nM s)++[.agg [.int .i64 k.f,.int .i64 k.v,.sl U X]]=R2 at*
  generalize (ks.take i).map (nM s)=R1 at*
  generalize (k.norm s).kids=l at*
  simp[qjo,qgJ,qgI,qgH,qi2,qi0,qfh,qfg,qff,qfe,qiZ,qiY,qlQ,qiX,qi1,qeH,nB3,hi,hw,cut,ht,hc,hb,h1',happ,hM,splice,qaa,qac,qaf,qar,qae,AV.qav]
end Go.Proofs.Ytfiakfiocdfpbaa.VS
namespace Go.Proofs.Ytfiakfiocdfpbaa.VS
theorem qIR(s:List SymL)(hs:s.length<=1099511627776)(f v:Int)(ks:List T)(hl:qdZ ks<=1099511627776)
 (hc:∀t,t∈ks->qad XV 153 [.d (sg s),.d (t.enc .sub)] []=some (.d (nM s t),[])):∀(k i:Nat),i+k=ks.length->∀e:qal,
 qbm XV (XV.lin 153) 3 [0,3,4,5,6] qjo ⟨[(0,.d (sg s)),(3,.ptr 0 0),(4,.ptr 1 0),(5,.ptr 2 0),(6,.d (.int .i64 i))],nB3 f v ks (rowAt s f ks i)++e⟩=
  some (.exit 0,⟨[(0,.d (sg s)),(3,.ptr 0 0),(4,.ptr 1 0),(5,.ptr 2 0),(6,.d (.int .i64 ks.length)),(18,.d (.bool false))],nB3 f v ks (rowAt s f ks ks.length)⟩):=by
 have head:∀(x:Int) (A e:qal),A.length=3->qah 3 [0,3,4,5,6] ⟨[(0,.d (sg s)),(3,.ptr 0 0),(4,.ptr 1 0),(5,.ptr 2 0),(6,.d (.int .i64 x))],A++e⟩=some ⟨[(0,.d (sg s)),(3,.ptr 0 0),(4,.ptr 1 0),(5,.ptr 2 0),(6,.d (.int .i64 x))],A⟩:=fun x A e hA=>
  qcf (by simp) (by simp[qab]) hA rfl
 intro k
 induction k with
 |zero=>
  intro i hi e;have:i=ks.length:=by omega
  subst this;refine qaR (head _ _ e (by simp[nB3])) ?_ (by simp);generalize rowAt s f ks ks.length=R;simp[qjo,qgJ,qgI,qgH,qi2,qi0,qfh,qfg,qff,qfe,qiZ,qiY,qlQ,qiX,qi1,qeH,nB3,qae]
 |succ k ih=>
  intro i hi e;have hlt:i<ks.length:=by omega
  obtain⟨e',he⟩:=qNw s hs f v ks hl i hlt (hc _ (qaK hlt));rw[<-ih (i+1) (by omega) e'];exact qbs (head _ _ e (by simp[nB3])) he
theorem qrF(s:List SymL)(hs:s.length<=1099511627776)(f v:Int)(ks:List T)(hl:qdZ ks<=1099511627776)
 (hc:∀t,t∈ks->qad XV 153 [.d (sg s),.d (t.enc .sub)] []=some (.d (nM s t),[])):
 qad XV 153 [.d (sg s),.d ((T.node f v ks).enc .sub)] []=some (.d (nM s (.node f v ks)),[]):=by
 rw[qap XV _ _ _ qKa rfl qyi rfl];have hloop:=qIR s hs f v ks hl hc ks.length 0 (by omega) [];rw[<-rowAt_all];simp only[rowAt_zero,List.append_nil,qAR,nB3,Int.natCast_zero]at hloop;generalize rowAt s f ks ks.length=R at*
 simp[qKa,qgJ,qgI,qgH,splice,qaa,qac,qaf,qar,qae,AV.qav];rw[hloop];simp[qeH,splice,qaa,qac,qaf,qar,qae,AV.qav]
theorem qgk(s:List SymL)(hs:s.length<=1099511627776)(t:T)(ht:t.inner<=1099511627776):qad XV 153 [.d (sg s),.d (t.enc .sub)] []=some (.d (nM s t),[]):=by
 match t,ht with
 | .node f v ks,ht=>
  rw[T.qde]at ht;exact qrF s hs f v ks ht fun x hx=>qgk s hs x (by have:=qdn hx;omega)
termination_by t
decreasing_by
 simp_wf
 have:=List.sizeOf_lt_of_mem hx;omega
end Go.Proofs.Ytfiakfiocdfpbaa.VS
namespace Go.Proofs.Ytfiakfiocdfpbaa.VS
def dst(n:Int)(neg:Bool)(s:ByteArray):XS:=⟨[(0,.d (.int .i64 n)),(3,.d (.bool neg)),(4,.d (.str s))],[]⟩
end Go.Proofs.Ytfiakfiocdfpbaa.VS
namespace Go.Proofs.Ytfiakfiocdfpbaa.VS
end Go.Proofs.Ytfiakfiocdfpbaa.VS
namespace Go.Proofs.Ytfiakfiocdfpbaa.VS
end Go.Proofs.Ytfiakfiocdfpbaa.VS
namespace Go.Proofs.Ytfiakfiocdfpbaa.VS
def qdk:List SymL:=[⟨⟨#[116,116]⟩,0,false⟩,⟨⟨#[97]⟩,0,false⟩,⟨⟨#[98]⟩,0,false⟩,⟨⟨#[103]⟩,1,false⟩,⟨⟨#[104]⟩,2,false⟩,⟨⟨#[102]⟩,2,true⟩,⟨⟨#[107]⟩,2,true⟩]
theorem qjO:qad XV 155 [] []=some (.d (.sl U (qdk.map SymL.enc)),[]):=by
 rw[qap XV _ _ _ qJ8 rfl qyg rfl];simp[qJ8,qGf,qGe,qdk,qaJ,List.replicate,splice]
structure SigD(l:List SymL):Prop where
 len:l.length<=9
 sym:∀s,s∈l->s.name.size<=9/\-1<=s.arity/\s.arity<=4
theorem SigD.ok{l:List SymL}(h:SigD l):∀s,s∈l->s.ok:=fun s hs=>by
 obtain⟨h1,h2,h3⟩:=h.sym s hs;exact⟨by unfold maxLen;omega,by omega,by omega⟩
theorem SigD.nm{l:List SymL}(h:SigD l)(n:Nat)(hn:9<=n):∀i,i<l.length->(qaG l i).name.size<=n:=fun i hi=>by
 have:=(h.sym _ (qpd hi)).1;omega
theorem qI9(x y:Int)(r:DV):(DV.int .u8 x).like r=(DV.int .u8 y).like r:=by cases r<;>rfl
theorem qE0(bs:List Int):(bs.map (DV.int .u8)).flatMap DV.cells=bs.map (DV.int .u8):=by
 induction bs with
 |nil=>rfl
 |cons b r ih=>simp only[List.map_cons,List.flatMap_cons,ih,DV.cells,List.singleton_append]
theorem qiu(rs:List DV):∀bs:List Int,DV.xrests rs (bs.map (.int .u8))=true
 | []=>by simp[DV.xrests]
 |b::r=>by simp[DV.xrests,DV.xrest,qiu rs r]
theorem qrm(rs:List DV)(h:rs.all (fun r=> !(DV.int .u8 0).like r)=true)(bs:List Int):DV.xrest rs (.sl .sub (bs.map (.int .u8)))=true:=by
 simp only[DV.xrest,qiu,Bool.and_true,qE0];cases bs with
 |nil=>rfl
 |cons b r=>
  have:(rs.all fun r=> !(DV.int .u8 b).like r)=true:=by
   rw[<-h];congr 1;funext r;rw[qI9 b 0]
  simp[this]
theorem qfJ(rs:List DV)(h:rs.all (fun r=> !(DV.int .u8 0).like r)=true)(bs:List Int)(pos st:Int):qbC rs (qa9 bs pos st)=true:=by
 simp only[qbC,qa9,List.all_cons,List.all_nil,AV.xrest];rw[qrm rs h bs];simp only[DV.xrest,Bool.and_self]
@[simp] theorem qNA(s:SymL):qba s.enc=true:=rfl
@[simp] theorem qKJ(rs:List DV)(s:SymL):DV.xrest rs s.enc=true:=by
 show DV.xrest rs (.agg [.str s.name,.int .i64 s.arity,.bool s.ac])=true;simp only[DV.xrest,DV.xrests,Bool.and_self]
theorem qbp(bs:List Int)(pos st:Int):AV.clrs (qa9 bs pos st)=qa9 bs pos st:=by simp[qa9]
theorem qLg:SigD qdk:=by
 refine⟨by decide,fun s hs=> ?_⟩;simp only[qdk,List.mem_cons,List.not_mem_nil,or_false]at hs;rcases hs with rfl|rfl|rfl|rfl|rfl|rfl|rfl<;>exact⟨by decide,by decide,by decide⟩
end Go.Proofs.Ytfiakfiocdfpbaa.VS
namespace Go.Proofs.Ytfiakfiocdfpbaa.VS
mutual
def T.rng:T->Prop
 | .node _ v ks=>(-9223372036854775808<=v/\v<=9223372036854775807)/\T.rngs ks
def T.rngs:List T->Prop
 | []=>True
 |t::r=>t.rng/\T.rngs r
end
theorem T.qf0:∀l:List T,T.rngs l↔∀t,t∈l->t.rng
 | []=>by simp[T.rngs]
 |t::r=>by simp[T.rngs,T.qf0 r]
end Go.Proofs.Ytfiakfiocdfpbaa.VS
namespace Go.Proofs.Ytfiakfiocdfpbaa.VS
theorem qb5{bs:List Int}{q:Nat}{B R B':qal}(hq:q<B.length)(h:qcg bs q (B++R) B'):∃B1,qcg bs q B B1/\B1.length=B.length/\B'=B1++R:=by
 obtain⟨pos,st,hp,rfl⟩:=h;exact⟨B.set q (some (qa9 bs pos st)),⟨pos,st,hp,rfl⟩,by simp,by rw[List.set_append_left _ _ hq]⟩
theorem qcy.app{bs:List Int}{q:Nat}{B:qal}(h:qcy bs q B)(R:qal):qcy bs q (B++R):=by
 have hq:=h.lt;obtain⟨pos,st,hp,hb⟩:=h;exact⟨pos,st,hp,by have:=qc4 hb;simp[qa3,List.getElem?_append_left hq,this]⟩
theorem qhr(A:qal)(c:Option (List AV))(L:Nat)(h:A.length=L):(A++[c])[L]?=some c:=by subst h;simp
theorem qjf(A:qal)(c c':Option (List AV))(L:Nat)(h:A.length=L):(A++[c]).set L c'=A++[c']:=by subst h;simp
theorem qBR(A:qal)(c:Option (List AV))(L:Nat)(h:A.length=L):(A++[c]).take L=A:=by subst h;simp
theorem qlg(bs:List Int)(hl:bs.length<=1099511627776)(B:qal)(i:Nat)(h:qcy bs i B)(n:Int)(hn:0<n)(hn2:n<=256):∃(b:Bool) (B':qal),qcg bs i B B'/\qad XV 162 [.ptr i 0,.d (.int .i64 n)] B=some (.d (.bool b),B'):=by
 obtain⟨r,B',hr,hT,hc⟩:=qca bs hl B i h n hn hn2;have hi:=h.lt;have hlen:=hT.len;have htake:List.take B.length B'=B':=List.take_of_length_le (by omega);refine⟨r==0,B',hT,?_⟩;rw[qap XV _ _ _ qJ2 rfl qx9 rfl];simp[qJ2,qF1,qF0,hc,htake,hi]
theorem qor(f:Int)(ks:List T):qad XV 164 [.d (.int .i64 f),.d (qai .sub ks)] []=some (.d ((T.node f 0 ks).enc .sub),[]):=by
 rw[qap XV _ _ _ v164 rfl qx7 rfl];simp[v164,qFX,qFW,splice,qaa,qac,qaf,qar,qae]
theorem qyI{n:Nat}(h:n<9223372036854775808):IntKind.i64.wrap (((n+1:Nat):Int)-1)=n:=by
 rw[show((n+1:Nat):Int)-1=n by omega];exact wrap_i64 (by omega) (by omega)
def qlu:VCode:=(.seq (.seq (.region false 0 [0,2,6,20] qpN) (.cond (.t 20) (.seq (.region false 0 [6] qz4) .ret) .skip)) (.seq (.region false 0 [6] qtK) .ret))
def qsz:VCode:=(.seq (.region false 0 [0,1,2,6,7] qtJ) (.seq (.region false 0 [0,1,2,6,7,8] qtI) (.seq (.seq (.region false 0 [0,1,2,6,7,8,39] qtH) (.cond (.t 39) (.region false 0 [6,7,8] qtG) .skip)) (.seq (.region false 0 [6] qtF) .ret))))
def qiq:VCode:= .seq (.seq (.region false 0 [0,1,2,6,14] qmO) (.cond (.t 14) qlu .skip)) qsz
theorem qHS:qJ0=⟨3,[.cell 6 true 3],.seq (.region false 1 [0,1,2,6] qz5) qiq⟩:=rfl
theorem quE(bs:List Int)(hl:bs.length<=1099511627776)(deep vars:Int)(hv:vars<=256)(B:qal)(q:Nat)(h:qcy bs q B)(L:Nat)(hL:B.length=L)(C:Option (List AV))(hC:C=some [.d (.int .i64 0),.d (.int .i64 0),.d (.sl U [])]):
 ∃(t:T) (g:Tag) (B':qal),(t.inner=0/\t.rng)/\qcg bs q B B'/\B'.length=L/\
  qax XV (XV.lin 166) qlu ⟨[(0,.ptr q 0),(1,.d (.int .i64 deep)),(2,.d (.int .i64 vars)),(6,.ptr L 0),(14,.d (.bool true))],B++[C]⟩=
   some (.ret,⟨[(6,.ptr L 0)],B'++[some [.d (.int .i64 t.f),.d (.int .i64 t.v),.d (.sl g (t.kids.map (T.enc g)))]]⟩):=by
 subst hC;have hq:=h.lt;have leaf2:∀B1:qal,qcg bs q B B1->B1.length=L->∃(t:T) (g:Tag) (B':qal),(t.inner=0/\t.rng)/\qcg bs q B B'/\B'.length=L/\
  ∀b20:AV,qax XV (XV.lin 166) (.seq (.region false 0 [6] qtK) .ret) ⟨[(0,.ptr q 0),(2,.d (.int .i64 vars)),(6,.ptr L 0),(20,b20)],B1++[some [.d (.int .i64 0),.d (.int .i64 0),.d (.sl U [])]]⟩=
   some (.ret,⟨[(6,.ptr L 0)],B'++[some [.d (.int .i64 t.f),.d (.int .i64 t.v),.d (.sl g (t.kids.map (T.enc g)))]]⟩):=by
  intro B1 hT1 hL1;obtain⟨r,B2,hr,hT2,hc⟩:=qca bs hl _ q ((hT1.at hq).app [some [.d (.int .i64 0),.d (.int .i64 0),.d (.sl U [])]]) 2 (by omega) (by omega);obtain⟨B3,hT3,hL3,rfl⟩:=qb5 (by omega) hT2;rw[hL1]at hL3;have hw:IntKind.i64.wrap (1+r)=1+r:=wrap_i64 (by omega) (by omega);refine⟨.node (1+r) 0 [],U,B3,by simp[T.inner,T.inners,T.rng,T.rngs],hT1.trans hT3,hL3,fun b20=> ?_⟩;simp[qtK,hc,hw,hL3,qhr,qjf,splice,qaa,qac,qaf,qar]
 by_cases hv0:0<vars
 ·obtain⟨b,B2,hT2,hc⟩:=qlg bs hl _ q (h.app [some [.d (.int .i64 0),.d (.int .i64 0),.d (.sl U [])]]) 2 (by omega) (by omega)
  obtain⟨B3,hT3,hL3,rfl⟩:=qb5 hq hT2;cases b with
  |true=>
   obtain⟨r,B4,hr,hT4,hc4⟩:=qca bs hl _ q ((hT3.at hq).app [some [.d (.int .i64 0),.d (.int .i64 0),.d (.sl U [])]]) vars hv0 hv;obtain⟨B5,hT5,hL5,rfl⟩:=qb5 (by omega) hT4;have hlv:=quh r;rw[hL3,hL]at hL5;refine⟨.node (-1) r [],U,B5,by simp[T.inner,T.inners,T.rng,T.rngs];omega,hT3.trans hT5,hL5,?_⟩;simp[qlu,qpN,qz4,hv0,hc,hc4,hlv,hL5,qhr,qjf,splice,qaa,qac,qaf,qar]
  |false=>
   obtain⟨t,g,B',h1,h2,h3,h4⟩:=leaf2 B3 hT3 (by omega);refine⟨t,g,B',h1,h2,h3,?_⟩;have h4':=h4 (.d (.bool false));simp only[qls]at h4';simp[qlu,qpN,hv0,hc];simpa using h4'
 ·obtain⟨t,g,B',h1,h2,h3,h4⟩:=leaf2 B (by
   obtain⟨pos,st,hp,hb⟩:=h;refine⟨pos,st,hp,?_⟩;apply List.ext_getElem?;intro j
   by_cases hj:q=j
   ·subst hj;rw[List.getElem?_set_self',qc4 hb];simp
   ·rw[List.getElem?_set_ne hj]) hL
  refine⟨t,g,B',h1,h2,h3,?_⟩;have h4':=h4 (.d (.bool false));simp only[qls]at h4';simp[qlu,qpN,hv0];simpa using h4'
theorem qjU(L:Nat)(B B':qal)(q:Nat)(deep vars:Int)(t:T)(g:Tag)(hq:q<B.length)(hL:B.length=L)(hL':B'.length=L)
 (h:qax XV (XV.lin 166) qiq ⟨[(0,.ptr q 0),(1,.d (.int .i64 deep)),(2,.d (.int .i64 vars)),(6,.ptr L 0)],B++[some [.d (.int .i64 0),.d (.int .i64 0),.d (.sl U [])]]⟩=
  some (.ret,⟨[(6,.ptr L 0)],B'++[some [.d (.int .i64 t.f),.d (.int .i64 t.v),.d (.sl g (t.kids.map (T.enc g)))]]⟩)):
 qad XV 166 [.ptr q 0,.d (.int .i64 deep),.d (.int .i64 vars)] B=some (.d (t.enc g),B'):=by
 rw[qap XV _ _ _ qJ0 rfl qx5 rfl,qHS];simp only[qls]at h;obtain⟨f,v,ks⟩:=t;simp only[T.qbv,T.qcS,T.qaH]at h;simp[qz5,hL,qhr,qjf,hq];rw[h];simp[hL',qhr,qBR,qae]
theorem qgs(bs:List Int)(hl:bs.length<=1099511627776):∀(d:Nat),d<=8->∀(vars:Int),vars<=256->∀(B:qal) (q:Nat),qcy bs q B->
 ∃(t:T) (g:Tag) (B':qal),(t.inner+2<=2^(d+1)/\t.rng)/\qcg bs q B B'/\qad XV 166 [.ptr q 0,.d (.int .i64 d),.d (.int .i64 vars)] B=some (.d (t.enc g),B'):=by
 intro d
 induction d with
 |zero=>
  intro _ vars hv B q hs;obtain⟨t,g,B',h1,h2,h3,h4⟩:=quE bs hl 0 vars hv B q hs B.length rfl _ rfl;refine⟨t,g,B',⟨by omega,h1.2⟩,h2,qjU B.length B B' q 0 vars t g hs.lt rfl h3 ?_⟩;simp only[qls]at h4⊢
  simp[qiq,qmO];rw[h4];simp
 |succ d ih=>
  intro hd vars hv B q hs;have hq:=hs.lt;obtain⟨b,B2,hT2,hc⟩:=qlg bs hl _ q (hs.app [some [.d (.int .i64 0),.d (.int .i64 0),.d (.sl U [])]]) 3 (by omega) (by omega);obtain⟨B3,hT3,hL3,rfl⟩:=qb5 hq hT2;have hne:(((d+1:Nat):Int)==0)=false:=by simpa using (show¬(((d+1:Nat):Int)=0)by omega)
  cases b with
  |true=>
   obtain⟨t,g,B',h1,h2,h3,h4⟩:=quE bs hl ((d+1:Nat):Int) vars hv B3 q (hT3.at hq) B.length hL3 _ rfl;refine⟨t,g,B',⟨by have:2^1<=2^(d+1+1):=Nat.pow_le_pow_right (by omega) (by omega);omega,h1.2⟩,hT3.trans h2,qjU B.length B B' q _ vars t g hq rfl h3 ?_⟩;simp only[qls]at h4⊢
   generalize ((d+1:Nat):Int)=D at*
   simp[qiq,qmO,hne,hc];rw[h4];simp
  |false=>
   obtain⟨j,hj,B4,hT4,hc4⟩:=qd5 bs hl _ q ((hT3.at hq).app [some [.d (.int .i64 0),.d (.int .i64 0),.d (.sl U [])]]) [3,4,5,5,6] (by simp) (by simp);obtain⟨B5,hT5,hL5,rfl⟩:=qb5 (by omega) hT4;generalize ([3,4,5,5,6]:List Int)[j]=f at hc4;obtain⟨t1,g1,B6,hi1,hT6,hc6⟩:=ih (by omega) vars hv _ q ((hT5.at (by omega)).app [some [.d (.int .i64 0),.d (.int .i64 0),.d (.sl U [])]]);obtain⟨B7,hT7,hL7,rfl⟩:=qb5 (by omega) hT6;have hw:=qyI (n:=d) (by omega)
   by_cases hf:3<f
   ·obtain⟨t2,g2,B8,hi2,hT8,hc8⟩:=ih (by omega) vars hv _ q ((hT7.at (by omega)).app [some [.d (.int .i64 0),.d (.int .i64 0),.d (.sl U [])]])
    obtain⟨B9,hT9,hL9,rfl⟩:=qb5 (by omega) hT8;have hof:qad XV 164 [.d (.int .i64 f),.d (.sl .sub [t1.enc .sub,t2.enc .sub])] []=some (.d (.agg [.int .i64 f,.int .i64 0,.sl .sub [t1.enc .sub,t2.enc .sub]]),[]):=by
     have:=qor f [t1,t2];rw[T.qbP]at this;exact this
    refine⟨.node f 0 [t1,t2],.sub,B9,⟨by simp only[T.inner,T.inners,List.length_cons,List.length_nil];rw[Nat.pow_succ];omega,by simp[T.rng,T.rngs,hi1.2,hi2.2]⟩,hT3.trans (hT5.trans (hT7.trans hT9)),qjU B.length B B9 q _ vars _ .sub hq rfl (by omega) ?_⟩;have e9:B9.length=B.length:=by omega
    have e7:B7.length=B.length:=by omega
    have e5:B5.length=B.length:=by omega
    simp only[List.map_cons,List.map_nil]at hc4;generalize ((d+1:Nat):Int)=D at*
    generalize (d:Int)=D0 at*
    simp[qiq,qsz,qmO,qtJ,qtI,qtH,qtG,qtF,hne,hc,hc4,hw,hc6,hf,hc8,hof,e9,qaJ,List.replicate,qhr,qjf,splice,qaa,qac,qaf,qar,qa0]
   ·have hof:qad XV 164 [.d (.int .i64 f),.d (.sl .sub [t1.enc .sub])] []=some (.d (.agg [.int .i64 f,.int .i64 0,.sl .sub [t1.enc .sub]]),[]):=by
     have:=qor f [t1];rw[T.qbP]at this;exact this
    refine⟨.node f 0 [t1],.sub,B7,⟨by simp only[T.inner,T.inners,List.length_cons,List.length_nil];rw[Nat.pow_succ];omega,by simp[T.rng,T.rngs,hi1.2]⟩,hT3.trans (hT5.trans hT7),qjU B.length B B7 q _ vars _ .sub hq rfl (by omega) ?_⟩;have e7:B7.length=B.length:=by omega
    have e5:B5.length=B.length:=by omega
    simp only[List.map_cons,List.map_nil]at hc4;generalize ((d+1:Nat):Int)=D at*
    generalize (d:Int)=D0 at*
    simp[qiq,qsz,qmO,qtJ,qtI,qtH,qtG,qtF,hne,hc,hc4,hw,hc6,hf,hof,e7,qaJ,List.replicate,qhr,qjf,splice,qaa,qac,qaf,qar,qa0]
end Go.Proofs.Ytfiakfiocdfpbaa.VS
namespace Go.Proofs.Ytfiakfiocdfpbaa.VS
theorem qFw(s:List SymL)(f:Int)(k:T)(h:k.rng):T.rngs (qmb s f k):=by
 unfold qmb;split
 ·obtain⟨a,b,c⟩:=k;exact h.2
 ·exact⟨h,trivial⟩
theorem qnP{a b:List T}(h1:T.rngs a)(h2:T.rngs b):T.rngs (a++b):=by
 rw[T.qf0]at*
 intro t ht;rcases List.mem_append.1 ht with h|h
 ·exact h1 t h
 ·exact h2 t h
theorem qqC(s:List SymL)(f:Int):∀l:List T,T.rngs l->T.rngs (flatK s f l)
 | [],_=>by simp[flatK,T.rngs]
 |k::l,h=>by rw[qdK];exact qnP (qFw s f k h.1) (qqC s f l h.2)
mutual
theorem qoo(s:List SymL):∀t:T,t.rng->(t.norm s).rng
 | .node f v ks,h=>by
  have h2:=qqC s f _ (qqf s ks h.2);simp only[T.norm];split
  ·refine⟨h.1,?_⟩
   rw[T.qf0]at h2⊢
   exact fun t ht=>h2 t ((qcb _).mem_iff.1 ht)
  ·exact⟨h.1,h2⟩
theorem qqf(s:List SymL):∀l:List T,T.rngs l->T.rngs (T.norms s l)
 | [],_=>trivial
 |t::r,h=>⟨qoo s t h.1,qqf s r h.2⟩
end
theorem qd8(bs:List Int)(hl:bs.length<=1099511627776)(vars:Int)(hv:vars<=256)(B:qal)(q:Nat)(h:qcy bs q B):
 ∃(t:T) (B':qal),(t.inner<=6/\t.rng)/\(∃u,t=T.norm qdk u)/\qcg bs q B B'/\qad XV 163 [.ptr q 0,.d (.int .i64 vars)] B=some (.d (t.enc U),B'):=by
 have hq:=h.lt;obtain⟨t,g,B1,hi,hT,hc⟩:=qgs bs hl 2 (by omega) vars hv _ q (h.app [some [.d (.int .i64 0),.d (.int .i64 0),.d (.sl U [])]]);obtain⟨B2,hT2,hL2,rfl⟩:=qb5 hq hT;have hn:=qgk qdk (by decide) t (by omega);have hin:=qdd qdk t;refine⟨t.norm qdk,B2,⟨by omega,qoo qdk t hi.2⟩,⟨t,rfl⟩,hT2,?_⟩;rw[qap XV _ _ _ qJ1 rfl qx8 rfl];have hsg:=qjO;rw[qwv]at hn;have e:(t.norm qdk).enc U= .agg [.int .i64 t.f,.int .i64 t.v,.sl U (qCZ qdk t)]:=by rw[<-qwv];rfl
 rw[e];generalize qCZ qdk t=X at*
 have hc':qad XV 166 [AV.ptr q 0,AV.d (DV.int IntKind.i64 2),AV.d (DV.int IntKind.i64 vars)] (B++[some [AV.d (DV.int IntKind.i64 0),AV.d (DV.int IntKind.i64 0),AV.d (DV.sl U [])]])=some (AV.d (t.enc g),B2++[some [AV.d (DV.int IntKind.i64 0),AV.d (DV.int IntKind.i64 0),AV.d (DV.sl U [])]]):=hc;simp[qJ1,qFZ,qFY,hq,hsg,hc',hn,hL2,qhr,qjf,qBR,qae,splice,qaa,qac,qaf,qar]
end Go.Proofs.Ytfiakfiocdfpbaa.VS
namespace Go.Proofs.Ytfiakfiocdfpbaa.VS
def fc(l:List T):List DV:=l.flatMap fun t=>(t.enc U).cells
def fcs(l:List T):List DV:=l.flatMap fun t=>(t.enc .sub).cells
theorem qRD(l:List T):(l.map (T.enc U)).flatMap DV.cells=fc l:=by unfold fc;rw[List.flatMap_map]
theorem qih(t:T)(l:List T):fc (t::l)= .int .i64 t.f:: .int .i64 t.v:: .sl U (t.kids.map (T.enc U))::fc l:=by
 unfold fc;rw[List.flatMap_cons,T.qbP];rfl
theorem qho(t:T)(l:List T):fcs (t::l)= .int .i64 t.f:: .int .i64 t.v:: .sl .sub (t.kids.map (T.enc .sub))::fcs l:=by
 unfold fcs;rw[List.flatMap_cons,T.qbP];rfl
theorem qNO(a b:List T):fc (a++b)=fc a++fc b:=by unfold fc;simp
theorem qBz(a b:List T):fcs (a++b)=fcs a++fcs b:=by unfold fcs;simp
theorem qqG:∀l:List T,(fc l).map DV.clr=fcs l
 | []=>rfl
 |t::l=>by rw[qih,qho,List.map_cons,List.map_cons,List.map_cons,qqG l];simp
theorem qgc:∀l:List T,(fc l).length=l.length*3
 | []=>rfl
 |t::l=>by rw[qih];simp[qgc l];omega
theorem qBy:∀l:List T,(fcs l).length=l.length*3
 | []=>rfl
 |t::l=>by rw[qho];simp[qBy l];omega
theorem qhj(f:AV->Option DV):∀(a b:List AV) {x y:List DV},qd6 f a=some x->qd6 f b=some y->qd6 f (a++b)=some (x++y)
 | [],b,x,y,h1,h2=>by simp[qd6]at h1;subst h1;simpa using h2
 |v::a,b,x,y,h1,h2=>by
  simp only[qd6]at h1;obtain⟨d,e1,h1⟩:=Option.bind_eq_some_iff.1 h1;obtain⟨x',e2,rfl⟩:=Option.map_eq_some_iff.1 h1;simp only[List.cons_append,qd6,e1,qhj f a b e2 h2,Option.bind_some,Option.map_some]
theorem qm1(M:qal)(n:Nat):∀l:List DV,qd6 (AV.frzC M n) (l.map .d)=some l
 | []=>rfl
 |d::l=>by
  simp only[List.map_cons,qd6,qGZ,qm1 M n l,Option.bind_some,Option.map_some]
theorem qlW{d:DV}{k:IntKind}{n:Int}(h:d.clr= .int k n):d= .int k n:=by
 cases d<;>simp[DV.clr]at h⊢<;>exact h
theorem qw9{d:DV}{l:List DV}(h:d.clr= .sl .sub l):∃g xs,d= .sl g xs/\DV.clrs xs=l:=by
 cases d<;>simp[DV.clr]at h
 exact⟨_,_,rfl,h⟩
theorem qsu{t:T}{l:List T}{ds:List DV}(h:ds.map DV.clr=fcs (t::l)):∃g xs r,ds= .int .i64 t.f:: .int .i64 t.v:: .sl g xs::r/\DV.clrs xs=t.kids.map (T.enc .sub)/\r.map DV.clr=fcs l:=by
 rw[qho]at h
 match ds,h with
 | [],h=>simp at h
 | [_],h=>simp at h
 | [_,_],h=>simp at h
 |d0::d1::d2::r,h=>
  simp only[List.map_cons,List.cons.injEq]at h;obtain⟨h0,h1,h2,h3⟩:=h;obtain⟨g,xs,rfl,hx⟩:=qw9 h2;exact⟨g,xs,r,by rw[qlW h0,qlW h1],hx,h3⟩
theorem quA:∀(l:List T) (ds:List DV),ds.map DV.clr=fcs l->ds.all DV.isCell=true
 | [],ds,h=>by
  have:ds=[]:=by simpa[fcs]using h
  subst this;rfl
 |t::l,ds,h=>by
  obtain⟨g,xs,r,rfl,hx,hr⟩:=qsu h;simp[qaa,qac];simpa using quA l r hr
theorem qm6:∀(l:List T) (ds:List DV),ds.map DV.clr=fcs l->∃xs,chunks true 3 l.length ds=some xs/\xs.map DV.clr=l.map (T.enc .sub)
 | [],ds,h=>⟨[],rfl,rfl⟩
 |t::l,ds,h=>by
  obtain⟨g,xs,r,rfl,hx,hr⟩:=qsu h;obtain⟨ys,h1,h2⟩:=qm6 l r hr;refine⟨.agg [.int .i64 t.f,.int .i64 t.v,.sl g xs]::ys,?_,?_⟩
  ·simp[chunks,cut,qaa,qac,h1,DV.cells]
  ·rw[List.map_cons,List.map_cons,h2,T.qbP]
   simp only[DV.clr,DV.clrs,hx]
theorem qJO(B:qal)(i:Nat)(h:2<=i):qa3 (qct 2 B) i=qa3 B i:=by
 unfold qa3 qct;rw[List.getElem?_append_right (by simp;exact h),List.length_replicate,List.getElem?_drop,show 2+(i-2)=i by omega]
def Ctx(j:Nat)(B:qal)(A D:List T)(N:Nat):Prop:=
 ∀(B':qal) (cs:List AV) (u:T) (ds:List DV),B'.length=6->(∀i,j<i->B'[i]?=B[i]?)->B'[j]?=some (some cs)->qd6 (AV.frzC (qct 2 B') (j+1)) cs=some ds->ds.map DV.clr=fcs (A++u::D)->
  ∃(c5:List AV) (ds5:List DV) (t':T),B'[5]?=some (some c5)/\qd6 (AV.frzC (qct 2 B') 6) c5=some ds5/\ds5.map DV.clr=fcs [t']/\t'.inner<=N+u.inner/\(u.rng->t'.rng)
theorem Ctx.base(B:qal):Ctx 5 B [] [] 0:=fun B' cs u ds h1 h2 h3 h4 h5=>⟨cs,ds,u,h3,h4,h5,by omega,id⟩
theorem qfT:∀a b:List T,T.inners (a++b)=T.inners a+T.inners b
 | [],b=>by simp[T.inners]
 |t::a,b=>by simp only[List.cons_append,T.inners,qfT a b];omega
theorem Ctx.step{j:Nat}{B B1:qal}{A D A' D':List T}{N m:Nat}{f v:Int}(hj:2<=j)(h:Ctx (j+1) B A D N)(hag:∀i,j+1<i->B1[i]?=B[i]?)
 (hat:B1[j+1]?=some (some ((fc A).map .d++([.d (.int .i64 f),.d (.int .i64 v),.tsl true j 3 m]++(fc D).map .d)))) (hm:A'.length+1+D'.length=m) (hv: -9223372036854775808<=v/\v<=9223372036854775807) (hA:T.rngs A') (hD:T.rngs D'):Ctx j B1 A' D' (N+(m+T.inners A'+T.inners D')):=by
 intro B' cs u ds h1 h2 h3 h4 h5;have hlen:ds.length=m*3:=by
  have:=congrArg List.length h5;rw[List.length_map,qBy]at this;rw[this];simp only[List.length_append,List.length_cons];rw[<-hm];congr 1;omega
 obtain⟨xs,hx1,hx2⟩:=qm6 _ _ h5;have hm':(A'++u::D').length=m:=by simp only[List.length_append,List.length_cons];omega
 rw[hm']at hx1;have htsl:AV.frzC (qct 2 B') (j+1+1) (.tsl true j 3 m)=some (.sl .sub xs):=by
  simp only[AV.frzC];rw[qJO _ _ hj];simp only[qa3,h3,Option.bind_some,h4,hlen,if_true,hx1,Option.map_some]
 have hmid:qd6 (AV.frzC (qct 2 B') (j+1+1)) [.d (.int .i64 f),.d (.int .i64 v),.tsl true j 3 m]=some [.int .i64 f,.int .i64 v,.sl .sub xs]:=by
  simp only[qd6,htsl,qGZ,Option.bind_some,Option.map_some]
 have hfr:=qhj _ _ _ (qm1 (qct 2 B') (j+1+1) (fc A)) (qhj _ _ _ hmid (qm1 (qct 2 B') (j+1+1) (fc D)));have hclr:(fc A++([DV.int .i64 f,DV.int .i64 v,DV.sl .sub xs]++fc D)).map DV.clr=fcs (A++(T.node f v (A'++u::D'))::D):=by
  rw[List.map_append,List.map_append,qqG,qqG,qBz,qho];simp only[List.map_cons,List.map_nil,DV.clr,DV.qav,hx2,T.qbv,T.qcS,T.qaH,List.cons_append,List.nil_append]
 obtain⟨c5,ds5,t',e1,e2,e3,e4,e4r⟩:=h B' _ _ _ h1 (fun i hi=>by rw[h2 i (by omega),hag i hi]) (by rw[h2 (j+1) (by omega),hat]) hfr hclr;refine⟨c5,ds5,t',e1,e2,e3,?_,fun hu=>e4r ⟨hv,qnP hA ⟨hu,hD⟩⟩⟩;have e5:(T.node f v (A'++u::D')).inner=m+(T.inners A'+(u.inner+T.inners D')):=by rw[T.qhG,T.qaH,hm',qfT];rfl
 omega
end Go.Proofs.Ytfiakfiocdfpbaa.VS
namespace Go.Proofs.Ytfiakfiocdfpbaa.VS
def qda(A:List T)(x0 x1 x2:AV)(D:List T):List AV:=(fc A).map .d++([x0,x1,x2]++(fc D).map .d)
theorem qdz(A:List T)(x0 x1 x2:AV)(D:List T):(qda A x0 x1 x2 D).length=A.length*3+3+D.length*3:=by
 unfold qda;simp[qgc];omega
theorem qta(A:List T)(x0 x1 x2:AV)(D:List T):(qda A x0 x1 x2 D)[A.length*3+2]?=some x2:=by
 unfold qda;rw[List.getElem?_append_right (by simp[qgc])];simp[qgc]
theorem qzd(A:List T)(x0 x1 x2 y:AV)(D:List T):(qda A x0 x1 x2 D).set (A.length*3+2) y=qda A x0 x1 y D:=by
 unfold qda;rw[List.set_append_right _ _ (by simp[qgc])];simp[qgc]
theorem qIb(A:List T)(x0 x1 x2 y:AV)(D:List T):(qda A x0 x1 x2 D).set (A.length*3) y=qda A y x1 x2 D:=by
 unfold qda;rw[List.set_append_right _ _ (by simp[qgc])];simp[qgc]
theorem qIa(A:List T)(x0 x1 x2 y:AV)(D:List T):(qda A x0 x1 x2 D).set (A.length*3+1) y=qda A x0 y x2 D:=by
 unfold qda;rw[List.set_append_right _ _ (by simp[qgc])];simp[qgc]
theorem qhN{cs:List AV}{k:Nat}(h:k<cs.length)(y:AV):splice cs k [y]=cs.set k y:=by
 unfold splice;rw[List.set_eq_take_append_cons_drop,if_pos h];simp
theorem qId(A:List T)(x0 x1 x2 y:AV)(D:List T):splice (qda A x0 x1 x2 D) (A.length*3) [y]=qda A y x1 x2 D:=by
 rw[qhN (by rw[qdz];omega),qIb]
theorem qIc(A:List T)(x0 x1 x2 y:AV)(D:List T):splice (qda A x0 x1 x2 D) (A.length*3+1) [y]=qda A x0 y x2 D:=by
 rw[qhN (by rw[qdz];omega),qIa]
theorem qze(A:List T)(x0 x1 x2 y:AV)(D:List T):splice (qda A x0 x1 x2 D) (A.length*3+2) [y]=qda A x0 x1 y D:=by
 rw[qhN (by rw[qdz];omega),qzd]
def TR(rs:List DV):Prop:=rs.all (fun r=> !(DV.int .u8 0).like r)=true
theorem qOv:∀l:List T,TR (fc l)
 | []=>rfl
 |t::l=>by
  have:=qOv l;unfold TR at this⊢
  rw[qih];simp only[List.all_cons,this,Bool.and_true];rfl
mutual
theorem qEm(rs:List DV):∀t:T,DV.xrest rs (t.enc U)=true
 | .node f v ks=>by
  rw[T.qbP];simp only[qo0,qgh,qoY,qxN,qhK,Bool.and_true,Bool.true_and,T.qaH];exact qcX rs ks
theorem qcX(rs:List DV):∀l:List T,DV.xrests rs (l.map (T.enc U))=true
 | []=>by simp only[List.map_nil,qhK]
 |t::l=>by simp only[List.map_cons,qgh,qEm rs t,qcX rs l,Bool.and_true]
end
theorem qzj(rs:List DV):∀l:List T,DV.xrests rs (fc l)=true
 | []=>by simp[fc]
 |t::l=>by rw[qih];simp[qcX,qzj rs l]
theorem qfV(rs:List DV):∀l:List T,qbC rs ((fc l).map .d)=true
 | []=>by simp[fc]
 |t::l=>by rw[qih];simp[qcX,qfV rs l]
theorem qhu(rs:List DV)(a b:List AV):qbC rs (a++b)=(qbC rs a&&qbC rs b):=by simp[qbC]
theorem qhC(rs:List DV)(B:qal)(i:Nat)(cs:List AV)(h:qa2 rs B=true)(hc:qbC rs cs=true):qa2 rs (B.set i (some cs))=true:=by
 unfold qa2 at h⊢
 rw[List.all_eq_true]at h⊢
 intro x hx;rcases List.mem_or_eq_of_mem_set hx with h1|h1
 ·exact h x h1
 ·subst h1;exact hc
structure WS(bs:List Int)(j k:Nat)(B:qal)(A D:List T)(f v:Int)(ks:List T)(N:Nat):Prop where
 jk:j+k=5
 j2:2<=j
 len:B.length=6
 seed:qcy bs 0 B
 one:B[1]?=some (some [.d (.int .i64 0),.d (.int .i64 0),.d (.sl U [])])
 free:∀i,2<=i->i<j->B[i]?=some none
 at_:B[j]?=some (some (qda A (.d (.int .i64 f)) (.d (.int .i64 v)) (.d (.sl U (ks.map (T.enc U)))) D))
 rest:∀rs,TR rs->qa2 rs B=true
 ctx:Ctx j B A D N
 siz:N+(T.node f v ks).inner<=6
 rg:(T.node f v ks).rng
theorem WS.turn{bs:List Int}{j k:Nat}{B:qal}{A D:List T}{f v:Int}{ks:List T}{N:Nat}(h:WS bs j k B A D f v ks N){B':qal}(hT:qcg bs 0 B B'):WS bs j k B' A D f v ks N:=by
 have h0:=hT.at (by rw[h.len];omega);obtain⟨pos,st,hp,rfl⟩:=hT;have e:∀i,1<=i->(B.set 0 (some (qa9 bs pos st)))[i]?=B[i]?:=fun i hi=>by rw[List.getElem?_set_ne (by omega)]
 have hj:=h.j2;refine⟨h.jk,h.j2,by simp[h.len],h0,by rw[e 1 (by omega)];exact h.one,fun i h1 h2=>by rw[e i (by omega)];exact h.free i h1 h2,by rw[e j (by omega)];exact h.at_,fun rs hr=>qhC rs B 0 _ (h.rest rs hr) (qfJ rs hr bs pos st),?_,h.siz,h.rg⟩;intro B' cs u ds h1 h2;exact h.ctx B' cs u ds h1 (fun i hi=>by rw[h2 i hi,e i (by omega)])
theorem qNM{bs:List Int}{j k:Nat}{B:qal}{A D:List T}{f v:Int}{ks:List T}{N:Nat}(h:WS bs (j+1) k B A D f v ks N)(hk:0<ks.length)(hj:2<=j)(x5 x22:DV)(h5:∀rs,DV.xrest rs x5=true):
 qrf (.focC 4 2 [0,2,3,4,5]) ⟨[(0,.ptr 0 0),(2,.ptr 1 0),(3,.ptr 5 0),(4,.ptr (j+1) (A.length*3)),(5,.d x5),(22,.d x22)],B⟩=
  some ⟨[(0,.ptr 0 0),(2,.ptr 1 0),(3,.ptr 5 0),(4,.ptr (j+1) (A.length*3)),(5,.d x5)],(B.set (j+1) (some (qda A (.d (.int .i64 f)) (.d (.int .i64 v)) (.tsl true j 3 ks.length) D))).set j (some ((fc ks).map .d))⟩:=by
 have hat:=h.at_;have hfree:=h.free j hj (by omega);have hr:=h.rest (fc ks) (qOv ks);have hc:qbC (fc ks) (qda A (.d (.int .i64 f)) (.d (.int .i64 v)) (.tsl true j 3 ks.length) D)=true:=by
  unfold qda;rw[qhu,qhu,qfV,qfV];simp
 have hb:=qhC (fc ks) B (j+1) _ hr hc;have hx:=qzj (fc ks) ks;have hg:=qta A (.d (.int .i64 f)) (.d (.int .i64 v)) (.d (.sl U (ks.map (T.enc U)))) D;have hs:=qzd A (.d (.int .i64 f)) (.d (.int .i64 v)) (.d (.sl U (ks.map (T.enc U)))) (.tsl true j 3 ks.length) D;have hlen:(ks.map (T.enc U)).length=ks.length:=by simp
 cases ks with
 |nil=>simp at hk
 |cons k0 kr=>
  have hfc:(T.enc U k0::kr.map (T.enc U)).flatMap DV.cells=fc (k0::kr):=by rw[<-qRD];rfl
  have hag:qba (k0.enc U)=true:=by rw[T.qbP];rfl
  have hcl:(k0.enc U).cells.length=3:=by simp
  have hbg:qa3 B (j+1)=some (qda A (.d (.int .i64 f)) (.d (.int .i64 v)) (.d (.sl U (T.enc U k0::kr.map (T.enc U)))) D):=by simp only[qa3,hat,List.map_cons]
  simp only[List.map_cons]at hg hs hlen;have hw:xFc 2 [0,2,3,4,5] ⟨[(0,.ptr 0 0),(2,.ptr 1 0),(3,.ptr 5 0),(4,.ptr (j+1) (A.length*3)),(5,.d x5),(22,.d x22)],B⟩ j (A.length*3) (qda A (.d (.int .i64 f)) (.d (.int .i64 v)) (.d (.sl U (T.enc U k0::kr.map (T.enc U)))) D) (some (.d (.sl U (T.enc U k0::kr.map (T.enc U)))))=
   some ⟨[(0,.ptr 0 0),(2,.ptr 1 0),(3,.ptr 5 0),(4,.ptr (j+1) (A.length*3)),(5,.d x5)],(B.set (j+1) (some (qda A (.d (.int .i64 f)) (.d (.int .i64 v)) (.tsl true j 3 (k0::kr).length) D))).set j (some ((fc (k0::kr)).map .d))⟩:=by
   rw[qBj,hfc,hag,hcl,show(kr.map (T.enc U)).length+1=(k0::kr).length from by simp,hs,if_pos ⟨by simp[qb4,hfree],by simp[keep,lk,h5],hb,hx⟩];rfl
  rw[qGY];simp only[lk,Nat.reduceEqDiff,if_false,if_true];rw[qBk,hbg,Option.bind_some,hg];exact hw
end Go.Proofs.Ytfiakfiocdfpbaa.VS
namespace Go.Proofs.Ytfiakfiocdfpbaa.VS
theorem qeQ(bs:List Int)(pos st:Int):qaC (qa9 bs pos st)=some [.sl .sub (bs.map (.int .u8)),.int .i64 pos,.int .i64 st]:=by simp[qa9]
theorem qf7{B:qal}{i j:Nat}{c:Option (List AV)}(h:i≠j):(B.set i c)[j]?=B[j]?:=by rw[List.getElem?_set_ne h]
theorem qEk{ks:List T}{r:Nat}(h:r<ks.length):(fc ks).map AV.d=qda (ks.take r) (.d (.int .i64 (tAt ks r).f)) (.d (.int .i64 (tAt ks r).v)) (.d (.sl U ((tAt ks r).kids.map (T.enc U)))) (ks.drop (r+1)):=by
 have e:ks=ks.take r++tAt ks r::ks.drop (r+1):=by
  conv=>lhs;rw[<-List.take_append_drop r ks,List.drop_eq_getElem_cons h,qaF h]
 conv=>lhs;rw[e,qNO,qih]
 unfold qda;simp
theorem qRz(bs:List Int)(hl:bs.length<=1099511627776){j k:Nat}{B:qal}{A D:List T}{f v:Int}{ks:List T}{N:Nat}(h:WS bs (j+1) k B A D f v ks N)(hk:0<ks.length)(hj:2<=j):
 ∃(B':qal) (A' D':List T) (f' v':Int) (ks':List T) (N':Nat),WS bs j (k+1) B' A' D' f' v' ks' N'/\
  qax XV (XV.lin 161) (.seq (.block 1 (.ghost (.focC 4 2 [0,2,3,4,5]) (.region true 0 [0,2,3,4,5] qpO))) (.region false 0 [0,2,3,4,5] qtL)) ⟨[(0,.ptr 0 0),(2,.ptr 1 0),(3,.ptr 5 0),(4,.ptr (j+1) (A.length*3)),(5,.d (.int .i64 k)),(22,.d (.bool true))],B⟩=
   some (.normal,⟨[(0,.ptr 0 0),(2,.ptr 1 0),(3,.ptr 5 0),(4,.ptr j (A'.length*3)),(5,.d (.int .i64 ((k+1:Nat):Int)))],B'⟩):=by
 have hfo:=qNM h hk hj (.int .i64 k) (.bool true) (fun rs=>by simp);have hlen:=h.len;have hjk:=h.jk;obtain⟨pos,st,hp,hb0⟩:=h.seed;have hb0':=qc4 hb0;have hs1:qcy bs 0 [some (qa9 bs pos st)]:=⟨pos,st,hp,rfl⟩;have hsz:=h.siz;rw[T.qde]at hsz;have hcn:=qdC ks;obtain⟨r,B1,hr,⟨pos1,st1,hp1,rfl⟩,hc⟩:=qca bs hl _ 0 hs1 ks.length (by omega) (by omega);simp only[List.set_cons_zero]at hc;have hrl:r.toNat<ks.length:=by omega
 have hw:=qan (n:=k) (by omega);generalize hR:qda A (.d (.int .i64 f)) (.d (.int .i64 v)) (.tsl true j 3 ks.length) D=R at hfo;have hR2:R[A.length*3+2]?=some (.tsl true j 3 ks.length):=by rw[<-hR];exact qta _ _ _ _ _
 have hRl:A.length*3+2<R.length:=by rw[<-hR,qdz];omega
 have g0:((B.set (j+1) (some R)).set j (some ((fc ks).map .d)))[0]?=some (some (qa9 bs pos st)):=by rw[qf7 (by omega),qf7 (by omega)];exact hb0'
 have g1:((B.set (j+1) (some R)).set j (some ((fc ks).map .d)))[j+1]?=some (some R):=by rw[qf7 (by omega),List.getElem?_set_self (by omega)]
 have g2:((B.set (j+1) (some R)).set j (some ((fc ks).map .d))).length=6:=by simp[hlen]
 have gj:((B.set (j+1) (some R)).set j (some ((fc ks).map .d)))[j]?=some (some ((fc ks).map .d)):=by rw[List.getElem?_set_self (by simp;omega)]
 have gi:∀i,i≠j->i≠j+1->((B.set (j+1) (some R)).set j (some ((fc ks).map .d)))[i]?=B[i]?:=fun i h1 h2=>by rw[qf7 (Ne.symm h1),qf7 (Ne.symm h2)]
 have grest:∀rs,TR rs->qa2 rs ((B.set (j+1) (some R)).set j (some ((fc ks).map .d)))=true:=fun rs hrs=>by
  refine qhC _ _ _ _ (qhC _ _ _ _ (h.rest rs hrs) ?_) (qfV rs ks);rw[<-hR];unfold qda;rw[qhu,qhu,qfV,qfV];simp
 generalize hB2:(B.set (j+1) (some R)).set j (some ((fc ks).map .d))=B2 at*
 have hn6:¬6<=j+1:=by omega
 have g0':∀h:0<B2.length,B2[0]'h=some (qa9 bs pos st):=fun h=>(List.getElem?_eq_some_iff.1 g0).2
 have hR3:∀h:A.length*3+2<R.length,R[A.length*3+2]'h= .tsl true j 3 ks.length:=fun h=>(List.getElem?_eq_some_iff.1 hR2).2
 have hmin:min r.toNat ks.length=r.toNat:=by omega
 have hsd:=qeQ bs pos st;have hsd1:=qeQ bs pos1 st1;have hcl:=qbp bs pos st;have hcl1:=qbp bs pos1 st1;generalize qa9 bs pos st=S0 at*
 refine⟨B2.set 0 (some (qa9 bs pos1 st1)),ks.take r.toNat,ks.drop (r.toNat+1),(tAt ks r.toNat).f,(tAt ks r.toNat).v,(tAt ks r.toNat).kids,N+(ks.length+T.inners (ks.take r.toNat)+T.inners (ks.drop (r.toNat+1))),?_,?_⟩
 ·have e:ks=ks.take r.toNat++tAt ks r.toNat::ks.drop (r.toNat+1):=by
   conv=>lhs;rw[<-List.take_append_drop r.toNat ks,List.drop_eq_getElem_cons hrl,qaF hrl]
  refine⟨by omega,hj,by simp[g2],⟨pos1,st1,hp1,quU (by omega)⟩,by rw[qf7 (by omega),gi 1 (by omega) (by omega)];exact h.one,fun i h1 h2=>by rw[qf7 (by omega),gi i (by omega) (by omega)];exact h.free i h1 (by omega),by rw[qf7 (by omega),gj];exact congrArg (some∘some) (qEk hrl),fun rs hrs=>qhC _ _ _ _ (grest rs hrs) (qfJ rs hrs bs pos1 st1),?_,?_,?_⟩
  ·refine Ctx.step hj h.ctx (fun i hi=>by rw[qf7 (by omega),gi i (by omega) (by omega)]) (by rw[qf7 (by omega),g1,<-hR];rfl) ?_ h.rg.1 ?_ ?_
   ·have:=congrArg List.length e
    simp only[List.length_append,List.length_cons]at this;omega
   ·have:=h.rg.2;rw[T.qf0]at this⊢;exact fun t ht=>this t (List.mem_of_mem_take ht)
   ·have:=h.rg.2;rw[T.qf0]at this⊢;exact fun t ht=>this t (List.mem_of_mem_drop ht)
  ·have e2:T.inners ks=T.inners (ks.take r.toNat)+((tAt ks r.toNat).inner+T.inners (ks.drop (r.toNat+1))):=by
    conv=>lhs;rw[e,qfT]
    rfl
   have e3:(T.node (tAt ks r.toNat).f (tAt ks r.toNat).v (tAt ks r.toNat).kids).inner=(tAt ks r.toNat).inner:=by cases tAt ks r.toNat;rfl
   have e4:(T.node f v ks).inner=ks.length+T.inners ks:=by rw[T.qhG,T.qaH]
   have:=h.siz;omega
  ·have:=h.rg.2
   rw[T.qf0]at this;have h3:=this _ (qaK hrl);generalize tAt ks r.toNat=x at h3;cases x;exact h3
 ·generalize qa9 bs pos1 st1=S1 at*
  simp only[qAQ];simp only[qdW,qxG,qrj,hfo,Option.bind_some];simp[qOe,qtL,g2,g0,g1,gj,hR2,hRl,hsd,hsd1,hcl,hcl1,hc,hr.1,hr.2,hw,hn6,qae,hR3,hmin,g0',quP]
end Go.Proofs.Ytfiakfiocdfpbaa.VS
namespace Go.Proofs.Ytfiakfiocdfpbaa.VS
theorem qIQ(bs:List Int)(hl:bs.length<=1099511627776):∀(n j k:Nat) (B:qal) (A D:List T) (f v:Int) (ks:List T) (N:Nat),n+2=j->WS bs j k B A D f v ks N->
 ∀s0,qah 6 [0,2,3,4,5] s0=some ⟨[(0,.ptr 0 0),(2,.ptr 1 0),(3,.ptr 5 0),(4,.ptr j (A.length*3)),(5,.d (.int .i64 k))],B⟩->
 ∃(j' k':Nat) (B':qal) (A' D':List T) (f' v':Int) (ks':List T) (N':Nat),WS bs j' k' B' A' D' f' v' ks' N'/\
  qbm XV (XV.lin 161) 6 [0,2,3,4,5] ql5 s0=some (.exit 0,⟨[(0,.ptr 0 0),(2,.ptr 1 0),(3,.ptr 5 0),(4,.ptr j' (A'.length*3)),(5,.d (.int .i64 k')),(22,.d (.bool false))],B'⟩):=by
 intro n
 induction n with
 |zero=>
  intro j k B A D f v ks N hn h s0 h0;refine⟨j,k,B,A,D,f,v,ks,N,h,qaR h0 ?_ (by simp)⟩;have hjk:=h.jk;have hk:¬((k:Int)<3):=by omega
  simp[ql5,qmP,hk]
 |succ n ih=>
  intro j k B A D f v ks N hn h s0 h0;have hjk:=h.jk;have hk:(k:Int)<3:=by omega
  have hat:=h.at_;have hrow:=qta A (.d (.int .i64 f)) (.d (.int .i64 v)) (.d (.sl U (ks.map (T.enc U)))) D;generalize hR:qda A (.d (.int .i64 f)) (.d (.int .i64 v)) (.d (.sl U (ks.map (T.enc U)))) D=R at*
  have hRl:A.length*3+2<R.length:=by rw[<-hR,qdz];omega
  have hR3:∀h:A.length*3+2<R.length,R[A.length*3+2]'h= .d (.sl U (ks.map (T.enc U))):=fun h=>(List.getElem?_eq_some_iff.1 hrow).2
  have hBl:j<B.length:=by rw[h.len];omega
  have hB3:∀h:j<B.length,B[j]'h=some R:=fun h=>(List.getElem?_eq_some_iff.1 hat).2
  by_cases hks:0<ks.length
  ·obtain⟨b,B1,hT,hc⟩:=qlg bs hl B 0 h.seed 2 (by omega) (by omega)
   have h1:=h.turn hT;cases b with
   |true=>
    refine⟨j,k,B1,A,D,f,v,ks,N,h1,qaR h0 ?_ (by simp)⟩;simp[ql5,qmP,hk,hks,hc,hBl,hB3,hRl,hR3,qae]
   |false=>
    subst hn;obtain⟨B',A',D',f',v',ks',N',hW,hgo⟩:=qRz bs hl h1 hks (by omega);obtain⟨j',k',B'',A'',D'',f'',v'',ks'',N'',hW2,hl2⟩:=ih (n+2) (k+1) B' A' D' f' v' ks' N' rfl hW ⟨[(0,.ptr 0 0),(2,.ptr 1 0),(3,.ptr 5 0),(4,.ptr (n+2) (A'.length*3)),(5,.d (.int .i64 ((k+1:Nat):Int)))],B'⟩ (qcf (e:=[]) (by simp) (by simp[qab];omega) hW.len (by simp));refine⟨j',k',B'',A'',D'',f'',v'',ks'',N'',hW2,?_⟩;rw[<-hl2];refine qbs h0 ?_;rw[<-hgo];generalize hG:VCode.seq (.block 1 (.ghost (.focC 4 2 [0,2,3,4,5]) (.region true 0 [0,2,3,4,5] qpO))) (.region false 0 [0,2,3,4,5] qtL)=G;rw[show ql5= .seq (.seq (.region false 0 [0,2,3,4,5,22] qmP) (.cond (.t 22) .skip (.exit 0))) G from by rw[<-hG];rfl];simp[qmP,hk,hks,hc,hBl,hB3,hRl,hR3,qae]
  ·refine⟨j,k,B,A,D,f,v,ks,N,h,qaR h0 ?_ (by simp)⟩
   have hk0:ks.length=0:=by omega
   simp[ql5,qmP,hk,hk0,hBl,hB3,hRl,hR3,qae]
end Go.Proofs.Ytfiakfiocdfpbaa.VS
namespace Go.Proofs.Ytfiakfiocdfpbaa.VS
theorem WS.read{bs:List Int}{j k:Nat}{B:qal}{A D:List T}{f v:Int}{ks:List T}{N:Nat}(h:WS bs j k B A D f v ks N){B':qal}(hl:B'.length=6)(hi:∀i,j<i->B'[i]?=B[i]?)(u:T)(g:Tag)(X:List DV)(hX:X.map DV.clr=u.kids.map (T.enc .sub))
 (hj:B'[j]?=some (some (qda A (.d (.int .i64 u.f)) (.d (.int .i64 u.v)) (.d (.sl g X)) D))):
 ∃(c5:List AV) (ds5:List DV) (t':T),B'[5]?=some (some c5)/\qd6 (AV.frzC (qct 2 B') 6) c5=some ds5/\ds5.map DV.clr=fcs [t']/\t'.inner<=N+u.inner/\(u.rng->t'.rng):=by
 refine h.ctx B' _ u (fc A++([.int .i64 u.f,.int .i64 u.v,.sl g X]++fc D)) hl hi hj ?_ ?_
 ·unfold qda
  exact qhj _ _ _ (qm1 _ _ _) (qhj _ _ _ (qm1 _ _ [.int .i64 u.f,.int .i64 u.v,.sl g X]) (qm1 _ _ _))
 ·rw[List.map_append,List.map_append,qqG,qqG,qBz,qho]
  simp only[List.map_cons,List.map_nil,DV.clr,DV.qav,hX,List.cons_append,List.nil_append]
theorem qNN(B:qal)(S0 Z:Option (List AV))(z0 z1 z2:AV)(hlen:B.length=6)(h0:B[0]?=some S0)(h1:B[1]?=some (some [z0,z1,z2]))(r:List (Nat×AV))(h2:lk r 2=some (.ptr 1 0))(h3:lk r 3=some (.ptr 5 0))(t:T)(c5:List AV)(ds5:List DV)
 (e1:B[5]?=some (some c5)) (e2:qd6 (AV.frzC (qct 2 B) 6) c5=some ds5) (e3:ds5.map DV.clr=fcs [t]):
 ∃C,qax XV (XV.lin 161) (.seq (.ghost (.frzB 3 2 [2]) (.region false 0 [2] qof)) .ret) ⟨r,B⟩=some (.ret,⟨[(2,.ptr 1 0)],[S0,some [.d (.int .i64 t.f),.d (.int .i64 t.v),.d (qai .sub t.kids)],C]⟩):=by
 have hk:keep r [2]=[(2,.ptr 1 0)]:=by simp[keep,h2]
 have htk:B.take 2=[S0,some [z0,z1,z2]]:=by
  match B,hlen with
  | [b0,b1,b2,b3,b4,b5],_=>simp at h0 h1⊢;exact⟨h0,h1⟩
 obtain⟨g,xs,r',rfl,hx,hr⟩:=qsu e3;have hr0:r'=[]:=by simpa[fcs]using hr
 subst hr0;have hcell:=quA _ _ e3;have hbg:qa3 B 5=some c5:=by simp only[qa3,e1]
 refine⟨some [.d (.int .i64 t.f),.d (.int .i64 t.v),.d (qai .sub t.kids)],?_⟩;have hx':xs.map DV.clr=t.kids.map (T.enc .sub):=by rw[<-DV.qav];exact hx
 have hgh:qrf (.frzB 3 2 [2]) ⟨r,B⟩=some ⟨[(3,.ptr 2 0),(2,.ptr 1 0)],[S0,some [z0,z1,z2],some [.d (.int .i64 t.f),.d (.int .i64 t.v),.d (qai .sub t.kids)]]⟩:=by
  rw[qGX];simp only[h3];rw[qBi,if_pos ⟨by omega,by simp,by rw[hk];simp[qab],by omega⟩,hbg,Option.bind_some,hlen,e2,Option.bind_some,if_pos hcell,hk,htk];simp[hx']
 simp only[qdW,qrj,hgh,Option.bind_some];simp[qof,splice,qaa,qac,qaf,qar,qae]
end Go.Proofs.Ytfiakfiocdfpbaa.VS
