/- Contracts of the program's functions on the evaluator without names, and plain lemmas: part 4. -/
import Derived.Test.YtfiakfiocdfpbaaXP3
set_option linter.unusedSimpArgs false
set_option linter.unusedVariables false
namespace Go.Proofs.Ytfiakfiocdfpbaa.VS
theorem qwv(N:Nat)(hn:N<=1099511627776):∀(k s:Nat) (l:List T),N-s<=k->0<s->s<=2199023255552->l.length=N->(∀t,t∈l->t.inner<=1099511627776)->Blk s l->
 ∃(l':List T) (s':Nat),l'.Perm l/\Srt l'/\
  qbj XV [] 1 [0,1,2,6] qjB ⟨[(0,.tsl true 0 3 N),(1,.d (.int .i64 N)),(2,.fn 6 []),(6,.d (.int .i64 s))],[some (kc l)]⟩=
   some (.exit 2,⟨[(0,.tsl true 0 3 N),(1,.d (.int .i64 N)),(2,.fn 6 []),(6,.d (.int .i64 s')),(30,.d (.bool false))],[some (kc l')]⟩):=by
 have head:∀(x:Int) (c:List AV),qag 1 [0,1,2,6] ⟨[(0,.tsl true 0 3 N),(1,.d (.int .i64 N)),(2,.fn 6 []),(6,.d (.int .i64 x))],[some c]⟩=some ⟨[(0,.tsl true 0 3 N),(1,.d (.int .i64 N)),(2,.fn 6 []),(6,.d (.int .i64 x))],[some c]⟩:=fun x c=>by
  simp[qag,qad,qaW,qc1,qbg]
 have stop:∀(s:Nat) (l:List T),0<s->N<=s->l.length=N->Blk s l->∃(l':List T) (s':Nat),l'.Perm l/\Srt l'/\
  qbj XV [] 1 [0,1,2,6] qjB ⟨[(0,.tsl true 0 3 N),(1,.d (.int .i64 N)),(2,.fn 6 []),(6,.d (.int .i64 s))],[some (kc l)]⟩=
   some (.exit 2,⟨[(0,.tsl true 0 3 N),(1,.d (.int .i64 N)),(2,.fn 6 []),(6,.d (.int .i64 s')),(30,.d (.bool false))],[some (kc l')]⟩):=fun s l hs h1 h2 h3=>by
  refine⟨l,s,List.Perm.refl _,h3.srt (by omega) hs,?_⟩;refine qaL (head _ _) ?_ (by simp);have hlt:¬((s:Int)<(N:Int)):=by omega
  generalize (s:Int)=v at*
  generalize (N:Int)=w at*
  simp[qjB,qpH,hlt]
 intro k
 induction k with
 |zero=>intro s l hk hs hs2 hl hin hB;exact stop s l hs (by omega) hl hB
 |succ k ih=>
  intro s l hk hs hs2 hl hin hB
  by_cases hsN:N<=s
  ·exact stop s l hs hsN hl hB
  obtain⟨R1,R2,a,r1,r2,r3,r4,r5,r6,r7⟩:=qAP N s hn hs (by omega) l.length [] l (Nat.le_refl _) (by simpa using hl) (by simpa using hin) hB;simp only[List.nil_append,List.length_nil,Nat.zero_add]at r2 r7;have hin2:∀t,t∈R1++R2->t.inner<=1099511627776:=fun t ht=>hin t (r4.mem_iff.1 ht)
  have hlen:R1.length+R2.length=N:=by omega
  obtain⟨W,w1,w2,w3⟩:∃W:List T,W.Perm R2/\Srt W/\((((a+s:Nat):Int)<(N:Int)/\qaf XV 173 [.tsl true 0 3 N,.d (.int .i64 a),.d (.int .i64 (a+s:Nat)),.d (.int .i64 N),.fn 6 []] [some (kc (R1++R2))]=some (.d (.tup []),[some (kc (R1++W))]))\/(¬((a+s:Nat):Int)<(N:Int)/\W=R2)):=by
   by_cases h:a+s<N
   ·obtain⟨C,D,rfl,l1,b1,b2⟩:∃C D,R2=C++D/\C.length=s/\Srt C/\Blk s D:=by
     cases r5 with
     |last _ h1 _=>omega
     |cons c r h1 h2 h3=>exact⟨c,r,rfl,h1,h2,h3⟩
    have hDl:D.length<s:=by simp at r1;omega
    have hDl2:a+(s+D.length)=N:=by simp at r3;omega
    obtain⟨W,w1,w2,w3⟩:=qkk (C.length+D.length) R1 C D [] a (a+s) N N (Nat.le_refl _) (by omega) (by omega) r2 (by omega) (by omega) (by simp;omega) hn (fun t ht=>hin2 t (by simpa using ht)) b1 (b2.srt (by omega) hs);refine⟨W,w1,w2,.inl ⟨by omega,?_⟩⟩;have e1:R1++(C++D)=R1++C++D++[]:=by simp
    have e2:R1++W=R1++W++[]:=by simp
    rw[e1,e2];exact w3
   ·exact⟨R2,List.Perm.refl _,r5.srt (by omega) hs,.inr ⟨by omega,rfl⟩⟩
  have hWl:W.length=R2.length:=w1.length_eq;have hB2:Blk (2*s) (R1++W):=r6 W (.last W (by omega) w2);obtain⟨l',s',p1,p2,p3⟩:=ih (2*s) (R1++W) (by omega) (by omega) (by omega) (by simp;omega) (fun t ht=>hin2 t (by
   rcases List.mem_append.1 ht with h|h
   ·simp[h]
   ·simp[w1.mem_iff.1 h])) hB2
  refine⟨l',s',p1.trans ((List.Perm.refl R1).append w1|>.trans r4),p2,?_⟩;rw[<-p3];refine qa7 (head _ _) ?_;have hlt:((s:Int)<(N:Int)):=by omega
  have hw2:IntKind.i64.wrap (2*(s:Int))=((2*s:Nat):Int):=by rw[wrap_i64 (by omega) (by omega)];omega
  have hw2':IntKind.i64.wrap ((s:Int)*2)=((2*s:Nat):Int):=by rw[wrap_i64 (by omega) (by omega)];omega
  have hw3:IntKind.i64.wrap ((a:Int)+s)=((a+s:Nat):Int):=by rw[wrap_i64 (by omega) (by omega)];omega
  simp only[Int.natCast_zero]at r7;rcases w3 with⟨g1,g2⟩|⟨g1,rfl⟩
  ·generalize kc (R1++W)=c3 at*
   generalize kc (R1++R2)=c2 at*
   generalize kc l=c1 at*
   generalize ((a+2*s:Nat):Int)=gv1 at*
   generalize ((a+s:Nat):Int)=gv3 at*
   generalize ((2*s:Nat):Int)=gv4 at*
   generalize (a:Int)=ga at*
   generalize (s:Int)=gs at*
   generalize hgn:(N:Int)=w at*
   simp[qjB,qpH,qAb,qkU,qkT,qkS,qkR,hlt,hw2,hw2',hw3];rw[r7];simp[qkU,qkT,qkS,qkR,hw2',hw3,g1,g2]
  ·generalize kc (R1++W)=c2 at*
   generalize kc l=c1 at*
   generalize ((a+2*s:Nat):Int)=gv1 at*
   generalize ((a+s:Nat):Int)=gv3 at*
   generalize ((2*s:Nat):Int)=gv4 at*
   generalize (a:Int)=ga at*
   generalize (s:Int)=gs at*
   generalize hgn:(N:Int)=w at*
   simp[qjB,qpH,qAb,qkU,qkT,qkS,qkR,hlt,hw2,hw2',hw3];rw[r7];simp[qkU,qkT,qkS,qkR,hw2',hw3,g1]
theorem qy8(l:List T)(hn:l.length<=1099511627776)(hin:∀t,t∈l->t.inner<=1099511627776):
 ∃l':List T,l'.Perm l/\Srt l'/\qaf XV 171 [.tsl true 0 3 l.length,.d (.int .i64 l.length),.fn 6 []] [some (kc l)]=some (.d (.tup []),[some (kc l')]):=by
 obtain⟨R1,R2,a,r1,r2,r3,r4,r5,r6⟩:=qtb l.length hn l.length [] l (Nat.le_refl _) (by simp) (by simpa using hin);simp only[List.nil_append,List.length_nil,Nat.zero_add]at r2 r6;have hin2:∀t,t∈R1++R2->t.inner<=1099511627776:=fun t ht=>hin t (r4.mem_iff.1 ht)
 obtain⟨W,w1,w2,w3⟩:=qhv R1 R2 [] a l.length l.length r2 (by omega) (by simp;omega) hn (fun t ht=>hin2 t (by simpa using ht));simp only[List.append_nil]at w3;have hWl:W.length=R2.length:=w1.length_eq;have hB:Blk 20 (R1++W):=r5 W (.last W (by omega) w2);obtain⟨l',s',p1,p2,p3⟩:=qwv l.length hn l.length 20 (R1++W) (by omega) (by omega) (by omega) (by simp;omega) (fun t ht=>hin2 t (by
  rcases List.mem_append.1 ht with h|h
  ·simp[h]
  ·simp[w1.mem_iff.1 h])) hB
 refine⟨l',p1.trans ((List.Perm.refl R1).append w1|>.trans r4),p2,?_⟩;rw[qap XV _ _ _ qF6 rfl qo2 rfl];simp only[Int.natCast_zero,show((20:Nat):Int)=20 from rfl]at r6 p3;generalize kc (R1++W)=c3 at*
 generalize kc (R1++R2)=c2 at*
 generalize kc l=c1 at*
 generalize kc l'=c4 at*
 generalize ((a+20:Nat):Int)=gv1 at*
 generalize (a:Int)=ga at*
 generalize hgn:(l.length:Int)=w at*
 simp[qF6,qAh,qAg];rw[r6];simp[qAc,w3];rw[p3];simp
theorem qnJ(l:List T)(hn:l.length<=1099511627776)(hin:∀t,t∈l->t.inner<=1099511627776):
 ∃l':List T,l'.Perm l/\Srt l'/\qaf XV 170 [.tsl true 0 3 l.length,.fn 6 []] [some (kc l)]=some (.d (.tup []),[some (kc l')]):=by
 obtain⟨l',h1,h2,h3⟩:=qy8 l hn hin;refine⟨l',h1,h2,?_⟩;rw[qap XV _ _ _ qF7 rfl qo3 rfl];generalize kc l'=c2 at*
 generalize kc l=c1 at*
 simp[qF7,qAi,h3]
end Go.Proofs.Ytfiakfiocdfpbaa.VS
namespace Go.Proofs.Ytfiakfiocdfpbaa.VS
mutual
theorem qFZ:∀t:T,(t.enc U).allU=true
 | .node f v ks=>by
  have:=qiD ks;unfold T.enc;cases ks with
  |nil=>simp[T.encs,DV.allU,DV.allUs]
  |cons a r=>simp only[T.encs]at this⊢;simp[DV.allU,DV.allUs]at this⊢;exact this
theorem qiD:∀l:List T,DV.allUs (T.encs U l)=true
 | []=>by simp[T.encs,DV.allUs]
 |t::r=>by simp[T.encs,DV.allUs,qFZ t,qiD r]
end
end Go.Proofs.Ytfiakfiocdfpbaa.VS
namespace Go.Proofs.Ytfiakfiocdfpbaa.VS
theorem qFY:∀l:List T,DV.allUs (l.map (T.enc U))=true:=fun l=>by rw[<-T.qer];exact qiD l
def nB(f v:Int)(ks:List T):qan:=[some [.d (.int .i64 f),.d (.int .i64 v),.d (qaj .sub ks)],some [.d (.int .i64 0),.d (.int .i64 0),.d (.sl U [])]]
theorem qNV(s:List SymL)(hs:s.length<=1099511627776)(f v:Int)(ks acc:List T)(hl:ks.length<=1099511627776)(i:Nat)(hi:i<ks.length)(hacc:acc.length<=1099511627776)(hk:((tAt ks i).norm s).kids.length<=1099511627776)
 (hc:qaf XV 169 [.d (sg s),.d ((tAt ks i).enc .sub)] []=some (.d (((tAt ks i).norm s).enc U),[])):
 ∃e:qan,qau XV (XV.lin 169) qhW ⟨[(0,.d (sg s)),(3,.ptr 0 0),(4,.ptr 1 0),(5,.d (.sl U (acc.map (T.enc U)))),(10,.d (qaj .sub ks)),(11,.d (.int .i64 ks.length)),(12,.d (.int .i64 i))],nB f v ks⟩=
  some (.normal,⟨[(0,.d (sg s)),(3,.ptr 0 0),(4,.ptr 1 0),(5,.d (.sl U ((acc++qno s f ((tAt ks i).norm s)).map (T.enc U)))),(10,.d (qaj .sub ks)),(11,.d (.int .i64 ks.length)),(12,.d (.int .i64 (i+1:Nat)))],nB f v ks++e⟩):=by
 have hw:=qao (n:=i) (by omega);have hb:=qjl s hs f;have ht:=qaF hi;generalize tAt ks i=k at*
 generalize hn:k.norm s=n at*
 unfold qno nB
 by_cases h1:qbE s f=true
 ·by_cases h2:(n.f==f)=true
  ·have ha:=qeQ acc n.kids U (by omega)
   generalize hl2:(acc++n.kids).map (T.enc U)=l2 at ha;generalize acc.map (T.enc U)=l1 at ha⊢
   refine⟨[some [.d (.int .i64 n.f),.d (.int .i64 n.v),.d (qaj .sub n.kids)]],?_⟩;simp[qhW,qiT,qiS,qiR,qpO,qpN,qpM,qpL,qpK,qpJ,qpI,qe5,qkX,qkW,qkV,hi,hw,cut,ht,hc,hb,h1,h2,ha,hl2,splice,qaa,qab,qac,qai,qae,AV.qam]
  ·have ha:=qeQ acc [n] U (by simp;omega)
   have h2':(n.f==f)=false:=by simpa using h2
   simp only[List.map_cons,List.map_nil]at ha;generalize hl2:(acc++[n]).map (T.enc U)=l2 at ha;generalize acc.map (T.enc U)=l1 at ha⊢
   refine⟨[some [.d (.int .i64 n.f),.d (.int .i64 n.v),.d (qaj .sub n.kids)]],?_⟩;simp[qhW,qiT,qiS,qiR,qpO,qpN,qpM,qpL,qpK,qpJ,qpI,qe5,qkX,qkW,qkV,hi,hw,cut,ht,hc,hb,h1,h2',ha,hl2,splice,qaa,qab,qac,qai,qae,AV.qam]
 ·have h1':qbE s f=false:=by simpa using h1
  have ha:=qeQ acc [n] U (by simp;omega);simp only[List.map_cons,List.map_nil]at ha;generalize hl2:(acc++[n]).map (T.enc U)=l2 at ha;generalize acc.map (T.enc U)=l1 at ha⊢
  refine⟨[some [.d (.int .i64 n.f),.d (.int .i64 n.v),.d (qaj .sub n.kids)]],?_⟩;simp[qhW,qiT,qiS,qiR,qpO,qpN,qpM,qpL,qpK,qpJ,qpI,qe5,qkX,qkW,qkV,hi,hw,cut,ht,hc,hb,h1',ha,hl2,splice,qaa,qab,qac,qai,qae,AV.qam]
end Go.Proofs.Ytfiakfiocdfpbaa.VS
namespace Go.Proofs.Ytfiakfiocdfpbaa.VS
theorem qsJ(B:qan):qaf XV 172 [.d (.sl .sub []),.d (.int .i64 0),.d (.int .i64 0),.fn 6 []] B=some (.d (.tup []),B):=by
 rw[qap XV _ _ _ qC3 rfl qkf rfl];have hlo:qbj XV [46,50] B.length [0,1,2,3,8] qjA ⟨[(0,.d (.sl .sub [])),(1,.d (.int .i64 0)),(2,.d (.int .i64 0)),(3,.fn 6 []),(8,.d (.int .i64 1))],B⟩=some (.exit 0,⟨[(0,.d (.sl .sub [])),(1,.d (.int .i64 0)),(2,.d (.int .i64 0)),(3,.fn 6 []),(8,.d (.int .i64 1)),(14,.d (.bool false))],B⟩):=by
  refine qaL (s0:=⟨[(0,.d (.sl .sub [])),(1,.d (.int .i64 0)),(2,.d (.int .i64 0)),(3,.fn 6 []),(8,.d (.int .i64 1))],B⟩) (by simp[qag,qad,qaW,qc1,qbg]) ?_ (by simp);simp[qjA,qmP]
 simp[qC3,qpG,wrap_i64];rw[hlo];simp
theorem qEm(B:qan):qaf XV 170 [.d (.sl .sub []),.fn 6 []] B=some (.d (.tup []),B):=by
 have hi:=qsJ B;have h1:qbj XV [] B.length [0,1,2,6,7,8] ql5 ⟨[(0,.d (.sl .sub [])),(1,.d (.int .i64 0)),(2,.fn 6 []),(6,.d (.int .i64 20)),(7,.d (.int .i64 0)),(8,.d (.int .i64 20))],B⟩=some (.exit 0,⟨[(0,.d (.sl .sub [])),(1,.d (.int .i64 0)),(2,.fn 6 []),(6,.d (.int .i64 20)),(7,.d (.int .i64 0)),(8,.d (.int .i64 20)),(13,.d (.bool false))],B⟩):=by
  refine qaL (s0:=⟨[(0,.d (.sl .sub [])),(1,.d (.int .i64 0)),(2,.fn 6 []),(6,.d (.int .i64 20)),(7,.d (.int .i64 0)),(8,.d (.int .i64 20))],B⟩) (by simp[qag,qad,qaW,qc1,qbg]) ?_ (by simp);simp[ql5,qtN]
 have h2:qbj XV [] B.length [0,1,2,6] qjB ⟨[(0,.d (.sl .sub [])),(1,.d (.int .i64 0)),(2,.fn 6 []),(6,.d (.int .i64 20))],B⟩=some (.exit 2,⟨[(0,.d (.sl .sub [])),(1,.d (.int .i64 0)),(2,.fn 6 []),(6,.d (.int .i64 20)),(30,.d (.bool false))],B⟩):=by
  refine qaL (s0:=⟨[(0,.d (.sl .sub [])),(1,.d (.int .i64 0)),(2,.fn 6 []),(6,.d (.int .i64 20))],B⟩) (by simp[qag,qad,qaW,qc1,qbg]) ?_ (by simp);simp[qjB,qpH]
 have h3:qaf XV 171 [.d (.sl .sub []),.d (.int .i64 0),.fn 6 []] B=some (.d (.tup []),B):=by
  rw[qap XV _ _ _ qF6 rfl qo2 rfl];simp[qF6,qAh,qAg];rw[h1];simp[qAc,hi];rw[h2];simp
 rw[qap XV _ _ _ qF7 rfl qo3 rfl];simp[qF7,qAi,h3]
end Go.Proofs.Ytfiakfiocdfpbaa.VS
namespace Go.Proofs.Ytfiakfiocdfpbaa.VS
theorem qJo(s:List SymL)(hs:s.length<=1099511627776)(f v:Int)(ks:List T)(hl:qd4 ks<=1099511627776)
 (hc:∀t,t∈ks->qaf XV 169 [.d (sg s),.d (t.enc .sub)] []=some (.d ((t.norm s).enc U),[])):∀(k i:Nat),i+k=ks.length->∀e:qan,
 qbj XV (XV.lin 169) 2 [0,3,4,5,10,11,12] qhW ⟨[(0,.d (sg s)),(3,.ptr 0 0),(4,.ptr 1 0),(5,.d (.sl U ((qvh s f ks i).map (T.enc U)))),(10,.d (qaj .sub ks)),(11,.d (.int .i64 ks.length)),(12,.d (.int .i64 i))],nB f v ks++e⟩=
  some (.exit 0,⟨[(0,.d (sg s)),(3,.ptr 0 0),(4,.ptr 1 0),(5,.d (.sl U ((flatK s f (T.norms s ks)).map (T.enc U)))),(10,.d (qaj .sub ks)),(11,.d (.int .i64 ks.length)),(12,.d (.int .i64 ks.length)),(13,.d (.bool false))],nB f v ks⟩):=by
 have head:∀(x y:AV) (e:qan),y.clr=y->x.safe 2=true->y.safe 2=true->qag 2 [0,3,4,5,10,11,12] ⟨[(0,.d (sg s)),(3,.ptr 0 0),(4,.ptr 1 0),(5,x),(10,.d (qaj .sub ks)),(11,.d (.int .i64 ks.length)),(12,y)],nB f v ks++e⟩=some ⟨[(0,.d (sg s)),(3,.ptr 0 0),(4,.ptr 1 0),(5,x),(10,.d (qaj .sub ks)),(11,.d (.int .i64 ks.length)),(12,y)],nB f v ks⟩:=fun x y e hy hx hy2=>
  qbX (by simp) (by simp[qad,hx,hy2]) (by simp[nB]) rfl
 intro k
 induction k with
 |zero=>
  intro i hi e;have:i=ks.length:=by omega
  subst this;refine qaL (head _ _ e (by simp) (by simp) (by simp)) ?_ (by simp);rw[qvg];simp[qhW,qiT,qiS,qiR,qpO,qpN,qpM,qpL,qpK,qpJ,qpI,qe5,qkX,qkW,qkV]
 |succ k ih=>
  intro i hi e;have hlt:i<ks.length:=by omega
  have hm:=qaH hlt;have h1:=qc7 hm;have h2:=qdL s (tAt ks i);have h3:=qrn s f ks i;have h4:=qdm (qvh s f ks i);have h5:((tAt ks i).norm s).kids.length<=1099511627776:=by have:=qdm ((tAt ks i).norm s).kids;rw[qlV]at this;omega
  obtain⟨e',he⟩:=qNV s hs f v ks (qvh s f ks i) (by have:=qdm ks;omega) i hlt (by omega) h5 (hc _ hm);rw[<-ih (i+1) (by omega) e',qrm s f ks i hlt];exact qa7 (head _ _ e (by simp) (by simp) (by simp)) he
theorem qMV(s:List SymL)(hs:s.length<=1099511627776)(f v:Int)(ks:List T)(hl:qd4 ks<=1099511627776)
 (hc:∀t,t∈ks->qaf XV 169 [.d (sg s),.d (t.enc .sub)] []=some (.d ((t.norm s).enc U),[])):
 qau XV (XV.lin 169) qpp.pre ⟨qak 0 [.d (sg s),.d ((T.node f v ks).enc .sub)],[]⟩=
  some (.normal,⟨[(3,.ptr 0 0),(4,.ptr 1 0),(5,.d (.sl U ((flatK s f (T.norms s ks)).map (T.enc U)))),(42,.d (.bool (qbE s f)))],nB f v ks⟩):=by
 have hloop:=qJo s hs f v ks hl hc ks.length 0 (by omega) [];have hb:=qjl s hs f;simp only[qrl,List.map_nil,List.append_nil,qJz,nB,Int.natCast_zero]at hloop;simp[qpp,qfq,qiT,qiS,qiR,qe5,splice,qaa,qab,qac,qai,qae,AV.qam,nB];rw[hloop];simp[qe5,hb,qae]
theorem qFb:∀l:List T,((l.map (T.enc U)).flatMap DV.cells).map AV.d=kc l:=fun l=>by rw[qBb];rfl
theorem qEl(t:T)(r:List T)(hl:qd4 (t::r)<=1099511627776):qh0 (qaf XV) qpp (t.enc U) (r.map (T.enc U))=some ((qd6 (t::r)).map (T.enc U)):=by
 have hlen:=qdm (t::r);obtain⟨l',p1,p2,p3⟩:=qnJ (t::r) (by omega) (fun x hx=>by have:=qc7 hx;omega);have he:=quI p1 p2;have hu:=qFY (t::r);have hk:=qFb (t::r);simp only[List.map_cons]at hu hk;unfold qh0;rw[if_pos hu,hk];have e1:(T.enc U t).cells.length=3:=by simp
 have e2:(r.map (T.enc U)).length+1=(t::r).length:=by simp
 rw[e1,e2];have e3:qaf XV qpp.srt [.tsl true 0 3 (t::r).length,.fn qpp.cmp []] [some (kc (t::r))]=some (.d (.tup []),[some (kc l')]):=p3;rw[e3];have hll:l'.length=(t::r).length:=p1.length_eq;have e4:qaC (kc l')=some (flat (l'.map (T.enc U))):=by rw[qBb];exact qB1 _
 have e5:=qne (l'.map (T.enc U)) (qJ5 U l');have e6:(flat (l'.map (T.enc U))).length=(t::r).length*3:=by
  have:=qbo e4;have h2:=qht l';rw[this,List.length_map]at h2;rw[h2,hll]
 simp only[e4,Option.bind_some];rw[if_pos e6,<-hll];rw[List.length_map]at e5;rw[e5,he]
theorem qpf{X:XEnv}{T:List Nat}{sf:SFn}{ds:List DV}{S:XS}{x:DV}{xr:List DV}{y:DV×DV}{q:List DV}(hn:ds.length=sf.np)(hp:qau X T sf.pre ⟨qak 0 (ds.map .d),[]⟩=some (.normal,S))
 (h1:lk S.r sf.cond=some (.d (.bool true))) (h2:lk S.r sf.row=some (.d (.sl U (x::xr)))) (h3:qhY S=some y) (h4:qh0 (qaf X) sf x xr=some q):qnD X T sf ds=some (.agg [y.1,y.2,.sl U q]):=by
 unfold qnD;rw[if_neg (by simpa using hn),hp];simp only[Option.bind_some];rw[h1,h2];simp only[U];rw[h3];simp only[Option.bind_some,h4,Option.map_some]
theorem qsM(s:List SymL)(hs:s.length<=1099511627776)(f v:Int)(ks:List T)(hl:qd4 ks<=1099511627776)
 (hc:∀t,t∈ks->qaf XV 169 [.d (sg s),.d (t.enc .sub)] []=some (.d ((t.norm s).enc U),[])):
 qaf XV 169 [.d (sg s),.d ((T.node f v ks).enc .sub)] []=some (.d (((T.node f v ks).norm s).enc U),[]):=by
 have hp:=qMV s hs f v ks hl hc;have hcn:qd4 (flatK s f (T.norms s ks))<=1099511627776:=by
  have:=qgn s f (T.norms s ks);have:=qgm s ks;omega
 rw[qxk XV 169 _ _ qpp rfl qxV qxO];simp only[qaC,Option.bind_some,Option.map_some];have slow:qnD XV (XV.lin 169) qpp [sg s,(T.node f v ks).enc .sub]=qnD XV (XV.lin 169) qpp [sg s,(T.node f v ks).enc .sub]:=rfl
 conv at slow=>rhs;unfold qnD
 rw[if_neg (by simp[qpp,qfq])]at slow;simp only[List.map_cons,List.map_nil]at slow;rw[hp]at slow;simp only[T.norm]
 by_cases hb:qbE s f=true
 ·rw[if_pos hb]
  cases hq:flatK s f (T.norms s ks)with
  |nil=>
   rw[slow];have hz:qd6 ([]:List T)=[]:=rfl;have hsn:=qEm (nB f v ks);simp only[nB]at hsn;simp[qpp,qfq,hb,hq,lk,nB,hz,hsn,splice,qaa,qab,qac,qai,qae];rw[T.qbF];rfl
  |cons x r=>
   rw[hq]at hcn;have hr:=qEl x r hcn;have:=qpf (X:=XV) (T:=XV.lin 169) (sf:=qpp) (ds:=[sg s,(T.node f v ks).enc .sub]) (x:=x.enc U) (xr:=r.map (T.enc U)) (y:=(.int .i64 f,.int .i64 v)) rfl hp (by simp[qpp,qfq,lk,hb]) (by simp[qpp,qfq,lk,hq]) (by simp[qhY,lk,nB,DV.flat,qaa]) hr;rw[this];simp only[Option.map_some];rw[T.qbF];rfl
 ·rw[if_neg hb,slow]
  have hb':qbE s f=false:=by simpa using hb
  simp[qpp,qfq,hb',lk,nB,splice,qaa,qab,qac,qai,qae]
theorem qlF(s:List SymL)(hs:s.length<=1099511627776)(t:T)(ht:t.inner<=1099511627776):qaf XV 169 [.d (sg s),.d (t.enc .sub)] []=some (.d ((t.norm s).enc U),[]):=by
 match t,ht with
 | .node f v ks,ht=>
  rw[T.qcW]at ht;exact qsM s hs f v ks ht fun x hx=>qlF s hs x (by have:=qc7 hx;omega)
termination_by t
decreasing_by
 simp_wf
 have:=List.sizeOf_lt_of_mem hx;omega
end Go.Proofs.Ytfiakfiocdfpbaa.VS
namespace Go.Proofs.Ytfiakfiocdfpbaa.VS
abbrev ts(l:List Bd):List T:=l.map Bd.t
end Go.Proofs.Ytfiakfiocdfpbaa.VS
namespace Go.Proofs.Ytfiakfiocdfpbaa.VS
end Go.Proofs.Ytfiakfiocdfpbaa.VS
namespace Go.Proofs.Ytfiakfiocdfpbaa.VS
end Go.Proofs.Ytfiakfiocdfpbaa.VS
namespace Go.Proofs.Ytfiakfiocdfpbaa.VS
end Go.Proofs.Ytfiakfiocdfpbaa.VS
namespace Go.Proofs.Ytfiakfiocdfpbaa.VS
theorem qhO(x y z:AV):AV.clrs [x,y,z]=[x.clr,y.clr,z.clr]:=by simp only[AV.clrs]
end Go.Proofs.Ytfiakfiocdfpbaa.VS
namespace Go.Proofs.Ytfiakfiocdfpbaa.VS
def IsV(d:DV)(a:T):Prop:=∃(g:Tag) (X:List DV),d= .agg [.int .i64 a.f,.int .i64 a.v,.sl g X]/\X.map DV.clr=a.kids.map (T.enc .sub)
theorem qNX(s:List SymL)(t:T):IsV (nM s t) (t.norm s):=⟨U,qxB s t,by rw[qqn,qAU,qAT],qu2 s t⟩
theorem IsV.clr{d:DV}{a:T}(h:IsV d a):d.clr=a.enc .sub:=by
 obtain⟨g,X,rfl,hX⟩:=h;simp only[DV.clr,DV.clrs];rw[DV.qam,hX,T.qbF]
end Go.Proofs.Ytfiakfiocdfpbaa.VS
namespace Go.Proofs.Ytfiakfiocdfpbaa.VS
mutual
def qbu(u:List Bd):T->T
 | .node f v ks=>if f= -1/\ks.length=0 then qeN u v else .node f v (qaT u ks)
def qaT(u:List Bd):List T->List T
 | []=>[]
 |t::r=>qbu u t::qaT u r
end
theorem qcb(u:List Bd):∀l:List T,qaT u l=l.map (qbu u)
 | []=>by simp[qaT]
 |t::r=>by simp[qaT,qcb u r]
end Go.Proofs.Ytfiakfiocdfpbaa.VS
namespace Go.Proofs.Ytfiakfiocdfpbaa.VS
theorem qqo(u:List Bd)(n:Int)(M:Nat)(hM:∀i,i<u.length->(bAt u i).t.inner<=M):(qeN u n).inner<=M:=by
 unfold qeN;split
 ·rename_i i h
  unfold qdX at h;exact hM i (by have:=(qb2 _ _ _ _ h).2.1;omega)
 ·simp[T.inner,T.inners]
mutual
theorem qff(u:List Bd)(M:Nat)(hM:∀i,i<u.length->(bAt u i).t.inner<=M):∀t:T,(qbu u t).inner+1<=(t.inner+1)*(M+1)
 | .node f v ks=>by
  have h:=qlL u M hM ks;simp only[qbu];split
  ·have:=qqo u v M hM
   have h2:(M+1)<=((T.node f v ks).inner+1)*(M+1):=Nat.le_mul_of_pos_left _ (by omega);omega
  ·rw[T.qcW,T.qcW,Nat.add_mul]
   omega
theorem qlL(u:List Bd)(M:Nat)(hM:∀i,i<u.length->(bAt u i).t.inner<=M):∀l:List T,qd4 (qaT u l)<=qd4 l*(M+1)
 | []=>by simp[qaT,qd4,T.inners]
 |t::r=>by
  have h1:=qff u M hM t;have h2:=qlL u M hM r;simp only[qaT,qb4,Nat.add_mul]at*
  omega
end
theorem qBC(u:List Bd)(hu:u.length<=1099511627776)(hb:∀i,i<u.length->(bAt u i).t.inner<=1099511627776)(f v:Int)(ks:List T)(hl:ks.length<=1099511627776)
 (hc:∀t,t∈ks->qaf XV 168 [.d (binds .sub u),.d (t.enc .sub)] []=some (.d ((qbu u t).enc U),[])):
 qaf XV 168 [.d (binds .sub u),.d ((T.node f v ks).enc .sub)] []=some (.d ((qbu u (.node f v ks)).enc U),[]):=by
 rw[qap XV _ _ _ qC4 rfl qx5 rfl];have hv:=qj3 (T.node f v ks)
 by_cases hcond:f= -1/\ks.length=0
 ·obtain⟨rfl,h0⟩:=hcond
  have hks:ks=[]:=List.length_eq_zero_iff.1 h0;subst hks;have hk:=qgS u v hu hb;simp only[qbu,List.length_nil,and_self,if_true];generalize qeN u v=a at*
  simp[qC4,qi3,qi2,qi1,qi0,qiZ,qiY,qiX,qiW,qiV,qiU,qfE,hv,hk,splice,qaa,qab,qac,qai,qae]
 ·have hB:((f== -1)&&((ks.length:Int)==0))=false:=by
   rw[Bool.and_eq_false_iff]
   by_cases h1:f= -1
   ·right;exact beq_false_of_ne (by omega)
   ·left;exact beq_false_of_ne h1
  simp only[qbu,if_neg hcond];have hmap:∀i,i<ks.length->qaS 3 40 (.sl U ((qaT u (ks.take i)).map (T.enc U))) (.sl U [(qbu u (tAt ks i)).enc U])=some (.sl U ((qaT u (ks.take (i+1))).map (T.enc U))):=fun i hi=>by
   have:=qeQ (qaT u (ks.take i)) [qbu u (tAt ks i)] U (by rw[qcb];simp;omega);rw[qeE ks i hi,qcb u (_++_),List.map_append,<-qcb];exact this
  have hloop:=qat (X:=XV) (T:=XV.lin 168) (L:=2) (live:=[0,3,4,5,22,23,24]) (b:=qu8) (n:=ks.length) (γ:=Unit) (st:=fun(_:Unit) i=>⟨[(0,.d (binds .sub u)),(3,.ptr 0 0),(4,.ptr 1 0),(5,.d (.sl U ((qaT u (ks.take i)).map (T.enc U)))),(22,.d (qaj .sub ks)),(23,.d (.int .i64 ks.length)),(24,.d (.int .i64 i))],nB f v ks⟩) (step:=fun _ _=> .inl ())
   (F:=fun _=>(.exit 0,⟨[(0,.d (binds .sub u)),(3,.ptr 0 0),(4,.ptr 1 0),(5,.d (.sl U ((qaT u (ks.take ks.length)).map (T.enc U)))),(22,.d (qaj .sub ks)),(23,.d (.int .i64 ks.length)),(24,.d (.int .i64 ks.length)),(25,.d (.bool false))],nB f v ks⟩)) (R:=fun _=>(.ret,⟨[],[]⟩))
   (fun _=>⟨by simp,by simp[qu8,qi3,qi2,qi1,qi0,qiZ,qiY,qiX,qiW,qiV,qiU,qfE]⟩)
   (fun _ i hi=>by
    have hw:=qao (n:=i) (by omega);have hc':=hc _ (qaH hi);have ha:=hmap i hi;have hcl:((qaT u (ks.take (i+1))).map (T.enc U))=((qaT u (ks.take (i+1))).map (T.enc U)):=rfl;generalize hl2:(qaT u (ks.take (i+1))).map (T.enc U)=l2 at ha;generalize (qaT u (ks.take i)).map (T.enc U)=l1 at ha⊢
    generalize qbu u (tAt ks i)=a at*
    exact⟨⟨[(0,.d (binds .sub u)),(3,.ptr 0 0),(4,.ptr 1 0),(5,.d (.sl U l2)),(22,.d (qaj .sub ks)),(23,.d (.int .i64 ks.length)),(24,.d (.int .i64 (i+1:Nat)))],nB f v ks++[some [.d (.int .i64 (tAt ks i).f),.d (.int .i64 (tAt ks i).v),.d (qaj .sub (tAt ks i).kids)]]⟩,by simp[qu8,qi3,qi2,qi1,qi0,qiZ,qiY,qiX,qiW,qiV,qiU,qfE,nB,hi,hw,cut,qaF hi,hc',ha,splice,qaa,qab,qac,qai,qae],
     qbX (e:=[some [.d (.int .i64 (tAt ks i).f),.d (.int .i64 (tAt ks i).v),.d (qaj .sub (tAt ks i).kids)]]) (by simp[<-hl2]) (by simp[qad]) (by simp[nB]) rfl⟩)
   ks.length () 0 ⟨[(0,.d (binds .sub u)),(3,.ptr 0 0),(4,.ptr 1 0),(5,.d (.sl U [])),(22,.d (qaj .sub ks)),(23,.d (.int .i64 ks.length)),(24,.d (.int .i64 0))],nB f v ks⟩ (by omega) (qbX (e:=[]) (by simp[qaT]) (by simp[qad]) (by simp[nB]) (by simp))
  rw[qg7,List.take_length]at hloop;simp only[qJA,nB]at hloop;have henc:(T.node f v (qaT u ks)).enc U= .agg [.int .i64 f,.int .i64 v,.sl U ((qaT u ks).map (T.enc U))]:=by rw[T.qbF];rfl
  rw[henc];generalize (qaT u ks).map (T.enc U)=R at*
  simp only[T.qcj]at hv;cases hf:(f== -1)with
  |false=>
   rw[hf]at hv;simp[qC4,qi3,qi2,qi1,qi0,qiZ,qiY,qiX,qiW,qiV,qiU,qfE,hv,splice,qaa,qab,qac,qai,qae];rw[hloop];simp[qC4,qi3,qi2,qi1,qi0,qiZ,qiY,qiX,qiW,qiV,qiU,qfE,splice,qaa,qab,qac,qai,qae]
  |true=>
   rw[hf]at hv hB;simp only[Bool.true_and]at hB;generalize hn:(ks.length:Int)=n at*
   simp[qC4,qi3,qi2,qi1,qi0,qiZ,qiY,qiX,qiW,qiV,qiU,qfE,hv,hB,hn,splice,qaa,qab,qac,qai,qae];rw[hloop];simp[qC4,qi3,qi2,qi1,qi0,qiZ,qiY,qiX,qiW,qiV,qiU,qfE,splice,qaa,qab,qac,qai,qae]
theorem qqL(u:List Bd)(hu:u.length<=1099511627776)(hb:∀i,i<u.length->(bAt u i).t.inner<=1099511627776)(t:T)(ht:t.inner<=1099511627776):qaf XV 168 [.d (binds .sub u),.d (t.enc .sub)] []=some (.d ((qbu u t).enc U),[]):=by
 match t,ht with
 | .node f v ks,ht=>
  rw[T.qcW]at ht;exact qBC u hu hb f v ks (by have:=qdm ks;omega) fun x hx=>qqL u hu hb x (by have:=qc7 hx;omega)
termination_by t
decreasing_by
 simp_wf
 have:=List.sizeOf_lt_of_mem hx;omega
theorem qE8(u:List Bd)(hu:u.length<=1099511627776)(hb:∀i,i<u.length->(bAt u i).t.inner<=1099511627776)(f v:Int)(ks:List T)(hl:ks.length<=1099511627776)
 (hc:∀t,t∈ks->qaf XV 152 [.d (binds .sub u),.d (t.enc .sub)] []=some (.d ((qbu u t).enc U),[])):
 qaf XV 152 [.d (binds .sub u),.d ((T.node f v ks).enc .sub)] []=some (.d ((qbu u (.node f v ks)).enc U),[]):=by
 rw[qap XV _ _ _ qC5 rfl qyl rfl]
 by_cases hcond:f= -1/\ks.length=0
 ·obtain⟨rfl,h0⟩:=hcond
  have hks:ks=[]:=List.length_eq_zero_iff.1 h0;subst hks;have hk:=qkp u v hu hb;simp only[qbu,List.length_nil,and_self,if_true];generalize qeN u v=a at*
  simp[qC5,qjh,qjg,qjf,qje,qjd,qjc,qlT,qjb,qja,hk,splice,qaa,qab,qac,qai,qae]
 ·have hB:((f== -1)&&((ks.length:Int)==0))=false:=by
   rw[Bool.and_eq_false_iff]
   by_cases h1:f= -1
   ·right;exact beq_false_of_ne (by omega)
   ·left;exact beq_false_of_ne h1
  simp only[qbu,if_neg hcond];have hmap:∀i,i<ks.length->qaS 3 40 (.sl U ((qaT u (ks.take i)).map (T.enc U))) (.sl U [(qbu u (tAt ks i)).enc U])=some (.sl U ((qaT u (ks.take (i+1))).map (T.enc U))):=fun i hi=>by
   have:=qeQ (qaT u (ks.take i)) [qbu u (tAt ks i)] U (by rw[qcb];simp;omega);rw[qeE ks i hi,qcb u (_++_),List.map_append,<-qcb];exact this
  have hloop:=qat (X:=XV) (T:=XV.lin 152) (L:=3) (live:=[0,3,4,5,6]) (b:=qva) (n:=ks.length) (γ:=Unit) (st:=fun(_:Unit) i=>⟨[(0,.d (binds .sub u)),(3,.ptr 0 0),(4,.ptr 1 0),(5,.ptr 2 0),(6,.d (.int .i64 i))],nB3 f v ks ((qaT u (ks.take i)).map (T.enc U))⟩) (step:=fun _ _=> .inl ())
   (F:=fun _=>(.exit 0,⟨[(0,.d (binds .sub u)),(3,.ptr 0 0),(4,.ptr 1 0),(5,.ptr 2 0),(6,.d (.int .i64 ks.length)),(29,.d (.bool false))],nB3 f v ks ((qaT u (ks.take ks.length)).map (T.enc U))⟩)) (R:=fun _=>(.ret,⟨[],[]⟩))
   (fun _=>⟨by simp,by simp[qva,qjh,qjg,qjf,qje,qjd,qjc,qlT,qjb,qja,nB3,qae]⟩)
   (fun _ i hi=>by
    have hw:=qao (n:=i) (by omega);have hc':=hc _ (qaH hi);have ha:=hmap i hi;generalize hl2:(qaT u (ks.take (i+1))).map (T.enc U)=l2 at ha;generalize (qaT u (ks.take i)).map (T.enc U)=l1 at ha⊢
    generalize qbu u (tAt ks i)=a at*
    exact⟨⟨[(0,.d (binds .sub u)),(3,.ptr 0 0),(4,.ptr 1 0),(5,.ptr 2 0),(6,.d (.int .i64 (i+1:Nat)))],nB3 f v ks l2⟩,by simp[qva,qjh,qjg,qjf,qje,qjd,qjc,qlT,qjb,qja,nB3,hi,hw,cut,qaF hi,hc',ha,splice,AV.qam,qaa,qab,qac,qai,qae],
     qbX (e:=[]) (by simp[<-hl2]) (by simp[qad]) (by simp[nB3]) (by simp[<-hl2])⟩)
   ks.length () 0 ⟨[(0,.d (binds .sub u)),(3,.ptr 0 0),(4,.ptr 1 0),(5,.ptr 2 0),(6,.d (.int .i64 0))],nB3 f v ks []⟩ (by omega) (qbX (e:=[]) (by simp[qaT]) (by simp[qad]) (by simp[nB3]) (by simp[qaT]))
  rw[qg7,List.take_length]at hloop;simp only[qJE,nB3]at hloop;have henc:(T.node f v (qaT u ks)).enc U= .agg [.int .i64 f,.int .i64 v,.sl U ((qaT u ks).map (T.enc U))]:=by rw[T.qbF];rfl
  rw[henc];generalize (qaT u ks).map (T.enc U)=R at*
  cases hf:(f== -1)with
  |false=>
   simp[qC5,qjh,qjg,qjf,qje,qjd,qjc,qlT,qjb,qja,hf,splice,qaa,qab,qac,qai,qae];rw[hloop];simp[qC5,qjh,qjg,qjf,qje,qjd,qjc,qlT,qjb,qja,splice,qaa,qab,qac,qai,qae,AV.qam]
  |true=>
   rw[hf]at hB;simp only[Bool.true_and]at hB;generalize hn:(ks.length:Int)=n at*
   simp[qC5,qjh,qjg,qjf,qje,qjd,qjc,qlT,qjb,qja,hf,hB,hn,splice,qaa,qab,qac,qai,qae];rw[hloop];simp[qC5,qjh,qjg,qjf,qje,qjd,qjc,qlT,qjb,qja,splice,qaa,qab,qac,qai,qae,AV.qam]
theorem quF(u:List Bd)(hu:u.length<=1099511627776)(hb:∀i,i<u.length->(bAt u i).t.inner<=1099511627776)(t:T)(ht:t.inner<=1099511627776):qaf XV 152 [.d (binds .sub u),.d (t.enc .sub)] []=some (.d ((qbu u t).enc U),[]):=by
 match t,ht with
 | .node f v ks,ht=>
  rw[T.qcW]at ht;exact qE8 u hu hb f v ks (by have:=qdm ks;omega) fun x hx=>quF u hu hb x (by have:=qc7 hx;omega)
termination_by t
decreasing_by
 simp_wf
 have:=List.sizeOf_lt_of_mem hx;omega
def qbR(l:List SymL)(u:List Bd)(t:T):T:=(qbu u t).norm l
theorem qjE(l:List SymL)(u:List Bd)(t:T):(qbR l u t).inner<=(qbu u t).inner:=qdL l _
theorem qfO(l:List SymL)(hs:l.length<=1099511627776)(u:List Bd)(t:T)(hu:u.length<=1099511627776)(hb:∀i,i<u.length->(bAt u i).t.inner<=1099511627776)(ht:t.inner<=1099511627776)(hf:(qbu u t).inner<=1099511627776):
 qaf XV 135 [.d (sg l),.d (binds .sub u),.d (t.enc .sub)] []=some (.d ((qbR l u t).enc U),[]):=by
 have h1:=qqL u hu hb t ht;have h2:=qlF l hs (qbu u t) hf;unfold qbR;generalize qbu u t=a at*
 generalize a.norm l=c at*
 rw[qap XV _ _ _ qK2 rfl qyC rfl];simp[qK2,qG9,qG8,h1,h2,splice,qaa,qab,qac,qai,qae]
theorem qiO(l:List SymL)(hs:l.length<=1099511627776)(u:List Bd)(t:T)(hu:u.length<=1099511627776)(hb:∀i,i<u.length->(bAt u i).t.inner<=1099511627776)(ht:t.inner<=1099511627776)(hf:(qbu u t).inner<=1099511627776):
 ∃d,qaf XV 141 [.d (sg l),.d (binds .sub u),.d (t.enc .sub)] []=some (.d d,[])/\IsV d (qbR l u t):=by
 have h1:=quF u hu hb t ht;have h2:=qeZ l hs (qbu u t) hf;refine⟨nM l (qbu u t),?_,qNX l _⟩;rw[qqn]at h2⊢
 generalize qbu u t=a at*
 generalize qxB l a=X at*
 rw[qap XV _ _ _ qKX rfl qyw rfl];simp[qKX,qGU,qGT,h1,h2,splice,qaa,qab,qac,qai,qae]
end Go.Proofs.Ytfiakfiocdfpbaa.VS
namespace Go.Proofs.Ytfiakfiocdfpbaa.VS
def cnt(t:T)(v:Int):Int:=IntKind.i64.wrap (T.sum (wC v) t)
def qxE(v:Int)(b:Bd):Bool:=decide (0<cnt b.t v)
def qtg(l:List SymL)(s:List Bd)(i:Nat):Bool:=(!inB (bAt s i).v 0 99||(decide (0<i)&&decide ((bAt s i).v<=(bAt s (i-1)).v)))|| !qdA l (bAt s i).t
def qvF(s:List Bd)(i:Nat):Bool:=(qaD (fun j=>qxE (bAt s i).v (bAt s j)) s.length 0).isSome
def qtf(l:List SymL)(s:List Bd)(i:Nat):Bool:=qtg l s i||qvF s i
def qgu(l:List SymL)(s:List Bd):Bool:=(qaD (qtf l s) s.length 0).isNone
theorem qdg{q:Nat->Bool}{i:Nat}(h:q i=true):qcD q () i= .inr i:=by unfold qcD;rw[if_pos h]
theorem qkn{q:Nat->Bool}{i:Nat}(h:q i=false):qcD q () i= .inl ():=by unfold qcD;rw[if_neg (by simp[h])]
theorem qNH(l:List SymL)(s:List Bd)(hl:s.length<=1099511627776)(hb:∀i,i<s.length->(bAt s i).t.inner<=1099511627776)(i:Nat)(hi:i<s.length):
 qbj XV [] 0 [0,1,5,6] qxw ⟨[(0,.d (sg l)),(1,.d (binds .sub s)),(5,.d (.int .i64 i)),(6,.d (.int .i64 0))],[]⟩=
  some (if qvF s i then(.ret,⟨[(4,.d (.bool false))],[]⟩)else(.exit 2,⟨[(0,.d (sg l)),(1,.d (binds .sub s)),(5,.d (.int .i64 i)),(6,.d (.int .i64 s.length)),(51,.d (.bool false))],[]⟩)):=by
 have h:=qat (X:=XV) (T:=[]) (L:=0) (live:=[0,1,5,6]) (b:=qxw) (n:=s.length) (γ:=Nat) (st:=fun(_:Unit) j=>⟨[(0,.d (sg l)),(1,.d (binds .sub s)),(5,.d (.int .i64 i)),(6,.d (.int .i64 j))],[]⟩) (step:=qcD fun j=>qxE (bAt s i).v (bAt s j))
  (F:=fun _=>(.exit 2,⟨[(0,.d (sg l)),(1,.d (binds .sub s)),(5,.d (.int .i64 i)),(6,.d (.int .i64 s.length)),(51,.d (.bool false))],[]⟩)) (R:=fun _=>(.ret,⟨[(4,.d (.bool false))],[]⟩))
  (fun _=>⟨by simp,by simp[qxw,qsd,qsc,qgQ,qhJ,qgP,qkG,qsb,qwX,qkJ,qsa,qkH,qkI]⟩)
  (fun _ j hj=>by
   have hw:=qao (n:=j) (by omega);have hc:=qiN (bAt s j).t (hb j hj) (bAt s i).v
   change _=some (AV.d (.int .i64 (cnt (bAt s j).t (bAt s i).v)),[])at hc
   by_cases hm:0<cnt (bAt s j).t (bAt s i).v
   ·rw[qdg (q:=fun j=>qxE (bAt s i).v (bAt s j)) (i:=j) (by simp[qxE,hm])]
    exact⟨by simp,by simp[qxw,qsd,qsc,qgQ,qhJ,qgP,qkG,qsb,qwX,qkJ,qsa,qkH,qkI,hi,hj,hw,cut,qaP hi,qaP hj,hc,hm]⟩
   ·rw[qkn (q:=fun j=>qxE (bAt s i).v (bAt s j)) (i:=j) (by simp[qxE,hm])]
    exact⟨_,by simp[qxw,qsd,qsc,qgQ,qhJ,qgP,qkG,qsb,qwX,qkJ,qsa,qkH,qkI,hi,hj,hw,cut,qaP hi,qaP hj,hc,hm];rfl,by simp[qag,qad]⟩)
  s.length () 0 ⟨[(0,.d (sg l)),(1,.d (binds .sub s)),(5,.d (.int .i64 i)),(6,.d (.int .i64 0))],[]⟩ (by omega) (by simp[qag,qad])
 rw[qr0]at h;rw[h];unfold qvF;cases hq:qaD (fun j=>qxE (bAt s i).v (bAt s j)) s.length 0<;>simp
theorem qpi(l:List SymL)(s:List Bd)(hs:l.length<=1099511627776)(hn:∀i,i<l.length->(qaw l i).name.size<=1099511627776)(hl:s.length<=1099511627776)(hb:∀i,i<s.length->(bAt s i).t.inner<=1099511627776):
 qaf XV 67 [.d (sg l),.d (binds .sub s)] []=some (.d (.bool (qgu l s)),[]):=by
 rw[qap XV _ _ _ v67 rfl qDE rfl];have h:=qat (X:=XV) (T:=[]) (L:=0) (live:=[0,1,5]) (b:=ql4) (n:=s.length) (γ:=Nat) (st:=fun(_:Unit) i=>⟨[(0,.d (sg l)),(1,.d (binds .sub s)),(5,.d (.int .i64 i))],[]⟩) (step:=qcD (qtf l s))
  (F:=fun _=>(.exit 0,⟨[(0,.d (sg l)),(1,.d (binds .sub s)),(5,.d (.int .i64 s.length)),(10,.d (.bool false))],[]⟩)) (R:=fun _=>(.ret,⟨[(4,.d (.bool false))],[]⟩))
  (fun _=>⟨by simp,by simp[ql4,qsd,qsc,qgQ,qhJ,qgP,qkG,qsb,qwX,qkJ,qsa,qkH,qkI]⟩)
  (fun _ i hi=>by
   have hw:=qao (n:=i) (by omega);have n1:=qfN (bAt s i).v 0 99;have n2:=qnE l hs hn (bAt s i).t (hb i hi);have hin:=qNH l s hl hb i hi;have hi1:(i:Int)-1=((i-1:Nat):Int)\/i=0:=by omega
   cases c1:inB (bAt s i).v 0 99 with
   |false=>
    rw[c1]at n1;rw[qdg (by simp[qtf,qtg,c1])];exact⟨by simp,by simp[ql4,qgQ,qhJ,qgP,hi,hw,cut,qaP hi,n1]⟩
   |true=>
    rw[c1]at n1
    by_cases c0:0<i
    ·have hw1:IntKind.i64.wrap ((i:Int)-1)=((i-1:Nat):Int):=by rw[wrap_i64 (by omega) (by omega)];omega
     have hp:i-1<s.length:=by omega
     have c0':(i:Int)>0:=by omega
     by_cases c2:(bAt s i).v<=(bAt s (i-1)).v
     ·rw[qdg (by simp[qtf,qtg,c1,c0,c2])]
      exact⟨by simp,by simp[ql4,qgQ,qhJ,qgP,hi,hw,cut,qaP hi,n1,c0,hw1,hp,qaP hp,c2]⟩
     ·cases c3:qdA l (bAt s i).t with
      |false=>
       rw[c3]at n2;rw[qdg (by simp[qtf,qtg,c3])];exact⟨by simp,by simp[ql4,qgQ,qhJ,qgP,hi,hw,cut,qaP hi,n1,c0,hw1,hp,qaP hp,c2,n2]⟩
      |true=>
       rw[c3]at n2;cases c4:qvF s i with
       |true=>
        rw[c4]at hin;rw[qdg (by simp[qtf,c4])];exact⟨by simp,by simp[ql4,qgQ,qhJ,qgP,qkG,qkH,hi,hw,cut,qaP hi,n1,c0,hw1,hp,qaP hp,c2,n2,hin]⟩
       |false=>
        rw[c4]at hin;rw[qkn (by simp[qtf,qtg,c1,c2,c3,c4])];refine⟨_,by simp[ql4,qgQ,qhJ,qgP,qkG,qkH,hi,hw,cut,qaP hi,n1,c0,hw1,hp,qaP hp,c2,n2,hin];rfl,by simp[qag,qad]⟩
    ·cases c3:qdA l (bAt s i).t with
     |false=>
      rw[c3]at n2;rw[qdg (by simp[qtf,qtg,c3])];exact⟨by simp,by simp[ql4,qgQ,qhJ,qgP,hi,hw,cut,qaP hi,n1,c0,n2]⟩
     |true=>
      rw[c3]at n2;cases c4:qvF s i with
      |true=>
       rw[c4]at hin;rw[qdg (by simp[qtf,c4])];exact⟨by simp,by simp[ql4,qgQ,qhJ,qgP,qkG,qkH,hi,hw,cut,qaP hi,n1,c0,n2,hin]⟩
      |false=>
       rw[c4]at hin;rw[qkn (by simp[qtf,qtg,c0,c1,c3,c4])];refine⟨_,by simp[ql4,qgQ,qhJ,qgP,qkG,qkH,hi,hw,cut,qaP hi,n1,c0,n2,hin];rfl,by simp[qag,qad]⟩)
  s.length () 0 ⟨[(0,.d (sg l)),(1,.d (binds .sub s)),(5,.d (.int .i64 0))],[]⟩ (by omega) (by simp[qag,qad])
 rw[qr0]at h;simp[v67,qsd,qsc,qgQ,qhJ,qgP,qkG,qsb,qwX,qkJ,qsa,qkH,qkI];rw[h];unfold qgu;cases hq:qaD (qtf l s) s.length 0<;>simp[v67,qsd,qsc,qgQ,qhJ,qgP,qkG,qsb,qwX,qkJ,qsa,qkH,qkI]
def qjz(b:Bd):List AV:=[.d (.int .i64 b.v),.d (.int .i64 b.t.f),.d (.int .i64 b.t.v),.d (qaj .sub b.t.kids)]
theorem qIy(b c:Bd)(hb:b.t.inner<=1099511627776):qaf XV 71 [.d (c.enc .sub),.ptr 0 0] [some (qjz b)]=some (.d (.bool (qxE c.v b)),[some (qjz b)]):=by
 rw[qap XV _ _ _ v71 rfl qDB rfl];have hc:=qqA b.t hb c.v
 change _=some (AV.d (.int .i64 (cnt b.t c.v)),[])at hc
 simp[v71,qMa,qL9,hc,qxE,qjz]
theorem qhw(l:List Bd)(fk:Nat)(caps:List AV)(B:qan)(P:Bd->Bool)(hl:l.length<=1099511627776)(hs:AV.safe.safes B.length caps=true)(hcc:caps.map AV.clr=caps)(hk:¬0∈XV.lin fk)
 (hf:∀s,s∈l->qaf XV fk (.d (s.enc .sub)::caps) B=some (.d (.bool (P s)),B)):
 qaf XV 76 [.d (binds .sub l),.fn fk caps] B=some (.d (.int .i64 (qew (qaD (fun i=>P (bAt l i)) l.length 0))),B):=by
 rw[qap XV _ _ _ v76 rfl qDw rfl];have h:=qat (X:=XV) (T:=XV.lin 76) (L:=B.length) (live:=[0,1,7,8]) (b:=qCH) (n:=l.length) (st:=fun(_:Unit) i=>⟨[(0,.d (binds .sub l)),(1,.fn fk caps),(7,.d (.int .i64 l.length)),(8,.d (.int .i64 i))],B⟩) (step:=qcD fun i=>P (bAt l i))
  (F:=fun _=>(.exit 0,⟨[(0,.d (binds .sub l)),(1,.fn fk caps),(7,.d (.int .i64 l.length)),(8,.d (.int .i64 l.length)),(9,.d (.bool false))],B⟩)) (R:=fun(j:Nat)=>(.ret,⟨[(4,.d (.int .i64 j))],B⟩))
  (fun a=>⟨by simp,by simp[qCH,qv8,qv7,qv6,qv5,qv4,qv3,qv2,qv1,hcc]⟩)
  (fun a i hi=>by
   have hw:=qao (n:=i) (by omega);have hc:=hf _ (qcF hi);unfold qcD
   by_cases hq:P (bAt l i)=true
   ·rw[if_pos hq];rw[hq]at hc
    exact⟨by simp,by simp[qCH,qv8,qv7,qv6,qv5,qv4,qv3,qv2,qv1,hi,hw,cut,qaP hi,hc,hcc,hk]⟩
   ·rw[if_neg hq]
    have hq':P (bAt l i)=false:=by simpa using hq
    rw[hq']at hc;exact⟨_,by simp[qCH,qv8,qv7,qv6,qv5,qv4,qv3,qv2,qv1,hi,hw,cut,qaP hi,hc,hcc,hk];rfl,by simp[qag,qad,hs]⟩)
  l.length () 0 ⟨[(0,.d (binds .sub l)),(1,.fn fk caps),(7,.d (.int .i64 l.length)),(8,.d (.int .i64 0))],B⟩ (by omega) (by simp[qag,qad,hs])
 rw[qr0]at h;simp only[qNR]at h;simp[v76,qv8,qv7,qv6,qv5,qv4,qv3,qv2,qv1,hcc];rw[h];cases hq:qaD (fun i=>P (bAt l i)) l.length 0<;>simp[qew,v76,qv8,qv7,qv6,qv5,qv4,qv3,qv2,qv1]
theorem qjP(l:List Bd)(fk:Nat)(caps:List AV)(B:qan)(P:Bd->Bool)(hl:l.length<=1099511627776)(hs:AV.safe.safes B.length caps=true)(hcc:caps.map AV.clr=caps)(hk:¬0∈XV.lin fk)
 (hf:∀s,s∈l->qaf XV fk (.d (s.enc .sub)::caps) B=some (.d (.bool (P s)),B)):
 qaf XV 72 [.d (binds .sub l),.fn fk caps] B=some (.d (.bool (qaD (fun i=>P (bAt l i)) l.length 0).isSome),B):=by
 rw[qap XV _ _ _ v72 rfl qDA rfl];have h:=qhw l fk caps B P hl hs hcc hk hf;cases hq:qaD (fun i=>P (bAt l i)) l.length 0 with
 |none=>rw[hq]at h;simp[v72,qIX,qIW,h,qew,hcc]
 |some j=>rw[hq]at h;simp[v72,qIX,qIW,h,qew,hcc]
theorem qjo(q:Nat->Bool):∀(k i:Nat),qaD q k i=none↔∀j,i<=j->j<i+k->q j=false
 |0,i=>by simp[qaD];intro j h h';omega
 |k+1,i=>by
  simp only[qaD]
  by_cases h:q i=true
  ·simp only[h,if_true]
   constructor
   ·intro h';cases h'
   ·intro h';have:=h' i (Nat.le_refl _) (by omega);rw[h]at this;cases this
  ·have h':q i=false:=by simpa using h
   simp only[h'];rw[if_neg (by simp),qjo q k (i+1)];constructor
   ·intro hj j h1 h2
    rcases Nat.eq_or_lt_of_le h1 with rfl|h3
    ·exact h'
    ·exact hj j h3 (by omega)
   ·intro hj j h1 h2;exact hj j (by omega) (by omega)
def qzb(s:List Bd)(i:Nat):Bool:=(qaD (fun j=>qxE (bAt s j).v (bAt s i)) s.length 0).isSome
def qte(l:List SymL)(s:List Bd)(i:Nat):Bool:=qtg l s i||qzb s i
theorem qel{q:Nat->Bool}{n:Nat}:(qaD q n 0).isSome=false↔∀j,j<n->q j=false:=by
 have h:=qjo q n 0;cases hq:qaD q n 0 with
 |none=>simp only[Option.isSome_none,true_iff];intro j hj;exact h.1 hq j (Nat.zero_le _) (by omega)
 |some k=>
  simp only[Option.isSome_some];constructor
  ·intro h';cases h'
  ·intro h'
   have:=h.2 (fun j _ hj=>h' j (by omega));rw[hq]at this;cases this
theorem qy2(l:List SymL)(s:List Bd):qgu l s=(qaD (qte l s) s.length 0).isNone:=by
 have key:(qaD (qtf l s) s.length 0).isSome=false↔(qaD (qte l s) s.length 0).isSome=false:=by
  rw[qel,qel];simp only[qtf,qte,qvF,qzb,Bool.or_eq_false_iff,qel];constructor
  ·intro h i hi;exact⟨(h i hi).1,fun j hj=>(h j hj).2 i hi⟩
  ·intro h i hi;exact⟨(h i hi).1,fun j hj=>(h j hj).2 i hi⟩
 unfold qgu;cases h1:qaD (qtf l s) s.length 0<;>cases h2:qaD (qte l s) s.length 0<;>simp[h1,h2]at key⊢
theorem qjk(l:List SymL)(s:List Bd)(hs:l.length<=1099511627776)(hn:∀i,i<l.length->(qaw l i).name.size<=1099511627776)(hl:s.length<=1099511627776)(hb:∀i,i<s.length->(bAt s i).t.inner<=1099511627776):
 qaf XV 68 [.d (sg l),.d (binds .sub s)] []=some (.d (.bool (qgu l s)),[]):=by
 rw[qap XV _ _ _ v68 rfl qDD rfl,qy2];have h:=qat (X:=XV) (T:=XV.lin 68) (L:=0) (live:=[0,1,7,8,9]) (b:=ql3) (n:=s.length) (γ:=Nat) (st:=fun(_:Unit) i=>⟨[(0,.d (sg l)),(1,.d (binds .sub s)),(7,.d (binds .sub s)),(8,.d (.int .i64 s.length)),(9,.d (.int .i64 i))],[]⟩) (step:=qcD (qte l s))
  (F:=fun _=>(.exit 0,⟨[(0,.d (sg l)),(1,.d (binds .sub s)),(7,.d (binds .sub s)),(8,.d (.int .i64 s.length)),(9,.d (.int .i64 s.length)),(10,.d (.bool false))],[]⟩)) (R:=fun i=>(.ret,⟨[(4,.d (.bool false))],[some (qjz (bAt s i))]⟩))
  (fun _=>⟨by simp,by simp[ql3,qjO,qjN,qjM,qjL,qlR,qjK,qjJ,qjI,qjH,qjG]⟩)
  (fun _ i hi=>by
   have hw:=qao (n:=i) (by omega);have n1:=qis (bAt s i).v 0 99;have n2:=qot l hs hn (bAt s i).t (hb i hi);have hin:=qjP s 71 [.ptr 0 0] [some (qjz (bAt s i))] (fun c=>qxE c.v (bAt s i)) hl (by simp) (by simp) (by simp) (fun c _=>qIy (bAt s i) c (hb i hi))
   change _=some (AV.d (.bool (qzb s i)),_)at hin
   unfold qjz at hin⊢
   cases c1:inB (bAt s i).v 0 99 with
   |false=>
    rw[c1]at n1;rw[qdg (by simp[qte,qtg,c1])];exact⟨by simp,by simp[ql3,qjO,qjN,qjM,qjL,qlR,qjK,qjJ,qjI,qjH,qjG,splice,qae,hi,hw,cut,qaP hi,n1]⟩
   |true=>
    rw[c1]at n1
    by_cases c0:0<i
    ·have hw1:IntKind.i64.wrap ((i:Int)-1)=((i-1:Nat):Int):=by rw[wrap_i64 (by omega) (by omega)];omega
     have hp:i-1<s.length:=by omega
     have c0':(i:Int)>0:=by omega
     by_cases c2:(bAt s i).v<=(bAt s (i-1)).v
     ·rw[qdg (by simp[qte,qtg,c1,c0,c2])]
      exact⟨by simp,by simp[ql3,qjO,qjN,qjM,qjL,qlR,qjK,qjJ,qjI,qjH,qjG,splice,qae,hi,hw,cut,qaP hi,n1,c0,hw1,hp,qaP hp,c2]⟩
     ·cases c3:qdA l (bAt s i).t with
      |false=>
       rw[c3]at n2;rw[qdg (by simp[qte,qtg,c3])];exact⟨by simp,by simp[ql3,qjO,qjN,qjM,qjL,qlR,qjK,qjJ,qjI,qjH,qjG,splice,qae,hi,hw,cut,qaP hi,n1,c0,hw1,hp,qaP hp,c2,n2]⟩
      |true=>
       rw[c3]at n2;cases c4:qzb s i with
       |true=>
        rw[c4]at hin;rw[qdg (by simp[qte,c4])];exact⟨by simp,by simp[ql3,qjO,qjN,qjM,qjL,qlR,qjK,qjJ,qjI,qjH,qjG,splice,qae,hi,hw,cut,qaP hi,n1,c0,hw1,hp,qaP hp,c2,n2,hin]⟩
       |false=>
        rw[c4]at hin;rw[qkn (by simp[qte,qtg,c1,c2,c3,c4])];refine⟨_,by simp[ql3,qjO,qjN,qjM,qjL,qlR,qjK,qjJ,qjI,qjH,qjG,splice,qae,hi,hw,cut,qaP hi,n1,c0,hw1,hp,qaP hp,c2,n2,hin];rfl,by simp[qag,qad]⟩
    ·cases c3:qdA l (bAt s i).t with
     |false=>
      rw[c3]at n2;rw[qdg (by simp[qte,qtg,c3])];exact⟨by simp,by simp[ql3,qjO,qjN,qjM,qjL,qlR,qjK,qjJ,qjI,qjH,qjG,splice,qae,hi,hw,cut,qaP hi,n1,c0,n2]⟩
     |true=>
      rw[c3]at n2;cases c4:qzb s i with
      |true=>
       rw[c4]at hin;rw[qdg (by simp[qte,c4])];exact⟨by simp,by simp[ql3,qjO,qjN,qjM,qjL,qlR,qjK,qjJ,qjI,qjH,qjG,splice,qae,hi,hw,cut,qaP hi,n1,c0,n2,hin]⟩
      |false=>
       rw[c4]at hin;rw[qkn (by simp[qte,qtg,c0,c1,c3,c4])];refine⟨_,by simp[ql3,qjO,qjN,qjM,qjL,qlR,qjK,qjJ,qjI,qjH,qjG,splice,qae,hi,hw,cut,qaP hi,n1,c0,n2,hin];rfl,by simp[qag,qad]⟩)
  s.length () 0 ⟨[(0,.d (sg l)),(1,.d (binds .sub s)),(7,.d (binds .sub s)),(8,.d (.int .i64 s.length)),(9,.d (.int .i64 0))],[]⟩ (by omega) (by simp[qag,qad])
 rw[qr0]at h;simp only[qNS]at h;simp[v68,qjO,qjN,qjM,qjL,qlR,qjK,qjJ,qjI,qjH,qjG];rw[h];cases hq:qaD (qte l s) s.length 0<;>simp[v68,qjO,qjN,qjM,qjL,qlR,qjK,qjJ,qjI,qjH,qjG]
end Go.Proofs.Ytfiakfiocdfpbaa.VS
namespace Go.Proofs.Ytfiakfiocdfpbaa.VS
def qdS(u:List Bd)(v:Int):Option Nat:=qaD (fun i=>decide (v<=(bAt u i).v)) u.length 0
def atB(u:List Bd)(v:Int)(i:Nat):Bool:=decide (qdS u v=some i)
def qtd(u:List Bd)(v:Int)(i:Nat):Bool:=match qdS u v with
 |some j=>decide (j<i)
 |none=>false
theorem qFV(u:List Bd)(v:Int)(i:Nat)(hi:i<u.length):atB u v i=(!qtd u v i&&decide (v<=(bAt u i).v)):=by
 have h:=qfe (fun i=>decide (v<=(bAt u i).v)) u.length 0;unfold atB qtd qdS;cases hq:qaD (fun i=>decide (v<=(bAt u i).v)) u.length 0 with
 |none=>
  have:=h.2 hq i (by omega) (by omega);simp[this]
 |some j=>
  have h1:=(qb2 _ _ _ _ hq)
  by_cases e:j=i
  ·subst e
   have:=h1.2.2;simp[this]
  ·rcases Nat.lt_or_ge j i with e1|e1
   ·simp[e,e1]
   ·have:=h.1 j hq i (by omega) (by omega)
    simp[e,this]
theorem qCz(u:List Bd)(v:Int):qtd u v 0=false:=by unfold qtd;split<;>simp
theorem qCA(u:List Bd)(v:Int)(i:Nat):qtd u v (i+1)=(qtd u v i||atB u v i):=by
 unfold qtd atB;cases qdS u v with
 |none=>simp
 |some j=>
  simp only[Option.some.injEq,Bool.or_eq_decide];rw[Bool.eq_iff_iff];simp;omega
theorem qFM(u:List Bd)(v:Int):qtd u v u.length=(qdS u v).isSome:=by
 unfold qtd;cases hq:qdS u v with
 |none=>rfl
 |some j=>
  have:=(qb2 _ _ _ _ hq).2.1;simp;omega
theorem qEW(u:List Bd)(v:Int)(i:Nat):((i:Int)==qew (qdS u v))=atB u v i:=by
 unfold atB;cases qdS u v with
 |none=>
  simp only[qew];rw[beq_false_of_ne (by omega)];simp
 |some j=>
  simp only[qew]
  by_cases h:i=j
  ·subst h;simp
  ·rw[beq_false_of_ne (by omega)]
   symm;simp;omega
theorem qAR(u:List Bd)(v:Int):decide (qew (qdS u v)<0)= !(qdS u v).isSome:=by
 cases qdS u v with
 |none=>rfl
 |some j=>
  have:¬((j:Int)<0):=by omega
  simp[qew,this]
def qC6(l:List SymL)(u:List Bd)(v:Int)(t:T)(i:Nat):List Bd:=
 (if atB u v i=true then [⟨v,t⟩]else [])++(if((bAt u i).v==v)=true then []else [⟨(bAt u i).v,qbR l [⟨v,t⟩] (bAt u i).t⟩])
def qiF(l:List SymL)(u:List Bd)(v:Int)(t:T):Nat->List Bd
 |0=>[]
 |i+1=>qiF l u v t i++qC6 l u v t i
def qbC(l:List SymL)(u:List Bd)(v:Int)(t:T):List Bd:=qiF l u v t u.length++(if(qdS u v).isSome=true then []else [⟨v,t⟩])
theorem qEV(l:List SymL)(u:List Bd)(v:Int)(t:T)(i:Nat):(qC6 l u v t i).length<=2:=by
 unfold qC6;split<;>split<;>simp
theorem qgp(l:List SymL)(u:List Bd)(v:Int)(t:T):∀i,(qiF l u v t i).length<=2*i
 |0=>by simp[qiF]
 |i+1=>by
  have h1:=qgp l u v t i;have h2:=qEV l u v t i;simp only[qiF,List.length_append];omega
theorem qCP(a:List Bd)(x:Bd)(h:(a.length+1)*48<=140737488355328):qaS 4 48 (.sl U (a.map (Bd.enc U))) (.sl U [x.enc U])=some (.sl U ((a++[x]).map (Bd.enc U))):=by
 unfold qaS;simp only;rw[if_pos (by simp[qaa,qab])];simp only[List.isEmpty_cons,Bool.false_eq_true,if_false];rw[if_pos ⟨by simpa using h,trivial,by simp⟩];simp
theorem qeR(a:List Bd)(v:Int)(t:T)(h:(a.length+1)*48<=140737488355328):qaS 4 48 (.sl U (a.map (Bd.enc U))) (.sl U [.agg [.int .i64 v,.int .i64 t.f,.int .i64 t.v,qaj U t.kids]])=some (.sl U ((a++[(⟨v,t⟩:Bd)]).map (Bd.enc U))):=qCP a ⟨v,t⟩ h
theorem qy3(b:Bd)(v:Int)(c1:Option (List AV)):qaf XV 167 [.d (b.enc .sub),.ptr 0 0] [some [.d (.int .i64 v)],c1]=some (.d (.bool (decide (v<=b.v))),[some [.d (.int .i64 v)],c1]):=by
 rw[qap XV _ _ _ qKF rfl qx6 rfl];simp[qKF,qGr,qGq,splice,qaa,qab,qac,qai,qae]
def vB(v:Int)(t:T):qan:=[some [.d (.int .i64 v)],some [.d (.int .i64 t.f),.d (.int .i64 t.v),.d (qaj .sub t.kids)]]
theorem qKu(l:List SymL)(u:List Bd)(v k:Int)(t:T)(O:DV)(hO:O.clr=O)(acc:List Bd)(hacc:acc.length+2<=2199023255560)(i:Nat)(hi:i<u.length)(hul:u.length<=1099511627776)(hk:((i:Int)==k)=atB u v i)
 (hcp:qaf XV 150 [.d (t.enc .sub)] []=some (.d (t.enc U),[])) (hap:qaf XV 135 [.d (sg l),.d O,.d ((bAt u i).t.enc .sub)] []=some (.d ((qbR l [⟨v,t⟩] (bAt u i).t).enc U),[])):
 ∃e:qan,qau XV (XV.lin 137) qjD ⟨[(0,.d (sg l)),(6,.ptr 0 0),(7,.ptr 1 0),(9,.d O),(10,.d (.sl U (acc.map (Bd.enc U)))),(11,.d (.int .i64 k)),(22,.d (binds .sub u)),(23,.d (.int .i64 u.length)),(24,.d (.int .i64 i))],vB v t⟩=
  some (.normal,⟨[(0,.d (sg l)),(6,.ptr 0 0),(7,.ptr 1 0),(9,.d O),(10,.d (.sl U ((acc++qC6 l u v t i).map (Bd.enc U)))),(11,.d (.int .i64 k)),(22,.d (binds .sub u)),(23,.d (.int .i64 u.length)),(24,.d (.int .i64 (i+1:Nat)))],vB v t++e⟩):=by
 have hw:=qao (n:=i) (by omega);have ht:=qaP hi;refine⟨[some (qjz (bAt u i))],?_⟩;unfold qC6 vB qjz;generalize qbR l [⟨v,t⟩] (bAt u i).t=a at*
 generalize hb:bAt u i=b at*
 have a1:=qeR acc v t (by omega);have a2:=qeR (acc++[⟨v,t⟩]) b.v a (by simp;omega);have a3:=qeR acc b.v a (by omega);have c1:∀a:List Bd,(a.map (Bd.enc U)).map DV.clr=a.map (Bd.enc .sub):=fun a=>by simp
 cases h1:atB u v i<;>cases h2:(b.v==v)
 ·have h2n:(b.v !=v)=true:=by simp[bne,h2]
  rw[h1]at hk;simp only[Bool.false_eq_true,if_false,List.nil_append];generalize (acc++[(⟨b.v,a⟩:Bd)]).map (Bd.enc U)=R3 at*
  generalize acc.map (Bd.enc U)=R1 at*
  simp[qjD,qgD,qgC,qgB,qgA,qgz,qgy,qgx,qgw,qhK,qgv,qfj,qev,qeu,qfi,qet,hi,hw,cut,ht,hk,h2n,hap,hO,a3,splice,qaa,qab,qac,qai,qae]
 ·have h2n:(b.v !=v)=false:=by simp[bne,h2]
  rw[h1]at hk;simp only[Bool.false_eq_true,if_false,if_true,List.nil_append,List.append_nil];generalize acc.map (Bd.enc U)=R1 at*
  simp[qjD,qgD,qgC,qgB,qgA,qgz,qgy,qgx,qgw,qhK,qgv,qfj,qev,qeu,qfi,qet,hi,hw,cut,ht,hk,h2n,hO,splice,qaa,qab,qac,qai,qae]
 ·have h2n:(b.v !=v)=true:=by simp[bne,h2]
  rw[h1]at hk;simp only[Bool.false_eq_true,if_false,if_true,List.append_assoc]at a1 a2⊢
  generalize (acc++([(⟨v,t⟩:Bd)]++[(⟨b.v,a⟩:Bd)])).map (Bd.enc U)=R3 at*
  generalize (acc++[(⟨v,t⟩:Bd)]).map (Bd.enc U)=R2 at*
  generalize acc.map (Bd.enc U)=R1 at*
  simp[qjD,qgD,qgC,qgB,qgA,qgz,qgy,qgx,qgw,qhK,qgv,qfj,qev,qeu,qfi,qet,hi,hw,cut,ht,hk,h2n,hap,hcp,hO,a1,a2,splice,qaa,qab,qac,qai,qae]
 ·have h2n:(b.v !=v)=false:=by simp[bne,h2]
  rw[h1]at hk;simp only[if_true,List.append_nil];generalize (acc++[(⟨v,t⟩:Bd)]).map (Bd.enc U)=R2 at*
  generalize acc.map (Bd.enc U)=R1 at*
  simp[qjD,qgD,qgC,qgB,qgA,qgz,qgy,qgx,qgw,qhK,qgv,qfj,qev,qeu,qfi,qet,hi,hw,cut,ht,hk,h2n,hcp,hO,a1,splice,qaa,qab,qac,qai,qae]
theorem qou(l:List SymL)(hs:l.length<=1099511627776)(u:List Bd)(v:Int)(t:T)(hu:u.length<=1048577)(hb:∀i,i<u.length->(bAt u i).t.inner<=1099511627776)(ht:t.inner<=1099511627776)(hf:∀i,i<u.length->(qbu [⟨v,t⟩] (bAt u i).t).inner<=1099511627776):
 qaf XV 137 [.d (sg l),.d (binds .sub u),.d (.int .i64 v),.d (t.enc .sub)] []=some (.d (binds U (qbC l u v t)),[]):=by
 have hcp:=qgW t ht;have hix:=qhw u 167 [.ptr 0 0] (vB v t) (fun b=>decide (v<=b.v)) (by omega) (by simp[qh7,qbg,vB]) (by simp) (by simp) (fun b hb=>qy3 b v _);have hone:∀i,i<u.length->qaf XV 135 [.d (sg l),.d (binds .sub [(⟨v,t⟩:Bd)]),.d ((bAt u i).t.enc .sub)] []=some (.d ((qbR l [⟨v,t⟩] (bAt u i).t).enc U),[]):=fun i hi=>
  qfO l hs [⟨v,t⟩] (bAt u i).t (by simp) (fun j hj=>by simp at hj;subst hj;exact ht) (hb i hi) (hf i hi)
 have hO:(binds .sub [(⟨v,t⟩:Bd)]).clr=binds .sub [(⟨v,t⟩:Bd)]:=by simp
 have hOe:binds .sub [(⟨v,t⟩:Bd)]= .sl .sub [.agg [.int .i64 v,.int .i64 t.f,.int .i64 t.v,qaj .sub t.kids]]:=rfl;have head:∀(x:Int) (R:DV) (O:DV) (e:qan),qag 2 [0,6,7,9,10,11,22,23,24] ⟨[(0,.d (sg l)),(6,.ptr 0 0),(7,.ptr 1 0),(9,.d O),(10,.d R),(11,.d (.int .i64 (qew (qdS u v)))),(22,.d (binds .sub u)),(23,.d (.int .i64 u.length)),(24,.d (.int .i64 x))],vB v t++e⟩=some ⟨[(0,.d (sg l)),(6,.ptr 0 0),(7,.ptr 1 0),(9,.d O),(10,.d R),(11,.d (.int .i64 (qew (qdS u v)))),(22,.d (binds .sub u)),(23,.d (.int .i64 u.length)),(24,.d (.int .i64 x))],vB v t⟩:=fun x R O e=>
  qbX (by simp) (by simp[qad]) (by simp[vB]) rfl
 have hloop:∀(k i:Nat),i+k=u.length->∀e:qan,qbj XV (XV.lin 137) 2 [0,6,7,9,10,11,22,23,24] qjD ⟨[(0,.d (sg l)),(6,.ptr 0 0),(7,.ptr 1 0),(9,.d (binds .sub [(⟨v,t⟩:Bd)])),(10,.d (.sl U ((qiF l u v t i).map (Bd.enc U)))),(11,.d (.int .i64 (qew (qdS u v)))),(22,.d (binds .sub u)),(23,.d (.int .i64 u.length)),(24,.d (.int .i64 i))],vB v t++e⟩=
  some (.exit 0,⟨[(0,.d (sg l)),(6,.ptr 0 0),(7,.ptr 1 0),(9,.d (binds .sub [(⟨v,t⟩:Bd)])),(10,.d (.sl U ((qiF l u v t u.length).map (Bd.enc U)))),(11,.d (.int .i64 (qew (qdS u v)))),(22,.d (binds .sub u)),(23,.d (.int .i64 u.length)),(24,.d (.int .i64 u.length)),(25,.d (.bool false))],vB v t⟩):=by
  intro k
  induction k with
  |zero=>
   intro i hi e;have:i=u.length:=by omega
   subst this;refine qaL (head _ _ _ e) ?_ (by simp);generalize (qiF l u v t u.length).map (Bd.enc U)=R;simp[qjD,qgD,qgC,qgB,qgA,qgz,qgy,qgx,qgw,qhK,qgv,qfj,qev,qeu,qfi,qet,vB]
  |succ k ih=>
   intro i hi e;have hlt:i<u.length:=by omega
   have hal:=qgp l u v t i;obtain⟨e',he⟩:=qKu l u v (qew (qdS u v)) t (binds .sub [(⟨v,t⟩:Bd)]) hO (qiF l u v t i) (by omega) i hlt (by omega) (qEW u v i) hcp (hone i hlt);rw[<-ih (i+1) (by omega) e'];exact qa7 (head _ _ _ e) he
 have h1:=hloop u.length 0 (by omega) [];have hal:=qgp l u v t u.length;have hneg:=qAR u v;have ha:=qeR (qiF l u v t u.length) v t (by omega);have hixv:qew (qaD (fun i=>decide (v<=(bAt u i).v)) u.length 0)=qew (qdS u v):=rfl;rw[qap XV _ _ _ qD4 rfl qyA rfl];unfold qbC;rw[hixv]at hix;generalize qew (qdS u v)=k at*
 simp only[qiF,List.map_nil,List.append_nil,qJL,Int.natCast_zero,vB]at h1 hix;rw[hOe]at h1;cases hsome:(qdS u v).isSome with
 |true=>
  simp only[if_true,List.append_nil,binds];generalize (qiF l u v t u.length).map (Bd.enc U)=R at*
  rw[hsome]at hneg;simp only[decide_eq_false_iff_not,Bool.not_true]at hneg;simp[qD4,qgD,qgC,qgB,qgA,qgz,qgy,qgx,qgw,qhK,qgv,qfj,qev,qeu,qfi,qet,hix,qhO,splice,qaa,qab,qac,qai,qae];rw[h1];simp[qD4,qgD,qgC,qgB,qgA,qgz,qgy,qgx,qgw,qhK,qgv,qfj,qev,qeu,qfi,qet,hneg]
 |false=>
  simp only[Bool.false_eq_true,if_false,binds];generalize (qiF l u v t u.length++[(⟨v,t⟩:Bd)]).map (Bd.enc U)=R2 at*
  generalize (qiF l u v t u.length).map (Bd.enc U)=R at*
  rw[hsome]at hneg;simp only[decide_eq_true_eq,Bool.not_false]at hneg;simp[qD4,qgD,qgC,qgB,qgA,qgz,qgy,qgx,qgw,qhK,qgv,qfj,qev,qeu,qfi,qet,hix,qhO,splice,qaa,qab,qac,qai,qae];rw[h1];simp[qD4,qgD,qgC,qgB,qgA,qgz,qgy,qgx,qgw,qhK,qgv,qfj,qev,qeu,qfi,qet,hneg,hcp,ha,qhO,splice,qaa,qab,qac,qai,qae]
theorem qON{d:DV}{b:Bd}(h:d.clr=b.enc .sub):d.cells.length=4:=by
 cases d with
 |agg cs=>
  simp only[DV.clr,Bd.enc,DV.agg.injEq]at h;have:=congrArg List.length h;rw[DV.qam,List.length_map]at this;simpa[DV.cells]using this
 |_=>unfold DV.clr Bd.enc at h;cases h
theorem qPO(R:List DV)(acc:List Bd)(hR:R.map DV.clr=acc.map (Bd.enc .sub))(v f w:Int)(g:Tag)(X:List DV)(h:(acc.length+1)*48<=140737488355328):
 qaS 4 48 (.sl U R) (.sl U [.agg [.int .i64 v,.int .i64 f,.int .i64 w,.sl g X]])=some (.sl U (R++[DV.agg [.int .i64 v,.int .i64 f,.int .i64 w,.sl g X]])):=by
 have hlen:R.length=acc.length:=by have:=congrArg List.length hR;simpa using this
 have hall:R.all (fun e=>decide (e.cells.length=4))=true:=by
  rw[List.all_eq_true];intro d hd;have:d.clr∈acc.map (Bd.enc .sub):=by rw[<-hR];exact List.mem_map_of_mem hd
  obtain⟨b,_,hb⟩:=List.mem_map.1 this;simp[qON hb.symm]
 unfold qaS;simp only;rw[if_pos (by simp[DV.cells,qaa,qab])];simp only[List.isEmpty_cons,Bool.false_eq_true,if_false];rw[if_pos ⟨by simp[hlen];omega,trivial,hall⟩]
theorem qKt(l:List SymL)(u:List Bd)(v:Int)(t:T)(O:DV)(hO:O.clr=O)(acc:List Bd)(R:List DV)(hR:R.map DV.clr=acc.map (Bd.enc .sub))(hacc:acc.length+2<=2199023255560)(i:Nat)(hi:i<u.length)(hul:u.length<=1099511627776)
 (hcp:qaf XV 146 [.d (t.enc .sub)] []=some (.d (t.enc U),[])) (d:DV) (hap:qaf XV 141 [.d (sg l),.d O,.d ((bAt u i).t.enc .sub)] []=some (.d d,[])) (hd:IsV d (qbR l [⟨v,t⟩] (bAt u i).t)):
 ∃R2,qau XV (XV.lin 142) qfu ⟨[(0,.d (sg l)),(1,.d (binds .sub u)),(2,.d (.int .i64 v)),(7,.ptr 0 0),(9,.d (.sl U R)),(10,.d O),(11,.d (.bool (qtd u v i))),(12,.d (.int .i64 i))],[some [.d (.int .i64 t.f),.d (.int .i64 t.v),.d (qaj .sub t.kids)]]⟩=
  some (.normal,⟨[(0,.d (sg l)),(1,.d (binds .sub u)),(2,.d (.int .i64 v)),(7,.ptr 0 0),(9,.d (.sl U R2)),(10,.d O),(11,.d (.bool (qtd u v (i+1)))),(12,.d (.int .i64 (i+1:Nat)))],[some [.d (.int .i64 t.f),.d (.int .i64 t.v),.d (qaj .sub t.kids)]]⟩)/\R2.map DV.clr=(acc++qC6 l u v t i).map (Bd.enc .sub):=by
 have hw:=qao (n:=i) (by omega);have ht:=qaP hi;have hat:=qFV u v i hi;rw[qCA];unfold qC6;obtain⟨g,X,rfl,hX⟩:=hd;generalize qbR l [⟨v,t⟩] (bAt u i).t=a at*
 generalize hb:bAt u i=b at*
 have a1:=qPO R acc hR v t.f t.v U (t.kids.map (T.enc U)) (by omega);have hR1:(R++[DV.agg [.int .i64 v,.int .i64 t.f,.int .i64 t.v,.sl U (t.kids.map (T.enc U))]]).map DV.clr=(acc++[(⟨v,t⟩:Bd)]).map (Bd.enc .sub):=by
  rw[List.map_append,List.map_append,hR];simp only[List.map_cons,List.map_nil,DV.clr,DV.clrs,Bd.enc];rw[DV.qam,qbz]
 have a2:=qPO _ _ hR1 b.v a.f a.v g X (by simp;omega);have a3:=qPO R acc hR b.v a.f a.v g X (by omega);have hR3:∀(Y:List DV) (c:List Bd),Y.map DV.clr=c.map (Bd.enc .sub)->(Y++[DV.agg [.int .i64 b.v,.int .i64 a.f,.int .i64 a.v,.sl g X]]).map DV.clr=(c++[(⟨b.v,a⟩:Bd)]).map (Bd.enc .sub):=fun Y c hY=>by
  rw[List.map_append,List.map_append,hY];simp only[List.map_cons,List.map_nil,DV.clr,DV.clrs,Bd.enc];rw[DV.qam,hX]
 generalize hR1e:R++[DV.agg [.int .i64 v,.int .i64 t.f,.int .i64 t.v,.sl U (t.kids.map (T.enc U))]]=R1 at*
 cases h0:qtd u v i<;>cases h1:decide (v<=b.v)<;>cases h2:(b.v==v)
 all_goals rw[h0,h1]at hat
 all_goals simp only[Bool.not_false,Bool.not_true,Bool.and_true,Bool.and_false,Bool.true_and,Bool.false_and]at hat
 all_goals rw[hat]
 all_goals simp only[Bool.false_eq_true,if_false,if_true,List.nil_append,List.append_nil,List.append_assoc,Bool.or_true,Bool.or_false]
 ·have h2n:(b.v !=v)=true:=by simp[bne,h2]
  refine⟨_,?_,hR3 R acc hR⟩;generalize R++[DV.agg [.int .i64 b.v,.int .i64 a.f,.int .i64 a.v,.sl g X]]=R3 at*
  simp[qfu,qei,qeh,qeg,qef,qee,qed,qeb,qea,qd9,qc6,qdk,qec,qc5,qc4,qc3,hi,hw,cut,ht,h0,h1,h2n,hap,hcp,hO,hX,a1,a2,a3,splice,AV.qam,qhO,qaa,qab,qac,qai,qae]
 ·have h2n:(b.v !=v)=false:=by simp[bne,h2]
  refine⟨R,?_,hR⟩;simp[qfu,qei,qeh,qeg,qef,qee,qed,qeb,qea,qd9,qc6,qdk,qec,qc5,qc4,qc3,hi,hw,cut,ht,h0,h1,h2n,hap,hcp,hO,hX,a1,a2,a3,splice,AV.qam,qhO,qaa,qab,qac,qai,qae]
 ·have h2n:(b.v !=v)=true:=by simp[bne,h2]
  have hR4:=hR3 R1 _ hR1;simp only[List.append_assoc]at hR4;refine⟨_,?_,hR4⟩;generalize R1++[DV.agg [.int .i64 b.v,.int .i64 a.f,.int .i64 a.v,.sl g X]]=R3 at*
  simp[qfu,qei,qeh,qeg,qef,qee,qed,qeb,qea,qd9,qc6,qdk,qec,qc5,qc4,qc3,hi,hw,cut,ht,h0,h1,h2n,hap,hcp,hO,hX,a1,a2,a3,splice,AV.qam,qhO,qaa,qab,qac,qai,qae]
 ·have h2n:(b.v !=v)=false:=by simp[bne,h2]
  refine⟨R1,?_,hR1⟩;simp[qfu,qei,qeh,qeg,qef,qee,qed,qeb,qea,qd9,qc6,qdk,qec,qc5,qc4,qc3,hi,hw,cut,ht,h0,h1,h2n,hap,hcp,hO,hX,a1,a2,a3,splice,AV.qam,qhO,qaa,qab,qac,qai,qae]
 ·have h2n:(b.v !=v)=true:=by simp[bne,h2]
  refine⟨_,?_,hR3 R acc hR⟩;generalize R++[DV.agg [.int .i64 b.v,.int .i64 a.f,.int .i64 a.v,.sl g X]]=R3 at*
  simp[qfu,qei,qeh,qeg,qef,qee,qed,qeb,qea,qd9,qc6,qdk,qec,qc5,qc4,qc3,hi,hw,cut,ht,h0,h1,h2n,hap,hcp,hO,hX,a1,a2,a3,splice,AV.qam,qhO,qaa,qab,qac,qai,qae]
 ·have h2n:(b.v !=v)=false:=by simp[bne,h2]
  refine⟨R,?_,hR⟩;simp[qfu,qei,qeh,qeg,qef,qee,qed,qeb,qea,qd9,qc6,qdk,qec,qc5,qc4,qc3,hi,hw,cut,ht,h0,h1,h2n,hap,hcp,hO,hX,a1,a2,a3,splice,AV.qam,qhO,qaa,qab,qac,qai,qae]
 ·have h2n:(b.v !=v)=true:=by simp[bne,h2]
  refine⟨_,?_,hR3 R acc hR⟩;generalize R++[DV.agg [.int .i64 b.v,.int .i64 a.f,.int .i64 a.v,.sl g X]]=R3 at*
  simp[qfu,qei,qeh,qeg,qef,qee,qed,qeb,qea,qd9,qc6,qdk,qec,qc5,qc4,qc3,hi,hw,cut,ht,h0,h1,h2n,hap,hcp,hO,hX,a1,a2,a3,splice,AV.qam,qhO,qaa,qab,qac,qai,qae]
 ·have h2n:(b.v !=v)=false:=by simp[bne,h2]
  refine⟨R,?_,hR⟩;simp[qfu,qei,qeh,qeg,qef,qee,qed,qeb,qea,qd9,qc6,qdk,qec,qc5,qc4,qc3,hi,hw,cut,ht,h0,h1,h2n,hap,hcp,hO,hX,a1,a2,a3,splice,AV.qam,qhO,qaa,qab,qac,qai,qae]
theorem qnF(l:List SymL)(hs:l.length<=1099511627776)(u:List Bd)(v:Int)(t:T)(hu:u.length<=1048577)(hb:∀i,i<u.length->(bAt u i).t.inner<=1099511627776)(ht:t.inner<=1099511627776)(hf:∀i,i<u.length->(qbu [⟨v,t⟩] (bAt u i).t).inner<=1099511627776):
 ∃R,qaf XV 142 [.d (sg l),.d (binds .sub u),.d (.int .i64 v),.d (t.enc .sub)] []=some (.d (.sl U R),[])/\R.map DV.clr=(qbC l u v t).map (Bd.enc .sub):=by
 have hcp:=qlz t ht;have hone:∀i,i<u.length->∃d,qaf XV 141 [.d (sg l),.d (binds .sub [(⟨v,t⟩:Bd)]),.d ((bAt u i).t.enc .sub)] []=some (.d d,[])/\IsV d (qbR l [⟨v,t⟩] (bAt u i).t):=fun i hi=>
  qiO l hs [⟨v,t⟩] (bAt u i).t (by simp) (fun j hj=>by simp at hj;subst hj;exact ht) (hb i hi) (hf i hi)
 have hO:(binds .sub [(⟨v,t⟩:Bd)]).clr=binds .sub [(⟨v,t⟩:Bd)]:=by simp
 have hOe:binds .sub [(⟨v,t⟩:Bd)]= .sl .sub [.agg [.int .i64 v,.int .i64 t.f,.int .i64 t.v,qaj .sub t.kids]]:=rfl;have head:∀(x:Int) (R O:DV) (p:Bool),qag 1 [0,1,2,7,9,10,11,12] ⟨[(0,.d (sg l)),(1,.d (binds .sub u)),(2,.d (.int .i64 v)),(7,.ptr 0 0),(9,.d R),(10,.d O),(11,.d (.bool p)),(12,.d (.int .i64 x))],[some [.d (.int .i64 t.f),.d (.int .i64 t.v),.d (qaj .sub t.kids)]]⟩=some ⟨[(0,.d (sg l)),(1,.d (binds .sub u)),(2,.d (.int .i64 v)),(7,.ptr 0 0),(9,.d R),(10,.d O),(11,.d (.bool p)),(12,.d (.int .i64 x))],[some [.d (.int .i64 t.f),.d (.int .i64 t.v),.d (qaj .sub t.kids)]]⟩:=fun x R O p=>by
  simp[qag,qad]
 have hloop:∀(k i:Nat),i+k=u.length->∀R,R.map DV.clr=(qiF l u v t i).map (Bd.enc .sub)->∃R2,qbj XV (XV.lin 142) 1 [0,1,2,7,9,10,11,12] qfu ⟨[(0,.d (sg l)),(1,.d (binds .sub u)),(2,.d (.int .i64 v)),(7,.ptr 0 0),(9,.d (.sl U R)),(10,.d (binds .sub [(⟨v,t⟩:Bd)])),(11,.d (.bool (qtd u v i))),(12,.d (.int .i64 i))],[some [.d (.int .i64 t.f),.d (.int .i64 t.v),.d (qaj .sub t.kids)]]⟩=
  some (.exit 0,⟨[(0,.d (sg l)),(1,.d (binds .sub u)),(2,.d (.int .i64 v)),(7,.ptr 0 0),(9,.d (.sl U R2)),(10,.d (binds .sub [(⟨v,t⟩:Bd)])),(11,.d (.bool (qtd u v u.length))),(12,.d (.int .i64 u.length)),(21,.d (.bool false))],[some [.d (.int .i64 t.f),.d (.int .i64 t.v),.d (qaj .sub t.kids)]]⟩)/\R2.map DV.clr=(qiF l u v t u.length).map (Bd.enc .sub):=by
  intro k
  induction k with
  |zero=>
   intro i hi R hR;have:i=u.length:=by omega
   subst this;refine⟨R,qaL (head _ _ _ _) ?_ (by simp),hR⟩;generalize qtd u v u.length=p;simp[qfu,qei,qeh,qeg,qef,qee,qed,qeb,qea,qd9,qc6,qdk,qec,qc5,qc4,qc3]
  |succ k ih=>
   intro i hi R hR;have hlt:i<u.length:=by omega
   have hal:=qgp l u v t i;obtain⟨d,hd1,hd2⟩:=hone i hlt;obtain⟨R2,e1,e2⟩:=qKt l u v t (binds .sub [(⟨v,t⟩:Bd)]) hO (qiF l u v t i) R hR (by omega) i hlt (by omega) hcp d hd1 hd2;obtain⟨R3,e3,e4⟩:=ih (i+1) (by omega) R2 e2;exact⟨R3,by rw[<-e3];exact qa7 (head _ _ _ _) e1,e4⟩
 obtain⟨R,h1,hR⟩:=hloop u.length 0 (by omega) [] (by simp[qiF]);have hal:=qgp l u v t u.length;have hbz:=qCz u v;have hba:=qFM u v;rw[hbz,hba]at h1;have ha:=qPO R _ hR v t.f t.v U (t.kids.map (T.enc U)) (by omega);have hR1:(R++[DV.agg [.int .i64 v,.int .i64 t.f,.int .i64 t.v,.sl U (t.kids.map (T.enc U))]]).map DV.clr=(qiF l u v t u.length++[(⟨v,t⟩:Bd)]).map (Bd.enc .sub):=by
  rw[List.map_append,List.map_append,hR];simp only[List.map_cons,List.map_nil,DV.clr,DV.clrs,Bd.enc];rw[DV.qam,qbz]
 rw[qap XV _ _ _ qD3 rfl qyv rfl];unfold qbC;simp only[qJK,Int.natCast_zero]at h1;rw[hOe]at h1;cases hsome:(qdS u v).isSome with
 |true=>
  rw[hsome]at h1;simp only[if_true,List.append_nil];refine⟨R,?_,hR⟩;simp[qD3,qei,qeh,qeg,qef,qee,qed,qeb,qea,qd9,qc6,qdk,qec,qc5,qc4,qc3,qhO,splice,qaa,qab,qac,qai,qae];rw[h1];simp[qD3,qei,qeh,qeg,qef,qee,qed,qeb,qea,qd9,qc6,qdk,qec,qc5,qc4,qc3]
 |false=>
  rw[hsome]at h1;simp only[Bool.false_eq_true,if_false];refine⟨_,?_,hR1⟩;generalize R++[DV.agg [.int .i64 v,.int .i64 t.f,.int .i64 t.v,.sl U (t.kids.map (T.enc U))]]=R2 at*
  simp[qD3,qei,qeh,qeg,qef,qee,qed,qeb,qea,qd9,qc6,qdk,qec,qc5,qc4,qc3,qhO,splice,qaa,qab,qac,qai,qae];rw[h1];simp[qD3,qei,qeh,qeg,qef,qee,qed,qeb,qea,qd9,qc6,qdk,qec,qc5,qc4,qc3,hcp,ha,qhO,splice,qaa,qab,qac,qai,qae]
theorem qvf(l:List SymL)(u:List Bd)(v:Int)(t:T)(M:Nat)(h1:t.inner<=M)(h2:∀i,i<u.length->(qbR l [⟨v,t⟩] (bAt u i).t).inner<=M):∀i,i<=u.length->∀b,b∈qiF l u v t i->b.t.inner<=M
 |0,_,b,h=>by simp[qiF]at h
 |i+1,hi,b,h=>by
  simp only[qiF,List.mem_append]at h;rcases h with h|h
  ·exact qvf l u v t M h1 h2 i (by omega) b h
  ·unfold qC6 at h
   have:=h2 i (by omega);rcases List.mem_append.1 h with h|h
   ·split at h
    ·simp at h;subst h;exact h1
    ·simp at h
   ·split at h
    ·simp at h
    ·simp at h;subst h;exact this
end Go.Proofs.Ytfiakfiocdfpbaa.VS
namespace Go.Proofs.Ytfiakfiocdfpbaa.VS
structure BdD(b:Bd):Prop where
 inner:b.t.inner<=14
 rng:b.t.rng
 v: -1<=b.v/\b.v<=100
theorem qqs(bs:List Int)(hl:bs.length<=1099511627776)(q L i:Nat)(hi:i<3)(u:List Bd)(hu:u.length<=3)(B:qan)(hL:B.length=L)(hsd:qcB bs q B):
 ∃(u':List Bd) (B':qan),u'.length<=u.length+1/\(∀b,b∈u'->b∈u\/BdD b)/\qch bs q B B'/\B'.length=L/\
  ∃e,qau XV (XV.lin 158) ql7 ⟨[(0,.ptr q 0),(3,.d (.sl U (u.map (Bd.enc U)))),(4,.d (.int .i64 i))],B⟩=some (.normal,⟨[(0,.ptr q 0),(3,.d (.sl U (u'.map (Bd.enc U)))),(4,.d (.int .i64 ((i+1:Nat):Int)))],B'++e⟩):=by
 have hq:=hsd.lt;have hw:=qao (n:=i) (by omega);have hi3:(i:Int)<3:=by omega
 obtain⟨b,B1,hT1,hc1⟩:=qlk bs hl B q hsd 3 (by omega) (by omega);have hl1:B1.length=L:=by rw[hT1.len,hL]
 have hs1:=hT1.at hq;cases b with
 |true=>
  refine⟨u,B1,by omega,fun b hb=> .inl hb,hT1,hl1,[],?_⟩;simp[ql7,qpU,qpT,qpS,qpR,qtY,qtX,qtW,qB9,qtV,qtZ,qij,hi3,hc1,hw]
 |false=>
  obtain⟨t,B2,ht,_,hT2,hc2⟩:=qf0 bs hl 0 (by omega) (B1++[none]) q (hs1.app [none]);obtain⟨B3,hT3,hl3,rfl⟩:=qb7 (by omega) hT2;obtain⟨f,v,ks⟩:=t;obtain⟨b,B4,hT4,hc4⟩:=qlk bs hl (B3++[some [.d (.int .i64 f),.d (.int .i64 v),.d (qaj U ks)]]) q ((hT3.at (by omega)).app _) 3 (by omega) (by omega);obtain⟨B5,hT5,hl5,rfl⟩:=qb7 (by omega) hT4;have e3:B3.length=L:=by omega
  have e5:B5.length=L:=by omega
  cases b with
  |false=>
   have ha:=qeR u i (.node f v ks) (by omega);refine⟨u++[(⟨(i:Int),.node f v ks⟩:Bd)],B5,by simp,fun b hb=> ?_,hT1.trans (hT3.trans hT5),e5,[some [.d (.int .i64 f),.d (.int .i64 v),.d (qaj .sub ks)]],?_⟩
   ·rcases List.mem_append.1 hb with h|h
    ·exact .inl h
    ·simp at h;subst h
     exact .inr ⟨by simp only;omega,ht.2,by simp only;omega⟩
   ·simp only[T.qcj,T.qcV,T.qaQ]at ha
    generalize (u++[(⟨(i:Int),.node f v ks⟩:Bd)]).map (Bd.enc U)=lu at ha⊢
    generalize u.map (Bd.enc U)=l0 at ha⊢
    simp[ql7,qpU,qpT,qpS,qpR,qtY,qtX,qtW,qB9,qtV,qtZ,qij,hi3,hc1,hc2,hc4,hw,hl1,e3,e5,qhG,qjs,ha,qay,List.replicate,splice,qaa,qab,qac,qai,qae]
  |true=>
   obtain⟨p5,st5,hp5,hb5⟩:=hT5.at (by omega:q<B3.length);have hg5:=qda hb5;have hLq:¬L=q:=by omega
   have hL1:¬L+1<=L:=by omega
   have hq5:q<B5.length:=by omega
   have hgx:∀x:Option (List AV),(B5++[x])[q]?=some (some (qbb bs p5 st5)):=fun x=>by rw[List.getElem?_append_left hq5];exact hg5
   have hsx:∀(x c:Option (List AV)),(B5++[x]).set q c=B5.set q c++[x]:=fun x c=>List.set_append_left _ _ hq5
   obtain⟨r,B6,hr,⟨p6,st6,hp6,rfl⟩,hc6⟩:=qcv bs hl [some (qbb bs p5 st5)] 0 ⟨p5,st5,hp5,rfl⟩ 2 (by omega) (by omega);simp only[List.set_cons_zero]at hc6;have hw5:IntKind.i64.wrap (5+r)=5+r:=wrap_i64 (by omega) (by omega);have hv:=qop (5+r);have ho:qaf XV 164 [.d (.int .i64 5),.d (.sl .sub [(T.node (-1) (5+r) []).enc .sub,(T.node f v ks).enc .sub])] []=some (.d (.agg [.int .i64 5,.int .i64 0,.sl .sub [(T.node (-1) (5+r) []).enc .sub,(T.node f v ks).enc .sub]]),[]):=by
    have:=qoq 5 [T.node (-1) (5+r) [],T.node f v ks];rw[T.qbF]at this;exact this
   have hn:=qeZ qcd (by decide) (T.node 5 0 [T.node (-1) (5+r) [],T.node f v ks]) (by have:=ht.1;simp[T.inner,T.inners]at this⊢;omega);have hni:=qdL qcd (T.node 5 0 [T.node (-1) (5+r) [],T.node f v ks]);have hnr:((T.node 5 0 [T.node (-1) (5+r) [],T.node f v ks]).norm qcd).rng:=qom qcd _ (by
    have h2:=ht.2;have h3:(-9223372036854775808:Int)<=5+r/\5+r<=9223372036854775807:=by omega
    generalize 5+r=r5 at*
    generalize hT:T.node f v ks=T0 at*
    simp[T.rng,T.rngs,h2,h3])
   have hii:(T.node 5 0 [T.node (-1) (5+r) [],T.node f v ks]).inner<=14:=by have:=ht.1;simp[T.inner,T.inners]at this⊢;omega
   rw[T.qbF]at hn;unfold nM at hn;simp only[qaj,T.qcj,T.qcV,T.qaQ,List.map_cons,List.map_nil]at hn;generalize (T.node 5 0 [T.node (-1) (5+r) [],T.node f v ks]).norm qcd=m at*
   obtain⟨mf,mv,mk⟩:=m;have hs:=qgg;simp only[sg]at hn;have ha:=qeR u i (.node mf mv mk) (by omega);refine⟨u++[(⟨(i:Int),.node mf mv mk⟩:Bd)],B5.set q (some (qbb bs p6 st6)),by simp,fun b hb=> ?_,hT1.trans (hT3.trans (hT5.trans ⟨p6,st6,hp6,rfl⟩)),by simp[e5],[some [.d (.int .i64 mf),.d (.int .i64 mv),.d (qaj .sub mk)]],?_⟩
   ·rcases List.mem_append.1 hb with h|h
    ·exact .inl h
    ·simp at h;subst h
     exact .inr ⟨by simp only;omega,hnr,by simp only;omega⟩
   ·simp only[T.qcj,T.qcV,T.qaQ]at ha
    generalize hsq:qcd.map SymL.enc=sq at hs hn;have hqc:sq.map DV.clr=sq:=by rw[<-hsq];exact qeP _
    have eX:∀c:Option (List AV),(B5.set q c).length=L:=fun c=>by simp[e5]
    generalize (u++[(⟨(i:Int),.node mf mv mk⟩:Bd)]).map (Bd.enc U)=lu at ha⊢
    generalize u.map (Bd.enc U)=l0 at ha⊢
    simp[ql7,qpU,qpT,qpS,qpR,qtY,qtX,qtW,qB9,qtV,qtZ,qij,hLq,hL1,hi3,hc1,hc2,hc4,hc6,hw,hw5,hl1,e3,e5,eX,hgx,hsx,hv,ho,hn,hs,hqc,qcc,qbh,qhG,qjs,ha,qay,List.replicate,splice,qaa,qab,qac,qai,qae]
theorem qqr(bs:List Int)(hl:bs.length<=1099511627776)(q L:Nat):∀(k i:Nat) (u:List Bd) (B:qan),i+k=3->u.length<=i->(∀b,b∈u->BdD b)->B.length=L->qcB bs q B->∀s0,qag L [0,3,4] s0=some ⟨[(0,.ptr q 0),(3,.d (.sl U (u.map (Bd.enc U)))),(4,.d (.int .i64 i))],B⟩->
 ∃(u':List Bd) (B':qan),u'.length<=3/\(∀b,b∈u'->BdD b)/\qch bs q B B'/\qbj XV (XV.lin 158) L [0,3,4] ql7 s0=some (.exit 0,⟨[(0,.ptr q 0),(3,.d (.sl U (u'.map (Bd.enc U)))),(4,.d (.int .i64 3)),(8,.d (.bool false))],B'⟩):=by
 intro k
 induction k with
 |zero=>
  intro i u B hik hu hs hB hsd s0 h0;have hi:i=3:=by omega
  subst hi;obtain⟨pos,st,hp,hb⟩:=hsd;refine⟨u,B,hu,hs,⟨pos,st,hp,?_⟩,qaL h0 ?_ (by simp)⟩
  ·have:=qda hb
   exact(List.ext_getElem? fun j=>by
    rw[List.getElem?_set];split
    ·rename_i h;subst h;rw[this];simp[qtc hb]
    ·rfl)
  ·simp[ql7,qpR]
 |succ k ih=>
  intro i u B hik hu hs hB hsd s0 h0;obtain⟨u',B',g1,g2,g3,g4,e,g5⟩:=qqs bs hl q L i (by omega) u (by omega) B hB hsd;rw[qa7 h0 g5];obtain⟨u2,B2,f1,f2,f3,f4⟩:=ih (i+1) u' B' (by omega) (by omega) (fun b hb=>(g2 b hb).elim (hs b) id) g4 (g3.at hsd.lt) ⟨[(0,.ptr q 0),(3,.d (.sl U (u'.map (Bd.enc U)))),(4,.d (.int .i64 ((i+1:Nat):Int)))],B'++e⟩ (qbX (e:=e) (by simp) (by simp[qad];have:=hsd.lt;omega) g4 rfl);exact⟨u2,B2,f1,f2,g3.trans f3,f4⟩
theorem qwC(bs:List Int)(hl:bs.length<=1099511627776)(B:qan)(q:Nat)(h:qcB bs q B):
 ∃(u:List Bd) (B':qan),u.length<=3/\(∀b,b∈u->BdD b)/\qch bs q B B'/\qaf XV 158 [.ptr q 0] B=some (.d (binds U u),B'):=by
 obtain⟨u,B',h1,h2,h3,h4⟩:=qqr bs hl q B.length 3 0 [] B rfl (by simp) (fun b hb=>by simp at hb) rfl h ⟨[(0,.ptr q 0),(3,.d (.sl U [])),(4,.d (.int .i64 0))],B⟩ (qbX (e:=[]) (by simp) (by simp[qad];exact h.lt) rfl (by simp));refine⟨u,B',h1,h2,h3,?_⟩;have htk:List.take B.length B'=B':=List.take_of_length_le (by rw[h3.len];exact Nat.le_refl _);rw[qap XV _ _ _ qKM rfl qyf rfl];have hq:=h.lt;simp only[qJB]at h4;show _=some (AV.d (DV.sl U (u.map (Bd.enc U))),B');generalize u.map (Bd.enc U)=lu at h4⊢
 simp[qKM,qpU,qpT,qpS,qij,hq];rw[h4];simp[qij,htk]
theorem qCQ(a:List Bd)(x:Bd)(g:Tag)(h:a.length<=1000):qaS 4 48 (.sl U (a.map (Bd.enc U))) (.sl U [x.enc g])=some (.sl U (a.map (Bd.enc U)++[x.enc g])):=by
 have h1:(a.map (Bd.enc U)).all (fun e=>decide (e.cells.length=4))=true:=by
  rw[List.all_eq_true];intro y hy;obtain⟨z,_,rfl⟩:=List.mem_map.1 hy;simp
 unfold qaS;simp[qaa,qab];omega
theorem qfM(bs:List Int)(hl:bs.length<=1099511627776)(pos st:Int)(hp:0<=pos/\pos<=bs.length):
 ∃(u:List Bd) (g:Tag) (ds:List DV) (pos' st':Int),u.length<=4/\(∀b,b∈u->BdD b)/\ds.map DV.clr=u.map (Bd.enc .sub)/\(0<=pos'/\pos'<=bs.length)/\qaf XV 157 [.ptr 0 0] [some (qbb bs pos st)]=some (.d (.sl g ds),[some (qbb bs pos' st')]):=by
 have h0:qcB bs 0 [some (qbb bs pos st)]:=⟨pos,st,hp,rfl⟩;obtain⟨u,B1,hu,hud,⟨p1,s1,hp1,rfl⟩,hc1⟩:=qwC bs hl _ 0 h0;obtain⟨r,B2,hr,⟨p2,s2,hp2,rfl⟩,hc2⟩:=qcv bs hl [some (qbb bs p1 s1)] 0 ⟨p1,s1,hp1,rfl⟩ 8 (by omega) (by omega);simp only[List.set_cons_zero,binds]at hc1 hc2;rw[qxK XV _ _ _ qyS rfl qyg rfl (m:=1) rfl rfl];simp only[qiz,qlY,qbh]
 by_cases c0:r=0
 ·subst c0
  obtain⟨j,hj,B3,⟨p3,s3,hp3,rfl⟩,hc3⟩:=qdt bs hl [some (qbb bs p2 s2)] 0 ⟨p2,s2,hp2,rfl⟩ [-1,0,2,9,100] (by simp) (by simp);have hall:∀x:Int,x∈([-1,0,2,9,100]:List Int)->-1<=x/\x<=100:=fun x hx=>by
   simp only[List.mem_cons,List.not_mem_nil,or_false]at hx;omega
  have hx:=hall _ (List.getElem_mem hj);generalize ([-1,0,2,9,100]:List Int)[j]=x at hc3 hx;obtain⟨t,g,p4,s4,ht,hp4,hc4⟩:=qly bs hl p3 s3 hp3;have hap:=qCQ u ⟨x,t⟩ g (by omega);obtain⟨f,v,ks⟩:=t;refine⟨u++[⟨x,.node f v ks⟩],U,u.map (Bd.enc U)++[Bd.enc g ⟨x,.node f v ks⟩],p4,s4,by simp;omega,fun b hb=> ?_,by simp,hp4,?_⟩
  ·rcases List.mem_append.1 hb with h|h
   ·exact hud b h
   ·simp at h;subst h;exact⟨ht.1,ht.2,hx⟩
  ·simp only[List.set_cons_zero,List.map_cons,List.map_nil]at hc3
   have hap':qaS 4 48 (.sl U (u.map (Bd.enc U))) (.sl U [.agg [.int .i64 x,.int .i64 f,.int .i64 v,qaj g ks]])=some (.sl U (u.map (Bd.enc U)++[.agg [.int .i64 x,.int .i64 f,.int .i64 v,qaj g ks]])):=hap;show _=some (AV.d (DV.sl U (u.map (Bd.enc U)++[.agg [.int .i64 x,.int .i64 f,.int .i64 v,qaj g ks]])),_);generalize u.map (Bd.enc U)=lu at*
   generalize lu++[.agg [.int .i64 x,.int .i64 f,.int .i64 v,qaj g ks]]=l2 at*
   simp[qyS,qk9,qk8,qk7,qk6,qk5,qk4,qk3,qk2,qk1,hc1,hc2,hc3,hc4,hap',qcc,qbh,qay,List.replicate,splice,qaa,qab,qac,qai]
 ·by_cases c1:r=1
  ·subst c1
   match u,hu,hud with
   | [],_,hud=>
    refine⟨[],.sub,[],p2,s2,by simp,hud,by simp,hp2,?_⟩;simp only[List.map_nil]at hc1;simp[qyS,qk9,qk8,qk7,qk6,qk5,qk4,qk3,qk2,qk1,hc1,hc2,qad,qcu,AV.frz,AV.frzC]
   |b::us,hu,hud=>
    obtain⟨t,g,p3,s3,ht,hp3,hc3⟩:=qly bs hl p2 s2 hp2;refine⟨⟨b.v,t⟩::us,.sub,(⟨b.v,t⟩::us).map (Bd.enc .sub),p3,s3,by simp at hu⊢;omega,fun c hc=> ?_,by simp,hp3,?_⟩
    ·rcases List.mem_cons.1 hc with h|h
     ·subst h;exact⟨ht.1,ht.2,(hud b (by simp)).v⟩
     ·exact hud c (by simp[h])
    ·have hs1:∀rs,rs.all (fun r=> !(DV.int .u8 0).like r)=true->qbA rs (qbb bs p2 s2)=true:=fun rs h=>qf8 rs h bs p2 s2
     obtain⟨bv,bf,bw,bk⟩:=b;obtain⟨f,v,ks⟩:=t;have hre:=fun rs=>qc2 rs bk
     match us,hu with
     | [],_=>
      simp only[List.map_cons,List.map_nil,Bd.enc,qaj,T.qcj,T.qcV,T.qaQ]at hc1⊢
      simp[qyS,qk9,qk8,qk7,qk6,qk5,qk4,qk3,qk2,qk1,hc1,hc2,hc3,hs1,DV.like,hre,qcc,qbh,splice,qaa,qab,qac,qai,qad,qcu,AV.frz,AV.frzC,qem,chunks,cut,qba,qbz]
     | [c],_=>
      obtain⟨cv,cf,cw,ck⟩:=c;have hre2:=fun rs=>qc2 rs ck
      simp only[List.map_cons,List.map_nil,Bd.enc,qaj,T.qcj,T.qcV,T.qaQ]at hc1⊢
      simp[qyS,qk9,qk8,qk7,qk6,qk5,qk4,qk3,qk2,qk1,hc1,hc2,hc3,hs1,DV.like,hre,hre2,qcc,qbh,splice,qaa,qab,qac,qai,qad,qcu,AV.frz,AV.frzC,qem,chunks,cut,qba,qbz]
     | [c,d],_=>
      obtain⟨cv,cf,cw,ck⟩:=c;obtain⟨dv,df,dw,dk⟩:=d;have hre2:=fun rs=>qc2 rs ck
      have hre3:=fun rs=>qc2 rs dk
      simp only[List.map_cons,List.map_nil,Bd.enc,qaj,T.qcj,T.qcV,T.qaQ]at hc1⊢
      simp[qyS,qk9,qk8,qk7,qk6,qk5,qk4,qk3,qk2,qk1,hc1,hc2,hc3,hs1,DV.like,hre,hre2,hre3,qcc,qbh,splice,qaa,qab,qac,qai,qad,qcu,AV.frz,AV.frzC,qem,chunks,cut,qba,qbz]
  ·refine⟨u,.sub,u.map (Bd.enc .sub),p2,s2,by omega,hud,by simp,hp2,?_⟩
   have e0:(r==0)=false:=by simpa using c0
   have e1:(r==1)=false:=by simpa using c1
   have hcl:(u.map (Bd.enc U)).map DV.clr=u.map (Bd.enc .sub):=by simp
   generalize u.map (Bd.enc U)=lu at*
   generalize u.map (Bd.enc .sub)=ls at*
   simp[qyS,qk9,qk8,qk7,qk6,qk5,qk4,qk3,qk2,qk1,hc1,hc2,e0,e1,hcl,qad,qcu,AV.frz,AV.frzC]
end Go.Proofs.Ytfiakfiocdfpbaa.VS
namespace Go.Proofs.Ytfiakfiocdfpbaa.VS
theorem qqV(bs:List Int)(hl:bs.length<=1099511627776):∃(u:List Bd) (g:Tag) (ds:List DV) (t:T),(u.length<=4/\(∀b,b∈u->BdD b)/\ds.map DV.clr=u.map (Bd.enc .sub))/\(t.inner<=14/\t.rng)/\
 qaf XV 134 [.d (.sl .sub (bs.map (.int .u8)))] []=some (.d (.tup [.sl U (qcd.map SymL.enc),.sl g ds,t.enc .sub]),[]):=by
 obtain⟨st,h1⟩:=qhq bs hl [c00];obtain⟨u,g,ds,p1,s1,hu,hud,hds,hp1,hc1⟩:=qfM bs hl 0 st ⟨Int.le_refl _,by omega⟩;obtain⟨t,g2,p2,s2,ht,hp2,hc2⟩:=qly bs hl p1 s1 hp1;refine⟨u,g,ds,t,⟨hu,hud,hds⟩,ht,?_⟩;obtain⟨f,v,ks⟩:=t;have hs:=qgg;generalize hsq:qcd.map SymL.enc=sq at hs⊢
 have hqc:sq.map DV.clr=sq:=by rw[<-hsq];exact qeP _
 simp[c00]at h1;rw[qap XV _ _ _ qK3 rfl qyD rfl];simp[qK3,qHd,qHc,qHb,qHa,h1,hc1,hc2,hs,hqc,qcc,qbh,splice,qaa,qab,qac,qai,qae]
theorem qoE(bs:List Int)(hl:bs.length<=1099511627776):∃(u:List Bd) (g:Tag) (ds:List DV) (n:Int) (t:T),(u.length<=4/\(∀b,b∈u->BdD b)/\ds.map DV.clr=u.map (Bd.enc .sub))/\t.inner<=6/\
 qaf XV 136 [.d (.sl .sub (bs.map (.int .u8)))] []=some (.d (.tup [.sl U (qcd.map SymL.enc),.sl g ds,.int .i64 n,t.enc .sub]),[]):=by
 obtain⟨st,h1⟩:=qhq bs hl [c00];obtain⟨u,g,ds,p1,s1,hu,hud,hds,hp1,hc1⟩:=qfM bs hl 0 st ⟨Int.le_refl _,by omega⟩;obtain⟨j,hj,B2,⟨p2,s2,hp2,rfl⟩,hc2⟩:=qdt bs hl [c00,some (qbb bs p1 s1)] 1 ⟨p1,s1,hp1,rfl⟩ [5,6,1,9] (by simp) (by simp);generalize ([5,6,1,9]:List Int)[j]=n at hc2;obtain⟨t,B3,ht,_,⟨p3,s3,hp3,rfl⟩,hc3⟩:=qf0 bs hl 0 (by omega) [c00,some (qbb bs p2 s2)] 1 ⟨p2,s2,hp2,rfl⟩;refine⟨u,g,ds,n,t,⟨hu,hud,hds⟩,ht.1,?_⟩;obtain⟨f,v,ks⟩:=t;have hs:=qgg;generalize hsq:qcd.map SymL.enc=sq at hs⊢
 have hqc:sq.map DV.clr=sq:=by rw[<-hsq];exact qeP _
 simp[c00]at h1 hc2 hc3;rw[qap XV _ _ _ qK1 rfl qyB rfl];simp[qK1,qG7,qG6,qG5,qG4,qG3,h1,hc1,hc2,hc3,hs,hqc,qay,List.replicate,qcc,qbh,splice,qaa,qab,qac,qai,qae]
theorem qsY(bs:List Int)(hl:bs.length<=1099511627776):∃(u:List Bd) (g:Tag) (ds:List DV) (n:Int),(u.length<=4/\(∀b,b∈u->BdD b)/\ds.map DV.clr=u.map (Bd.enc .sub))/\
 qaf XV 138 [.d (.sl .sub (bs.map (.int .u8)))] []=some (.d (.tup [.sl g ds,.int .i64 n]),[]):=by
 obtain⟨st,h1⟩:=qhq bs hl [];obtain⟨u,g,ds,p1,s1,hu,hud,hds,hp1,hc1⟩:=qfM bs hl 0 st ⟨Int.le_refl _,by omega⟩;obtain⟨n,B2,hr,⟨p2,s2,hp2,rfl⟩,hc2⟩:=qcv bs hl [some (qbb bs p1 s1)] 0 ⟨p1,s1,hp1,rfl⟩ 5 (by omega) (by omega);refine⟨u,g,ds,n,⟨hu,hud,hds⟩,?_⟩;simp only[List.nil_append,List.length_nil,List.set_cons_zero]at h1 hc2;rw[qap XV _ _ _ qK0 rfl qyz rfl];simp[qK0,qG2,qG1,qG0,qGZ,h1,hc1,hc2,qcc,qbh,splice,qaa,qab,qac,qai,qae]
theorem qqU(bs:List Int)(hl:bs.length<=1099511627776):∃(u:List Bd) (g:Tag) (ds:List DV),(u.length<=4/\(∀b,b∈u->BdD b)/\ds.map DV.clr=u.map (Bd.enc .sub))/\
 qaf XV 139 [.d (.sl .sub (bs.map (.int .u8)))] []=some (.d (.tup [.sl U (qcd.map SymL.enc),.sl g ds]),[]):=by
 obtain⟨st,h1⟩:=qhq bs hl [];obtain⟨u,g,ds,p1,s1,hu,hud,hds,hp1,hc1⟩:=qfM bs hl 0 st ⟨Int.le_refl _,by omega⟩;refine⟨u,g,ds,⟨hu,hud,hds⟩,?_⟩;have hs:=qgg;generalize hsq:qcd.map SymL.enc=sq at hs⊢
 have hqc:sq.map DV.clr=sq:=by rw[<-hsq];exact qeP _
 simp only[List.nil_append,List.length_nil]at h1;rw[qap XV _ _ _ qKZ rfl qyy rfl];simp[qKZ,qGY,qGX,h1,hc1,hs,hqc,qcc,qbh,splice,qaa,qab,qac,qai,qae]
end Go.Proofs.Ytfiakfiocdfpbaa.VS
namespace Go.Proofs.Ytfiakfiocdfpbaa.VS
theorem qen(q:Nat->Bool)(n:Nat)(h:(qaD q n 0).isNone=true):∀i,i<n->q i=false:=fun i hi=>by
 have:=(qfe q n 0).2 (by simpa using h) i (by omega) (by omega);exact this
end Go.Proofs.Ytfiakfiocdfpbaa.VS
namespace Go.Proofs.Ytfiakfiocdfpbaa.VS
mutual
def T.nodes:T->List T
 | .node f v ks=> .node f v ks::T.nodess ks
def T.nodess:List T->List T
 | []=>[]
 |t::r=>t.nodes++T.nodess r
end
mutual
theorem qfA(w:T->Int):∀t:T,T.sum w t=(t.nodes.map w).sum
 | .node f v ks=>by simp only[T.sum,T.nodes,List.map_cons,List.sum_cons,qmC w ks]
theorem qmC(w:T->Int):∀l:List T,T.sums w l=((T.nodess l).map w).sum
 | []=>by simp[T.sums,T.nodess]
 |t::r=>by simp only[T.sums,T.nodess,List.map_append,List.sum_append,qfA w t,qmC w r]
end
theorem qpd{l:List T}{w w':T->Int}(h:∀x,x∈l->w x<=w' x):(l.map w).sum<=(l.map w').sum:=by
 induction l with
 |nil=>simp
 |cons x l ih=>
  simp only[List.map_cons,List.sum_cons];have:=h x (by simp);have:=ih fun y hy=>h y (by simp[hy])
  omega
theorem qLO(n:Int)(x:T):0<=wC n x:=by unfold wC;split<;>omega
theorem qnC{α:Type}:∀l:List α,(l.map fun _=>(0:Int)).sum=0
 | []=>rfl
 |a::l=>by simp only[List.map_cons,List.sum_cons,qnC l];omega
theorem qGa{l:List T}{w:T->Int}(h:∀x,x∈l->0<=w x):0<=(l.map w).sum:=by
 have:=qpd (l:=l) (w:=fun _=>0) (w':=w) h;have e:=qnC l;omega
theorem qCc(t:T)(l:List Int)(hl:l.Pairwise (·<·)):(l.map fun n=>T.sum (wC n) t).sum<=T.sum (fun _=>1) t:=by
 have e:∀l:List Int,(l.map fun n=>T.sum (wC n) t).sum=(t.nodes.map fun x=>(l.map fun n=>wC n x).sum).sum:=by
  intro l
  induction l with
  |nil=>simp only[List.map_nil,List.sum_nil];exact(qnC _).symm
  |cons n l ih=>
   have h:∀N:List T,(N.map (wC n)).sum+(N.map fun x=>(l.map fun n=>wC n x).sum).sum=(N.map fun x=>wC n x+(l.map fun n=>wC n x).sum).sum:=by
    intro N
    induction N with
    |nil=>rfl
    |cons a N ih=>simp only[List.map_cons,List.sum_cons];omega
   simp only[List.map_cons,List.sum_cons,ih];rw[<-h,qfA]
 rw[e,qfA];refine qpd fun x _=> ?_
 have hz:∀l:List Int,x.v∉l->(l.map fun n=>wC n x).sum=0:=by
  intro l
  induction l with
  |nil=>intro _;rfl
  |cons n l ih=>
   intro hx;simp only[List.mem_cons,not_or]at hx;simp only[List.map_cons,List.sum_cons,ih hx.2];unfold wC;rw[if_neg (fun h=>hx.1 h.2)];omega
 induction l with
 |nil=>simp
 |cons n l ih=>
  rw[List.pairwise_cons]at hl;simp only[List.map_cons,List.sum_cons]
  by_cases hv:x.v=n
  ·have hn:x.v∉l:=fun hm=>by have:=hl.1 _ hm;omega
   rw[hz l hn];unfold wC;split<;>omega
  ·have:=ih hl.2
   have e0:wC n x=0:=by unfold wC;rw[if_neg (fun h=>hv h.2)]
   omega
end Go.Proofs.Ytfiakfiocdfpbaa.VS
namespace Go.Proofs.Ytfiakfiocdfpbaa.VS
def qOF(t:T)(n:Int):Int:=IntKind.i64.wrap (T.sum (wC n) t)
end Go.Proofs.Ytfiakfiocdfpbaa.VS
