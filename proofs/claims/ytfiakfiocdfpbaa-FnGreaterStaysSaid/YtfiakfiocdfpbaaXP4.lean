/- Contracts of the program's functions on the evaluator without names, and plain lemmas: part 4. -/
import Derived.Test.YtfiakfiocdfpbaaXP3
set_option linter.unusedSimpArgs false
set_option linter.unusedVariables false
namespace Go.Proofs.Ytfiakfiocdfpbaa.VS
theorem qwr(N:Nat)(hn:N<=1099511627776):∀(k s:Nat) (l:List T),N-s<=k->0<s->s<=2199023255552->l.length=N->(∀t,t∈l->t.inner<=1099511627776)->Blk s l->
 ∃(l':List T) (s':Nat),l'.Perm l/\Srt l'/\
  qbm XV [] 1 [0,1,2,6] qjn ⟨[(0,.tsl true 0 3 N),(1,.d (.int .i64 N)),(2,.fn 6 []),(6,.d (.int .i64 s))],[some (kc l)]⟩=
   some (.exit 2,⟨[(0,.tsl true 0 3 N),(1,.d (.int .i64 N)),(2,.fn 6 []),(6,.d (.int .i64 s')),(30,.d (.bool false))],[some (kc l')]⟩):=by
 have head:∀(x:Int) (c:List AV),qah 1 [0,1,2,6] ⟨[(0,.tsl true 0 3 N),(1,.d (.int .i64 N)),(2,.fn 6 []),(6,.d (.int .i64 x))],[some c]⟩=some ⟨[(0,.tsl true 0 3 N),(1,.d (.int .i64 N)),(2,.fn 6 []),(6,.d (.int .i64 x))],[some c]⟩:=fun x c=>by
  simp[qah,qab,qaW,qcW,qbg]
 have stop:∀(s:Nat) (l:List T),0<s->N<=s->l.length=N->Blk s l->∃(l':List T) (s':Nat),l'.Perm l/\Srt l'/\
  qbm XV [] 1 [0,1,2,6] qjn ⟨[(0,.tsl true 0 3 N),(1,.d (.int .i64 N)),(2,.fn 6 []),(6,.d (.int .i64 s))],[some (kc l)]⟩=
   some (.exit 2,⟨[(0,.tsl true 0 3 N),(1,.d (.int .i64 N)),(2,.fn 6 []),(6,.d (.int .i64 s')),(30,.d (.bool false))],[some (kc l')]⟩):=fun s l hs h1 h2 h3=>by
  refine⟨l,s,List.Perm.refl _,h3.srt (by omega) hs,?_⟩;refine qaR (head _ _) ?_ (by simp);have hlt:¬((s:Int)<(N:Int)):=by omega
  generalize (s:Int)=v at*
  generalize (N:Int)=w at*
  simp[qjn,qpF,hlt]
 intro k
 induction k with
 |zero=>intro s l hk hs hs2 hl hin hB;exact stop s l hs (by omega) hl hB
 |succ k ih=>
  intro s l hk hs hs2 hl hin hB
  by_cases hsN:N<=s
  ·exact stop s l hs hsN hl hB
  obtain⟨R1,R2,a,r1,r2,r3,r4,r5,r6,r7⟩:=qAA N s hn hs (by omega) l.length [] l (Nat.le_refl _) (by simpa using hl) (by simpa using hin) hB;simp only[List.nil_append,List.length_nil,Nat.zero_add]at r2 r7;have hin2:∀t,t∈R1++R2->t.inner<=1099511627776:=fun t ht=>hin t (r4.mem_iff.1 ht)
  have hlen:R1.length+R2.length=N:=by omega
  obtain⟨W,w1,w2,w3⟩:∃W:List T,W.Perm R2/\Srt W/\((((a+s:Nat):Int)<(N:Int)/\qad XV 173 [.tsl true 0 3 N,.d (.int .i64 a),.d (.int .i64 (a+s:Nat)),.d (.int .i64 N),.fn 6 []] [some (kc (R1++R2))]=some (.d (.tup []),[some (kc (R1++W))]))\/(¬((a+s:Nat):Int)<(N:Int)/\W=R2)):=by
   by_cases h:a+s<N
   ·obtain⟨C,D,rfl,l1,b1,b2⟩:∃C D,R2=C++D/\C.length=s/\Srt C/\Blk s D:=by
     cases r5 with
     |last _ h1 _=>omega
     |cons c r h1 h2 h3=>exact⟨c,r,rfl,h1,h2,h3⟩
    have hDl:D.length<s:=by simp at r1;omega
    have hDl2:a+(s+D.length)=N:=by simp at r3;omega
    obtain⟨W,w1,w2,w3⟩:=qka (C.length+D.length) R1 C D [] a (a+s) N N (Nat.le_refl _) (by omega) (by omega) r2 (by omega) (by omega) (by simp;omega) hn (fun t ht=>hin2 t (by simpa using ht)) b1 (b2.srt (by omega) hs);refine⟨W,w1,w2,.inl ⟨by omega,?_⟩⟩;have e1:R1++(C++D)=R1++C++D++[]:=by simp
    have e2:R1++W=R1++W++[]:=by simp
    rw[e1,e2];exact w3
   ·exact⟨R2,List.Perm.refl _,r5.srt (by omega) hs,.inr ⟨by omega,rfl⟩⟩
  have hWl:W.length=R2.length:=w1.length_eq;have hB2:Blk (2*s) (R1++W):=r6 W (.last W (by omega) w2);obtain⟨l',s',p1,p2,p3⟩:=ih (2*s) (R1++W) (by omega) (by omega) (by omega) (by simp;omega) (fun t ht=>hin2 t (by
   rcases List.mem_append.1 ht with h|h
   ·simp[h]
   ·simp[w1.mem_iff.1 h])) hB2
  refine⟨l',s',p1.trans ((List.Perm.refl R1).append w1|>.trans r4),p2,?_⟩;rw[<-p3];refine qbs (head _ _) ?_;have hlt:((s:Int)<(N:Int)):=by omega
  have hw2:IntKind.i64.wrap (2*(s:Int))=((2*s:Nat):Int):=by rw[wrap_i64 (by omega) (by omega)];omega
  have hw2':IntKind.i64.wrap ((s:Int)*2)=((2*s:Nat):Int):=by rw[wrap_i64 (by omega) (by omega)];omega
  have hw3:IntKind.i64.wrap ((a:Int)+s)=((a+s:Nat):Int):=by rw[wrap_i64 (by omega) (by omega)];omega
  simp only[Int.natCast_zero]at r7;rcases w3 with⟨g1,g2⟩|⟨g1,rfl⟩
  ·generalize kc (R1++W)=c3 at*
   generalize kc (R1++R2)=c2 at*
   generalize kc l=c1 at*
   generalize ((a+2*s:Nat):Int)=gv1 at*
   generalize ((a+s:Nat):Int)=gv3 at*
   generalize ((2*s:Nat):Int)=gv4 at*
   generalize (a:Int)=ga at*
   generalize (s:Int)=gs at*
   generalize hgn:(N:Int)=w at*
   simp[qjn,qpF,qzW,qkF,qkE,qkD,qkC,hlt,hw2,hw2',hw3];rw[r7];simp[qkF,qkE,qkD,qkC,hw2',hw3,g1,g2]
  ·generalize kc (R1++W)=c2 at*
   generalize kc l=c1 at*
   generalize ((a+2*s:Nat):Int)=gv1 at*
   generalize ((a+s:Nat):Int)=gv3 at*
   generalize ((2*s:Nat):Int)=gv4 at*
   generalize (a:Int)=ga at*
   generalize (s:Int)=gs at*
   generalize hgn:(N:Int)=w at*
   simp[qjn,qpF,qzW,qkF,qkE,qkD,qkC,hlt,hw2,hw2',hw3];rw[r7];simp[qkF,qkE,qkD,qkC,hw2',hw3,g1]
theorem qy3(l:List T)(hn:l.length<=1099511627776)(hin:∀t,t∈l->t.inner<=1099511627776):
 ∃l':List T,l'.Perm l/\Srt l'/\qad XV 171 [.tsl true 0 3 l.length,.d (.int .i64 l.length),.fn 6 []] [some (kc l)]=some (.d (.tup []),[some (kc l')]):=by
 obtain⟨R1,R2,a,r1,r2,r3,r4,r5,r6⟩:=qsJ l.length hn l.length [] l (Nat.le_refl _) (by simp) (by simpa using hin);simp only[List.nil_append,List.length_nil,Nat.zero_add]at r2 r6;have hin2:∀t,t∈R1++R2->t.inner<=1099511627776:=fun t ht=>hin t (r4.mem_iff.1 ht)
 obtain⟨W,w1,w2,w3⟩:=qhe R1 R2 [] a l.length l.length r2 (by omega) (by simp;omega) hn (fun t ht=>hin2 t (by simpa using ht));simp only[List.append_nil]at w3;have hWl:W.length=R2.length:=w1.length_eq;have hB:Blk 20 (R1++W):=r5 W (.last W (by omega) w2);obtain⟨l',s',p1,p2,p3⟩:=qwr l.length hn l.length 20 (R1++W) (by omega) (by omega) (by omega) (by simp;omega) (fun t ht=>hin2 t (by
  rcases List.mem_append.1 ht with h|h
  ·simp[h]
  ·simp[w1.mem_iff.1 h])) hB
 refine⟨l',p1.trans ((List.Perm.refl R1).append w1|>.trans r4),p2,?_⟩;rw[qap XV _ _ _ qFE rfl qo2 rfl];simp only[Int.natCast_zero,show((20:Nat):Int)=20 from rfl]at r6 p3;generalize kc (R1++W)=c3 at*
 generalize kc (R1++R2)=c2 at*
 generalize kc l=c1 at*
 generalize kc l'=c4 at*
 generalize ((a+20:Nat):Int)=gv1 at*
 generalize (a:Int)=ga at*
 generalize hgn:(l.length:Int)=w at*
 simp[qFE,qz2,qz1];rw[r6];simp[qzX,w3];rw[p3];simp
theorem qnN(l:List T)(hn:l.length<=1099511627776)(hin:∀t,t∈l->t.inner<=1099511627776):
 ∃l':List T,l'.Perm l/\Srt l'/\qad XV 170 [.tsl true 0 3 l.length,.fn 6 []] [some (kc l)]=some (.d (.tup []),[some (kc l')]):=by
 obtain⟨l',h1,h2,h3⟩:=qy3 l hn hin;refine⟨l',h1,h2,?_⟩;rw[qap XV _ _ _ qFF rfl qo3 rfl];generalize kc l'=c2 at*
 generalize kc l=c1 at*
 simp[qFF,qz3,h3]
end Go.Proofs.Ytfiakfiocdfpbaa.VS
namespace Go.Proofs.Ytfiakfiocdfpbaa.VS
mutual
theorem qFz:∀t:T,(t.enc U).allU=true
 | .node f v ks=>by
  have:=qis ks;unfold T.enc;cases ks with
  |nil=>simp[T.encs,DV.allU,DV.allUs]
  |cons a r=>simp only[T.encs]at this⊢;simp[DV.allU,DV.allUs]at this⊢;exact this
theorem qis:∀l:List T,DV.allUs (T.encs U l)=true
 | []=>by simp[T.encs,DV.allUs]
 |t::r=>by simp[T.encs,DV.allUs,qFz t,qis r]
end
end Go.Proofs.Ytfiakfiocdfpbaa.VS
namespace Go.Proofs.Ytfiakfiocdfpbaa.VS
theorem qFy:∀l:List T,DV.allUs (l.map (T.enc U))=true:=fun l=>by rw[<-T.qeb];exact qis l
def nB(f v:Int)(ks:List T):qal:=[some [.d (.int .i64 f),.d (.int .i64 v),.d (qai .sub ks)],some [.d (.int .i64 0),.d (.int .i64 0),.d (.sl U [])]]
theorem qNv(s:List SymL)(hs:s.length<=1099511627776)(f v:Int)(ks acc:List T)(hl:ks.length<=1099511627776)(i:Nat)(hi:i<ks.length)(hacc:acc.length<=1099511627776)(hk:((tAt ks i).norm s).kids.length<=1099511627776)
 (hc:qad XV 169 [.d (sg s),.d ((tAt ks i).enc .sub)] []=some (.d (((tAt ks i).norm s).enc U),[])):
 ∃e:qal,qax XV (XV.lin 169) qhF ⟨[(0,.d (sg s)),(3,.ptr 0 0),(4,.ptr 1 0),(5,.d (.sl U (acc.map (T.enc U)))),(10,.d (qai .sub ks)),(11,.d (.int .i64 ks.length)),(12,.d (.int .i64 i))],nB f v ks⟩=
  some (.normal,⟨[(0,.d (sg s)),(3,.ptr 0 0),(4,.ptr 1 0),(5,.d (.sl U ((acc++qmb s f ((tAt ks i).norm s)).map (T.enc U)))),(10,.d (qai .sub ks)),(11,.d (.int .i64 ks.length)),(12,.d (.int .i64 (i+1:Nat)))],nB f v ks++e⟩):=by
 have hw:=qan (n:=i) (by omega);have hb:=qfn s hs f;have ht:=qaF hi;generalize tAt ks i=k at*
 generalize hn:k.norm s=n at*
 unfold qmb nB
 by_cases h1:qbb s f=true
 ·by_cases h2:(n.f==f)=true
  ·have ha:=qfE acc n.kids U (by omega)
   generalize hl2:(acc++n.kids).map (T.enc U)=l2 at ha;generalize acc.map (T.enc U)=l1 at ha⊢
   refine⟨[some [.d (.int .i64 n.f),.d (.int .i64 n.v),.d (qai .sub n.kids)]],?_⟩;simp[qhF,qiM,qiL,qiK,qpM,qpL,qpK,qpJ,qpI,qpH,qpG,qeG,qkI,qkH,qkG,hi,hw,cut,ht,hc,hb,h1,h2,ha,hl2,splice,qaa,qac,qaf,qar,qae,AV.qav]
  ·have ha:=qfE acc [n] U (by simp;omega)
   have h2':(n.f==f)=false:=by simpa using h2
   simp only[List.map_cons,List.map_nil]at ha;generalize hl2:(acc++[n]).map (T.enc U)=l2 at ha;generalize acc.map (T.enc U)=l1 at ha⊢
   refine⟨[some [.d (.int .i64 n.f),.d (.int .i64 n.v),.d (qai .sub n.kids)]],?_⟩;simp[qhF,qiM,qiL,qiK,qpM,qpL,qpK,qpJ,qpI,qpH,qpG,qeG,qkI,qkH,qkG,hi,hw,cut,ht,hc,hb,h1,h2',ha,hl2,splice,qaa,qac,qaf,qar,qae,AV.qav]
 ·have h1':qbb s f=false:=by simpa using h1
  have ha:=qfE acc [n] U (by simp;omega);simp only[List.map_cons,List.map_nil]at ha;generalize hl2:(acc++[n]).map (T.enc U)=l2 at ha;generalize acc.map (T.enc U)=l1 at ha⊢
  refine⟨[some [.d (.int .i64 n.f),.d (.int .i64 n.v),.d (qai .sub n.kids)]],?_⟩;simp[qhF,qiM,qiL,qiK,qpM,qpL,qpK,qpJ,qpI,qpH,qpG,qeG,qkI,qkH,qkG,hi,hw,cut,ht,hc,hb,h1',ha,hl2,splice,qaa,qac,qaf,qar,qae,AV.qav]
end Go.Proofs.Ytfiakfiocdfpbaa.VS
namespace Go.Proofs.Ytfiakfiocdfpbaa.VS
theorem qsk(B:qal):qad XV 172 [.d (.sl .sub []),.d (.int .i64 0),.d (.int .i64 0),.fn 6 []] B=some (.d (.tup []),B):=by
 rw[qap XV _ _ _ qCX rfl qj5 rfl];have hlo:qbm XV [46,50] B.length [0,1,2,3,8] qjm ⟨[(0,.d (.sl .sub [])),(1,.d (.int .i64 0)),(2,.d (.int .i64 0)),(3,.fn 6 []),(8,.d (.int .i64 1))],B⟩=some (.exit 0,⟨[(0,.d (.sl .sub [])),(1,.d (.int .i64 0)),(2,.d (.int .i64 0)),(3,.fn 6 []),(8,.d (.int .i64 1)),(14,.d (.bool false))],B⟩):=by
  refine qaR (s0:=⟨[(0,.d (.sl .sub [])),(1,.d (.int .i64 0)),(2,.d (.int .i64 0)),(3,.fn 6 []),(8,.d (.int .i64 1))],B⟩) (by simp[qah,qab,qaW,qcW,qbg]) ?_ (by simp);simp[qjm,qmN]
 simp[qCX,qpE,wrap_i64];rw[hlo];simp
theorem qEd(B:qal):qad XV 170 [.d (.sl .sub []),.fn 6 []] B=some (.d (.tup []),B):=by
 have hi:=qsk B;have h1:qbm XV [] B.length [0,1,2,6,7,8] ql4 ⟨[(0,.d (.sl .sub [])),(1,.d (.int .i64 0)),(2,.fn 6 []),(6,.d (.int .i64 20)),(7,.d (.int .i64 0)),(8,.d (.int .i64 20))],B⟩=some (.exit 0,⟨[(0,.d (.sl .sub [])),(1,.d (.int .i64 0)),(2,.fn 6 []),(6,.d (.int .i64 20)),(7,.d (.int .i64 0)),(8,.d (.int .i64 20)),(13,.d (.bool false))],B⟩):=by
  refine qaR (s0:=⟨[(0,.d (.sl .sub [])),(1,.d (.int .i64 0)),(2,.fn 6 []),(6,.d (.int .i64 20)),(7,.d (.int .i64 0)),(8,.d (.int .i64 20))],B⟩) (by simp[qah,qab,qaW,qcW,qbg]) ?_ (by simp);simp[ql4,qtE]
 have h2:qbm XV [] B.length [0,1,2,6] qjn ⟨[(0,.d (.sl .sub [])),(1,.d (.int .i64 0)),(2,.fn 6 []),(6,.d (.int .i64 20))],B⟩=some (.exit 2,⟨[(0,.d (.sl .sub [])),(1,.d (.int .i64 0)),(2,.fn 6 []),(6,.d (.int .i64 20)),(30,.d (.bool false))],B⟩):=by
  refine qaR (s0:=⟨[(0,.d (.sl .sub [])),(1,.d (.int .i64 0)),(2,.fn 6 []),(6,.d (.int .i64 20))],B⟩) (by simp[qah,qab,qaW,qcW,qbg]) ?_ (by simp);simp[qjn,qpF]
 have h3:qad XV 171 [.d (.sl .sub []),.d (.int .i64 0),.fn 6 []] B=some (.d (.tup []),B):=by
  rw[qap XV _ _ _ qFE rfl qo2 rfl];simp[qFE,qz2,qz1];rw[h1];simp[qzX,hi];rw[h2];simp
 rw[qap XV _ _ _ qFF rfl qo3 rfl];simp[qFF,qz3,h3]
end Go.Proofs.Ytfiakfiocdfpbaa.VS
namespace Go.Proofs.Ytfiakfiocdfpbaa.VS
theorem qIP(s:List SymL)(hs:s.length<=1099511627776)(f v:Int)(ks:List T)(hl:qdZ ks<=1099511627776)
 (hc:∀t,t∈ks->qad XV 169 [.d (sg s),.d (t.enc .sub)] []=some (.d ((t.norm s).enc U),[])):∀(k i:Nat),i+k=ks.length->∀e:qal,
 qbm XV (XV.lin 169) 2 [0,3,4,5,10,11,12] qhF ⟨[(0,.d (sg s)),(3,.ptr 0 0),(4,.ptr 1 0),(5,.d (.sl U ((qu9 s f ks i).map (T.enc U)))),(10,.d (qai .sub ks)),(11,.d (.int .i64 ks.length)),(12,.d (.int .i64 i))],nB f v ks++e⟩=
  some (.exit 0,⟨[(0,.d (sg s)),(3,.ptr 0 0),(4,.ptr 1 0),(5,.d (.sl U ((flatK s f (T.norms s ks)).map (T.enc U)))),(10,.d (qai .sub ks)),(11,.d (.int .i64 ks.length)),(12,.d (.int .i64 ks.length)),(13,.d (.bool false))],nB f v ks⟩):=by
 have head:∀(x y:AV) (e:qal),y.clr=y->x.safe 2=true->y.safe 2=true->qah 2 [0,3,4,5,10,11,12] ⟨[(0,.d (sg s)),(3,.ptr 0 0),(4,.ptr 1 0),(5,x),(10,.d (qai .sub ks)),(11,.d (.int .i64 ks.length)),(12,y)],nB f v ks++e⟩=some ⟨[(0,.d (sg s)),(3,.ptr 0 0),(4,.ptr 1 0),(5,x),(10,.d (qai .sub ks)),(11,.d (.int .i64 ks.length)),(12,y)],nB f v ks⟩:=fun x y e hy hx hy2=>
  qcf (by simp) (by simp[qab,hx,hy2]) (by simp[nB]) rfl
 intro k
 induction k with
 |zero=>
  intro i hi e;have:i=ks.length:=by omega
  subst this;refine qaR (head _ _ e (by simp) (by simp) (by simp)) ?_ (by simp);rw[qu8];simp[qhF,qiM,qiL,qiK,qpM,qpL,qpK,qpJ,qpI,qpH,qpG,qeG,qkI,qkH,qkG]
 |succ k ih=>
  intro i hi e;have hlt:i<ks.length:=by omega
  have hm:=qaK hlt;have h1:=qdn hm;have h2:=qdd s (tAt ks i);have h3:=qra s f ks i;have h4:=qdC (qu9 s f ks i);have h5:((tAt ks i).norm s).kids.length<=1099511627776:=by have:=qdC ((tAt ks i).norm s).kids;rw[qlU]at this;omega
  obtain⟨e',he⟩:=qNv s hs f v ks (qu9 s f ks i) (by have:=qdC ks;omega) i hlt (by omega) h5 (hc _ hm);rw[<-ih (i+1) (by omega) e',qq9 s f ks i hlt];exact qbs (head _ _ e (by simp) (by simp) (by simp)) he
theorem qMw(s:List SymL)(hs:s.length<=1099511627776)(f v:Int)(ks:List T)(hl:qdZ ks<=1099511627776)
 (hc:∀t,t∈ks->qad XV 169 [.d (sg s),.d (t.enc .sub)] []=some (.d ((t.norm s).enc U),[])):
 qax XV (XV.lin 169) qps.pre ⟨qaj 0 [.d (sg s),.d ((T.node f v ks).enc .sub)],[]⟩=
  some (.normal,⟨[(3,.ptr 0 0),(4,.ptr 1 0),(5,.d (.sl U ((flatK s f (T.norms s ks)).map (T.enc U)))),(42,.d (.bool (qbb s f)))],nB f v ks⟩):=by
 have hloop:=qIP s hs f v ks hl hc ks.length 0 (by omega) [];have hb:=qfn s hs f;simp only[qq8,List.map_nil,List.append_nil,qIY,nB,Int.natCast_zero]at hloop;simp[qps,qeX,qiM,qiL,qiK,qeG,splice,qaa,qac,qaf,qar,qae,AV.qav,nB];rw[hloop];simp[qeG,hb,qae]
theorem qER:∀l:List T,((l.map (T.enc U)).flatMap DV.cells).map AV.d=kc l:=fun l=>by rw[qA1];rfl
theorem qEc(t:T)(r:List T)(hl:qdZ (t::r)<=1099511627776):qhJ (qad XV) qps (t.enc U) (r.map (T.enc U))=some ((qeL (t::r)).map (T.enc U)):=by
 have hlen:=qdC (t::r);obtain⟨l',p1,p2,p3⟩:=qnN (t::r) (by omega) (fun x hx=>by have:=qdn hx;omega);have he:=quj p1 p2;have hu:=qFy (t::r);have hk:=qER (t::r);simp only[List.map_cons]at hu hk;unfold qhJ;rw[if_pos hu,hk];have e1:(T.enc U t).cells.length=3:=by simp
 have e2:(r.map (T.enc U)).length+1=(t::r).length:=by simp
 rw[e1,e2];have e3:qad XV qps.srt [.tsl true 0 3 (t::r).length,.fn qps.cmp []] [some (kc (t::r))]=some (.d (.tup []),[some (kc l')]):=p3;rw[e3];have hll:l'.length=(t::r).length:=p1.length_eq;have e4:qaC (kc l')=some (flat (l'.map (T.enc U))):=by rw[qA1];exact qBW _
 have e5:=qnb (l'.map (T.enc U)) (qJq U l');have e6:(flat (l'.map (T.enc U))).length=(t::r).length*3:=by
  have:=qbn e4;have h2:=qhd l';rw[this,List.length_map]at h2;rw[h2,hll]
 simp only[e4,Option.bind_some];rw[if_pos e6,<-hll];rw[List.length_map]at e5;rw[e5,he]
theorem qpj{X:XEnv}{T:List Nat}{sf:SFn}{ds:List DV}{S:XS}{x:DV}{xr:List DV}{y:DV×DV}{q:List DV}(hn:ds.length=sf.np)(hp:qax X T sf.pre ⟨qaj 0 (ds.map .d),[]⟩=some (.normal,S))
 (h1:lk S.r sf.cond=some (.d (.bool true))) (h2:lk S.r sf.row=some (.d (.sl U (x::xr)))) (h3:qhH S=some y) (h4:qhJ (qad X) sf x xr=some q):qnH X T sf ds=some (.agg [y.1,y.2,.sl U q]):=by
 unfold qnH;rw[if_neg (by simpa using hn),hp];simp only[Option.bind_some];rw[h1,h2];simp only[U];rw[h3];simp only[Option.bind_some,h4,Option.map_some]
theorem qsl(s:List SymL)(hs:s.length<=1099511627776)(f v:Int)(ks:List T)(hl:qdZ ks<=1099511627776)
 (hc:∀t,t∈ks->qad XV 169 [.d (sg s),.d (t.enc .sub)] []=some (.d ((t.norm s).enc U),[])):
 qad XV 169 [.d (sg s),.d ((T.node f v ks).enc .sub)] []=some (.d (((T.node f v ks).norm s).enc U),[]):=by
 have hp:=qMw s hs f v ks hl hc;have hcn:qdZ (flatK s f (T.norms s ks))<=1099511627776:=by
  have:=qfX s f (T.norms s ks);have:=qfW s ks;omega
 rw[qxj XV 169 _ _ qps rfl qxQ qxJ];simp only[qaC,Option.bind_some,Option.map_some];have slow:qnH XV (XV.lin 169) qps [sg s,(T.node f v ks).enc .sub]=qnH XV (XV.lin 169) qps [sg s,(T.node f v ks).enc .sub]:=rfl
 conv at slow=>rhs;unfold qnH
 rw[if_neg (by simp[qps,qeX])]at slow;simp only[List.map_cons,List.map_nil]at slow;rw[hp]at slow;simp only[T.norm]
 by_cases hb:qbb s f=true
 ·rw[if_pos hb]
  cases hq:flatK s f (T.norms s ks)with
  |nil=>
   rw[slow];have hz:qeL ([]:List T)=[]:=rfl;have hsn:=qEd (nB f v ks);simp only[nB]at hsn;simp[qps,qeX,hb,hq,lk,nB,hz,hsn,splice,qaa,qac,qaf,qar,qae];rw[T.qbP];rfl
  |cons x r=>
   rw[hq]at hcn;have hr:=qEc x r hcn;have:=qpj (X:=XV) (T:=XV.lin 169) (sf:=qps) (ds:=[sg s,(T.node f v ks).enc .sub]) (x:=x.enc U) (xr:=r.map (T.enc U)) (y:=(.int .i64 f,.int .i64 v)) rfl hp (by simp[qps,qeX,lk,hb]) (by simp[qps,qeX,lk,hq]) (by simp[qhH,lk,nB,DV.flat,qaa]) hr;rw[this];simp only[Option.map_some];rw[T.qbP];rfl
 ·rw[if_neg hb,slow]
  have hb':qbb s f=false:=by simpa using hb
  simp[qps,qeX,hb',lk,nB,splice,qaa,qac,qaf,qar,qae]
theorem qly(s:List SymL)(hs:s.length<=1099511627776)(t:T)(ht:t.inner<=1099511627776):qad XV 169 [.d (sg s),.d (t.enc .sub)] []=some (.d ((t.norm s).enc U),[]):=by
 match t,ht with
 | .node f v ks,ht=>
  rw[T.qde]at ht;exact qsl s hs f v ks ht fun x hx=>qly s hs x (by have:=qdn hx;omega)
termination_by t
decreasing_by
 simp_wf
 have:=List.sizeOf_lt_of_mem hx;omega
end Go.Proofs.Ytfiakfiocdfpbaa.VS
namespace Go.Proofs.Ytfiakfiocdfpbaa.VS
abbrev ts(l:List Bd):List T:=l.map Bd.t
end Go.Proofs.Ytfiakfiocdfpbaa.VS
namespace Go.Proofs.Ytfiakfiocdfpbaa.VS
end Go.Proofs.Ytfiakfiocdfpbaa.VS
namespace Go.Proofs.Ytfiakfiocdfpbaa.VS
end Go.Proofs.Ytfiakfiocdfpbaa.VS
namespace Go.Proofs.Ytfiakfiocdfpbaa.VS
end Go.Proofs.Ytfiakfiocdfpbaa.VS
namespace Go.Proofs.Ytfiakfiocdfpbaa.VS
end Go.Proofs.Ytfiakfiocdfpbaa.VS
namespace Go.Proofs.Ytfiakfiocdfpbaa.VS
def IsV(d:DV)(a:T):Prop:=∃(g:Tag) (X:List DV),d= .agg [.int .i64 a.f,.int .i64 a.v,.sl g X]/\X.map DV.clr=a.kids.map (T.enc .sub)
theorem IsV.clr{d:DV}{a:T}(h:IsV d a):d.clr=a.enc .sub:=by
 obtain⟨g,X,rfl,hX⟩:=h;simp only[DV.clr,DV.clrs];rw[DV.qav,hX,T.qbP]
end Go.Proofs.Ytfiakfiocdfpbaa.VS
namespace Go.Proofs.Ytfiakfiocdfpbaa.VS
mutual
def qbO(u:List Bd):T->T
 | .node f v ks=>if f= -1/\ks.length=0 then qf3 u v else .node f v (qbF u ks)
def qbF(u:List Bd):List T->List T
 | []=>[]
 |t::r=>qbO u t::qbF u r
end
theorem qdL(u:List Bd):∀l:List T,qbF u l=l.map (qbO u)
 | []=>by simp[qbF]
 |t::r=>by simp[qbF,qdL u r]
end Go.Proofs.Ytfiakfiocdfpbaa.VS
namespace Go.Proofs.Ytfiakfiocdfpbaa.VS
theorem qAJ(u:List Bd)(n:Int)(M:Nat)(hM:∀i,i<u.length->(bAt u i).t.inner<=M):(qf3 u n).inner<=M:=by
 unfold qf3;split
 ·rename_i i h
  unfold qm2 at h;exact hM i (by have:=(qcE _ _ _ _ h).2.1;omega)
 ·simp[T.inner,T.inners]
mutual
theorem qgr(u:List Bd)(M:Nat)(hM:∀i,i<u.length->(bAt u i).t.inner<=M):∀t:T,(qbO u t).inner+1<=(t.inner+1)*(M+1)
 | .node f v ks=>by
  have h:=qlJ u M hM ks;simp only[qbO];split
  ·have:=qAJ u v M hM
   have h2:(M+1)<=((T.node f v ks).inner+1)*(M+1):=Nat.le_mul_of_pos_left _ (by omega);omega
  ·rw[T.qde,T.qde,Nat.add_mul]
   omega
theorem qlJ(u:List Bd)(M:Nat)(hM:∀i,i<u.length->(bAt u i).t.inner<=M):∀l:List T,qdZ (qbF u l)<=qdZ l*(M+1)
 | []=>by simp[qbF,qdZ,T.inners]
 |t::r=>by
  have h1:=qgr u M hM t;have h2:=qlJ u M hM r;simp only[qbF,qb1,Nat.add_mul]at*
  omega
end
theorem qBx(u:List Bd)(hu:u.length<=1099511627776)(hb:∀i,i<u.length->(bAt u i).t.inner<=1099511627776)(f v:Int)(ks:List T)(hl:ks.length<=1099511627776)
 (hc:∀t,t∈ks->qad XV 168 [.d (binds .sub u),.d (t.enc .sub)] []=some (.d ((qbO u t).enc U),[])):
 qad XV 168 [.d (binds .sub u),.d ((T.node f v ks).enc .sub)] []=some (.d ((qbO u (.node f v ks)).enc U),[]):=by
 rw[qap XV _ _ _ qCY rfl qx4 rfl];have hv:=qjP (T.node f v ks)
 by_cases hcond:f= -1/\ks.length=0
 ·obtain⟨rfl,h0⟩:=hcond
  have hks:ks=[]:=List.length_eq_zero_iff.1 h0;subst hks;have hk:=qsm u v hu hb;simp only[qbO,List.length_nil,and_self,if_true];generalize qf3 u v=a at*
  simp[qCY,qiW,qiV,qiU,qiT,qiS,qiR,qiQ,qiP,qiO,qiN,qfd,hv,hk,splice,qaa,qac,qaf,qar,qae]
 ·have hB:((f== -1)&&((ks.length:Int)==0))=false:=by
   rw[Bool.and_eq_false_iff]
   by_cases h1:f= -1
   ·right;exact beq_false_of_ne (by omega)
   ·left;exact beq_false_of_ne h1
  simp only[qbO,if_neg hcond];have hmap:∀i,i<ks.length->qa0 3 40 (.sl U ((qbF u (ks.take i)).map (T.enc U))) (.sl U [(qbO u (tAt ks i)).enc U])=some (.sl U ((qbF u (ks.take (i+1))).map (T.enc U))):=fun i hi=>by
   have:=qfE (qbF u (ks.take i)) [qbO u (tAt ks i)] U (by rw[qdL];simp;omega);rw[qe4 ks i hi,qdL u (_++_),List.map_append,<-qdL];exact this
  have hloop:=qau (X:=XV) (T:=XV.lin 168) (L:=2) (live:=[0,3,4,5,22,23,24]) (b:=quY) (n:=ks.length) (γ:=Unit) (st:=fun(_:Unit) i=>⟨[(0,.d (binds .sub u)),(3,.ptr 0 0),(4,.ptr 1 0),(5,.d (.sl U ((qbF u (ks.take i)).map (T.enc U)))),(22,.d (qai .sub ks)),(23,.d (.int .i64 ks.length)),(24,.d (.int .i64 i))],nB f v ks⟩) (step:=fun _ _=> .inl ())
   (F:=fun _=>(.exit 0,⟨[(0,.d (binds .sub u)),(3,.ptr 0 0),(4,.ptr 1 0),(5,.d (.sl U ((qbF u (ks.take ks.length)).map (T.enc U)))),(22,.d (qai .sub ks)),(23,.d (.int .i64 ks.length)),(24,.d (.int .i64 ks.length)),(25,.d (.bool false))],nB f v ks⟩)) (R:=fun _=>(.ret,⟨[],[]⟩))
   (fun _=>⟨by simp,by simp[quY,qiW,qiV,qiU,qiT,qiS,qiR,qiQ,qiP,qiO,qiN,qfd]⟩)
   (fun _ i hi=>by
    have hw:=qan (n:=i) (by omega);have hc':=hc _ (qaK hi);have ha:=hmap i hi;have hcl:((qbF u (ks.take (i+1))).map (T.enc U))=((qbF u (ks.take (i+1))).map (T.enc U)):=rfl;generalize hl2:(qbF u (ks.take (i+1))).map (T.enc U)=l2 at ha;generalize (qbF u (ks.take i)).map (T.enc U)=l1 at ha⊢
    generalize qbO u (tAt ks i)=a at*
    exact⟨⟨[(0,.d (binds .sub u)),(3,.ptr 0 0),(4,.ptr 1 0),(5,.d (.sl U l2)),(22,.d (qai .sub ks)),(23,.d (.int .i64 ks.length)),(24,.d (.int .i64 (i+1:Nat)))],nB f v ks++[some [.d (.int .i64 (tAt ks i).f),.d (.int .i64 (tAt ks i).v),.d (qai .sub (tAt ks i).kids)]]⟩,by simp[quY,qiW,qiV,qiU,qiT,qiS,qiR,qiQ,qiP,qiO,qiN,qfd,nB,hi,hw,cut,qaF hi,hc',ha,splice,qaa,qac,qaf,qar,qae],
     qcf (e:=[some [.d (.int .i64 (tAt ks i).f),.d (.int .i64 (tAt ks i).v),.d (qai .sub (tAt ks i).kids)]]) (by simp[<-hl2]) (by simp[qab]) (by simp[nB]) rfl⟩)
   ks.length () 0 ⟨[(0,.d (binds .sub u)),(3,.ptr 0 0),(4,.ptr 1 0),(5,.d (.sl U [])),(22,.d (qai .sub ks)),(23,.d (.int .i64 ks.length)),(24,.d (.int .i64 0))],nB f v ks⟩ (by omega) (qcf (e:=[]) (by simp[qbF]) (by simp[qab]) (by simp[nB]) (by simp))
  rw[qmI,List.take_length]at hloop;simp only[qIZ,nB]at hloop;have henc:(T.node f v (qbF u ks)).enc U= .agg [.int .i64 f,.int .i64 v,.sl U ((qbF u ks).map (T.enc U))]:=by rw[T.qbP];rfl
  rw[henc];generalize (qbF u ks).map (T.enc U)=R at*
  simp only[T.qbv]at hv;cases hf:(f== -1)with
  |false=>
   rw[hf]at hv;simp[qCY,qiW,qiV,qiU,qiT,qiS,qiR,qiQ,qiP,qiO,qiN,qfd,hv,splice,qaa,qac,qaf,qar,qae];rw[hloop];simp[qCY,qiW,qiV,qiU,qiT,qiS,qiR,qiQ,qiP,qiO,qiN,qfd,splice,qaa,qac,qaf,qar,qae]
  |true=>
   rw[hf]at hv hB;simp only[Bool.true_and]at hB;generalize hn:(ks.length:Int)=n at*
   simp[qCY,qiW,qiV,qiU,qiT,qiS,qiR,qiQ,qiP,qiO,qiN,qfd,hv,hB,hn,splice,qaa,qac,qaf,qar,qae];rw[hloop];simp[qCY,qiW,qiV,qiU,qiT,qiS,qiR,qiQ,qiP,qiO,qiN,qfd,splice,qaa,qac,qaf,qar,qae]
theorem qqF(u:List Bd)(hu:u.length<=1099511627776)(hb:∀i,i<u.length->(bAt u i).t.inner<=1099511627776)(t:T)(ht:t.inner<=1099511627776):qad XV 168 [.d (binds .sub u),.d (t.enc .sub)] []=some (.d ((qbO u t).enc U),[]):=by
 match t,ht with
 | .node f v ks,ht=>
  rw[T.qde]at ht;exact qBx u hu hb f v ks (by have:=qdC ks;omega) fun x hx=>qqF u hu hb x (by have:=qdn hx;omega)
termination_by t
decreasing_by
 simp_wf
 have:=List.sizeOf_lt_of_mem hx;omega
def qu5(l:List SymL)(u:List Bd)(t:T):T:=(qbO u t).norm l
theorem qi6(l:List SymL)(hs:l.length<=1099511627776)(u:List Bd)(t:T)(hu:u.length<=1099511627776)(hb:∀i,i<u.length->(bAt u i).t.inner<=1099511627776)(ht:t.inner<=1099511627776)(hf:(qbO u t).inner<=1099511627776):
 qad XV 135 [.d (sg l),.d (binds .sub u),.d (t.enc .sub)] []=some (.d ((qu5 l u t).enc U),[]):=by
 have h1:=qqF u hu hb t ht;have h2:=qly l hs (qbO u t) hf;unfold qu5;generalize qbO u t=a at*
 generalize a.norm l=c at*
 rw[qap XV _ _ _ qKg rfl qyq rfl];simp[qKg,qGo,qGn,h1,h2,splice,qaa,qac,qaf,qar,qae]
end Go.Proofs.Ytfiakfiocdfpbaa.VS
namespace Go.Proofs.Ytfiakfiocdfpbaa.VS
def cnt(t:T)(v:Int):Int:=IntKind.i64.wrap (T.sum (wC v) t)
def qNG(v:Int)(b:Bd):Bool:=decide (0<cnt b.t v)
def qFr(l:List SymL)(s:List Bd)(i:Nat):Bool:=(!inB (bAt s i).v 0 99||(decide (0<i)&&decide ((bAt s i).v<=(bAt s (i-1)).v)))|| !qaT l (bAt s i).t
def qLf(s:List Bd)(i:Nat):Bool:=(qao (fun j=>qNG (bAt s i).v (bAt s j)) s.length 0).isSome
def qOq(l:List SymL)(s:List Bd)(i:Nat):Bool:=qFr l s i||qLf s i
def qmD(l:List SymL)(s:List Bd):Bool:=(qao (qOq l s) s.length 0).isNone
theorem qhM{q:Nat->Bool}{i:Nat}(h:q i=true):qbT q () i= .inr i:=by unfold qbT;rw[if_pos h]
theorem qy2{q:Nat->Bool}{i:Nat}(h:q i=false):qbT q () i= .inl ():=by unfold qbT;rw[if_neg (by simp[h])]
def qne(b:Bd):List AV:=[.d (.int .i64 b.v),.d (.int .i64 b.t.f),.d (.int .i64 b.t.v),.d (qai .sub b.t.kids)]
theorem qH2(b c:Bd)(hb:b.t.inner<=1099511627776):qad XV 71 [.d (c.enc .sub),.ptr 0 0] [some (qne b)]=some (.d (.bool (qNG c.v b)),[some (qne b)]):=by
 rw[qap XV _ _ _ v71 rfl qDq rfl];have hc:=qfm b.t hb c.v
 change _=some (AV.d (.int .i64 (cnt b.t c.v)),[])at hc
 simp[v71,qLB,qLA,hc,qNG,qne]
theorem qov(l:List Bd)(fk:Nat)(caps:List AV)(B:qal)(P:Bd->Bool)(hl:l.length<=1099511627776)(hs:AV.safe.safes B.length caps=true)(hcc:caps.map AV.clr=caps)(hk:¬0∈XV.lin fk)
 (hf:∀s,s∈l->qad XV fk (.d (s.enc .sub)::caps) B=some (.d (.bool (P s)),B)):
 qad XV 76 [.d (binds .sub l),.fn fk caps] B=some (.d (.int .i64 (qdA (qao (fun i=>P (bAt l i)) l.length 0))),B):=by
 rw[qap XV _ _ _ v76 rfl qDl rfl];have h:=qau (X:=XV) (T:=XV.lin 76) (L:=B.length) (live:=[0,1,7,8]) (b:=qCx) (n:=l.length) (st:=fun(_:Unit) i=>⟨[(0,.d (binds .sub l)),(1,.fn fk caps),(7,.d (.int .i64 l.length)),(8,.d (.int .i64 i))],B⟩) (step:=qbT fun i=>P (bAt l i))
  (F:=fun _=>(.exit 0,⟨[(0,.d (binds .sub l)),(1,.fn fk caps),(7,.d (.int .i64 l.length)),(8,.d (.int .i64 l.length)),(9,.d (.bool false))],B⟩)) (R:=fun(j:Nat)=>(.ret,⟨[(4,.d (.int .i64 j))],B⟩))
  (fun a=>⟨by simp,by simp[qCx,qvP,qvO,qvN,qvM,qvL,qvK,qvJ,qvI,hcc]⟩)
  (fun a i hi=>by
   have hw:=qan (n:=i) (by omega);have hc:=hf _ (qsL hi);unfold qbT
   by_cases hq:P (bAt l i)=true
   ·rw[if_pos hq];rw[hq]at hc
    exact⟨by simp,by simp[qCx,qvP,qvO,qvN,qvM,qvL,qvK,qvJ,qvI,hi,hw,cut,qdt hi,hc,hcc,hk]⟩
   ·rw[if_neg hq]
    have hq':P (bAt l i)=false:=by simpa using hq
    rw[hq']at hc;exact⟨_,by simp[qCx,qvP,qvO,qvN,qvM,qvL,qvK,qvJ,qvI,hi,hw,cut,qdt hi,hc,hcc,hk];rfl,by simp[qah,qab,hs]⟩)
  l.length () 0 ⟨[(0,.d (binds .sub l)),(1,.fn fk caps),(7,.d (.int .i64 l.length)),(8,.d (.int .i64 0))],B⟩ (by omega) (by simp[qah,qab,hs])
 rw[qpt]at h;simp only[qNs]at h;simp[v76,qvP,qvO,qvN,qvM,qvL,qvK,qvJ,qvI,hcc];rw[h];cases hq:qao (fun i=>P (bAt l i)) l.length 0<;>simp[qdA,v76,qvP,qvO,qvN,qvM,qvL,qvK,qvJ,qvI]
theorem qjz(l:List Bd)(fk:Nat)(caps:List AV)(B:qal)(P:Bd->Bool)(hl:l.length<=1099511627776)(hs:AV.safe.safes B.length caps=true)(hcc:caps.map AV.clr=caps)(hk:¬0∈XV.lin fk)
 (hf:∀s,s∈l->qad XV fk (.d (s.enc .sub)::caps) B=some (.d (.bool (P s)),B)):
 qad XV 72 [.d (binds .sub l),.fn fk caps] B=some (.d (.bool (qao (fun i=>P (bAt l i)) l.length 0).isSome),B):=by
 rw[qap XV _ _ _ v72 rfl qDp rfl];have h:=qov l fk caps B P hl hs hcc hk hf;cases hq:qao (fun i=>P (bAt l i)) l.length 0 with
 |none=>rw[hq]at h;simp[v72,qIn,qIm,h,qdA,hcc]
 |some j=>rw[hq]at h;simp[v72,qIn,qIm,h,qdA,hcc]
theorem qi8(q:Nat->Bool):∀(k i:Nat),qao q k i=none↔∀j,i<=j->j<i+k->q j=false
 |0,i=>by simp[qao];intro j h h';omega
 |k+1,i=>by
  simp only[qao]
  by_cases h:q i=true
  ·simp only[h,if_true]
   constructor
   ·intro h';cases h'
   ·intro h';have:=h' i (Nat.le_refl _) (by omega);rw[h]at this;cases this
  ·have h':q i=false:=by simpa using h
   simp only[h'];rw[if_neg (by simp),qi8 q k (i+1)];constructor
   ·intro hj j h1 h2
    rcases Nat.eq_or_lt_of_le h1 with rfl|h3
    ·exact h'
    ·exact hj j h3 (by omega)
   ·intro hj j h1 h2;exact hj j (by omega) (by omega)
def qy6(s:List Bd)(i:Nat):Bool:=(qao (fun j=>qNG (bAt s j).v (bAt s i)) s.length 0).isSome
def quW(l:List SymL)(s:List Bd)(i:Nat):Bool:=qFr l s i||qy6 s i
theorem qfl{q:Nat->Bool}{n:Nat}:(qao q n 0).isSome=false↔∀j,j<n->q j=false:=by
 have h:=qi8 q n 0;cases hq:qao q n 0 with
 |none=>simp only[Option.isSome_none,true_iff];intro j hj;exact h.1 hq j (Nat.zero_le _) (by omega)
 |some k=>
  simp only[Option.isSome_some];constructor
  ·intro h';cases h'
  ·intro h'
   have:=h.2 (fun j _ hj=>h' j (by omega));rw[hq]at this;cases this
theorem qH1(l:List SymL)(s:List Bd):qmD l s=(qao (quW l s) s.length 0).isNone:=by
 have key:(qao (qOq l s) s.length 0).isSome=false↔(qao (quW l s) s.length 0).isSome=false:=by
  rw[qfl,qfl];simp only[qOq,quW,qLf,qy6,Bool.or_eq_false_iff,qfl];constructor
  ·intro h i hi;exact⟨(h i hi).1,fun j hj=>(h j hj).2 i hi⟩
  ·intro h i hi;exact⟨(h i hi).1,fun j hj=>(h j hj).2 i hi⟩
 unfold qmD;cases h1:qao (qOq l s) s.length 0<;>cases h2:qao (quW l s) s.length 0<;>simp[h1,h2]at key⊢
theorem qqr(l:List SymL)(s:List Bd)(hs:l.length<=1099511627776)(hn:∀i,i<l.length->(qaG l i).name.size<=1099511627776)(hl:s.length<=1099511627776)(hb:∀i,i<s.length->(bAt s i).t.inner<=1099511627776):
 qad XV 68 [.d (sg l),.d (binds .sub s)] []=some (.d (.bool (qmD l s)),[]):=by
 rw[qap XV _ _ _ v68 rfl qDs rfl,qH1];have h:=qau (X:=XV) (T:=XV.lin 68) (L:=0) (live:=[0,1,7,8,9]) (b:=ql3) (n:=s.length) (γ:=Nat) (st:=fun(_:Unit) i=>⟨[(0,.d (sg l)),(1,.d (binds .sub s)),(7,.d (binds .sub s)),(8,.d (.int .i64 s.length)),(9,.d (.int .i64 i))],[]⟩) (step:=qbT (quW l s))
  (F:=fun _=>(.exit 0,⟨[(0,.d (sg l)),(1,.d (binds .sub s)),(7,.d (binds .sub s)),(8,.d (.int .i64 s.length)),(9,.d (.int .i64 s.length)),(10,.d (.bool false))],[]⟩)) (R:=fun i=>(.ret,⟨[(4,.d (.bool false))],[some (qne (bAt s i))]⟩))
  (fun _=>⟨by simp,by simp[ql3,qjy,qjx,qjw,qjv,qlP,qju,qjt,qjs,qjr,qjq]⟩)
  (fun _ i hi=>by
   have hw:=qan (n:=i) (by omega);have n1:=qif (bAt s i).v 0 99;have n2:=qcZ l hs hn (bAt s i).t (hb i hi);have hin:=qjz s 71 [.ptr 0 0] [some (qne (bAt s i))] (fun c=>qNG c.v (bAt s i)) hl (by simp) (by simp) (by simp) (fun c _=>qH2 (bAt s i) c (hb i hi))
   change _=some (AV.d (.bool (qy6 s i)),_)at hin
   unfold qne at hin⊢
   cases c1:inB (bAt s i).v 0 99 with
   |false=>
    rw[c1]at n1;rw[qhM (by simp[quW,qFr,c1])];exact⟨by simp,by simp[ql3,qjy,qjx,qjw,qjv,qlP,qju,qjt,qjs,qjr,qjq,splice,qae,hi,hw,cut,qdt hi,n1]⟩
   |true=>
    rw[c1]at n1
    by_cases c0:0<i
    ·have hw1:IntKind.i64.wrap ((i:Int)-1)=((i-1:Nat):Int):=by rw[wrap_i64 (by omega) (by omega)];omega
     have hp:i-1<s.length:=by omega
     have c0':(i:Int)>0:=by omega
     by_cases c2:(bAt s i).v<=(bAt s (i-1)).v
     ·rw[qhM (by simp[quW,qFr,c1,c0,c2])]
      exact⟨by simp,by simp[ql3,qjy,qjx,qjw,qjv,qlP,qju,qjt,qjs,qjr,qjq,splice,qae,hi,hw,cut,qdt hi,n1,c0,hw1,hp,qdt hp,c2]⟩
     ·cases c3:qaT l (bAt s i).t with
      |false=>
       rw[c3]at n2;rw[qhM (by simp[quW,qFr,c3])];exact⟨by simp,by simp[ql3,qjy,qjx,qjw,qjv,qlP,qju,qjt,qjs,qjr,qjq,splice,qae,hi,hw,cut,qdt hi,n1,c0,hw1,hp,qdt hp,c2,n2]⟩
      |true=>
       rw[c3]at n2;cases c4:qy6 s i with
       |true=>
        rw[c4]at hin;rw[qhM (by simp[quW,c4])];exact⟨by simp,by simp[ql3,qjy,qjx,qjw,qjv,qlP,qju,qjt,qjs,qjr,qjq,splice,qae,hi,hw,cut,qdt hi,n1,c0,hw1,hp,qdt hp,c2,n2,hin]⟩
       |false=>
        rw[c4]at hin;rw[qy2 (by simp[quW,qFr,c1,c2,c3,c4])];refine⟨_,by simp[ql3,qjy,qjx,qjw,qjv,qlP,qju,qjt,qjs,qjr,qjq,splice,qae,hi,hw,cut,qdt hi,n1,c0,hw1,hp,qdt hp,c2,n2,hin];rfl,by simp[qah,qab]⟩
    ·cases c3:qaT l (bAt s i).t with
     |false=>
      rw[c3]at n2;rw[qhM (by simp[quW,qFr,c3])];exact⟨by simp,by simp[ql3,qjy,qjx,qjw,qjv,qlP,qju,qjt,qjs,qjr,qjq,splice,qae,hi,hw,cut,qdt hi,n1,c0,n2]⟩
     |true=>
      rw[c3]at n2;cases c4:qy6 s i with
      |true=>
       rw[c4]at hin;rw[qhM (by simp[quW,c4])];exact⟨by simp,by simp[ql3,qjy,qjx,qjw,qjv,qlP,qju,qjt,qjs,qjr,qjq,splice,qae,hi,hw,cut,qdt hi,n1,c0,n2,hin]⟩
      |false=>
       rw[c4]at hin;rw[qy2 (by simp[quW,qFr,c0,c1,c3,c4])];refine⟨_,by simp[ql3,qjy,qjx,qjw,qjv,qlP,qju,qjt,qjs,qjr,qjq,splice,qae,hi,hw,cut,qdt hi,n1,c0,n2,hin];rfl,by simp[qah,qab]⟩)
  s.length () 0 ⟨[(0,.d (sg l)),(1,.d (binds .sub s)),(7,.d (binds .sub s)),(8,.d (.int .i64 s.length)),(9,.d (.int .i64 0))],[]⟩ (by omega) (by simp[qah,qab])
 rw[qpt]at h;simp only[qNt]at h;simp[v68,qjy,qjx,qjw,qjv,qlP,qju,qjt,qjs,qjr,qjq];rw[h];cases hq:qao (quW l s) s.length 0<;>simp[v68,qjy,qjx,qjw,qjv,qlP,qju,qjt,qjs,qjr,qjq]
end Go.Proofs.Ytfiakfiocdfpbaa.VS
namespace Go.Proofs.Ytfiakfiocdfpbaa.VS
theorem qCI(a:List Bd)(x:Bd)(h:(a.length+1)*48<=140737488355328):qa0 4 48 (.sl U (a.map (Bd.enc U))) (.sl U [x.enc U])=some (.sl U ((a++[x]).map (Bd.enc U))):=by
 unfold qa0;simp only;rw[if_pos (by simp[qaa,qac])];simp only[List.isEmpty_cons,Bool.false_eq_true,if_false];rw[if_pos ⟨by simpa using h,trivial,by simp⟩];simp
theorem qq6(a:List Bd)(v:Int)(t:T)(h:(a.length+1)*48<=140737488355328):qa0 4 48 (.sl U (a.map (Bd.enc U))) (.sl U [.agg [.int .i64 v,.int .i64 t.f,.int .i64 t.v,qai U t.kids]])=some (.sl U ((a++[(⟨v,t⟩:Bd)]).map (Bd.enc U))):=qCI a ⟨v,t⟩ h
end Go.Proofs.Ytfiakfiocdfpbaa.VS
namespace Go.Proofs.Ytfiakfiocdfpbaa.VS
structure BdD(b:Bd):Prop where
 inner:b.t.inner<=14
 rng:b.t.rng
 v: -1<=b.v/\b.v<=100
theorem qqj(bs:List Int)(hl:bs.length<=1099511627776)(q L i:Nat)(hi:i<3)(u:List Bd)(hu:u.length<=3)(B:qal)(hL:B.length=L)(hsd:qcy bs q B):
 ∃(u':List Bd) (B':qal),u'.length<=u.length+1/\(∀b,b∈u'->b∈u\/BdD b)/\qcg bs q B B'/\B'.length=L/\
  ∃e,qax XV (XV.lin 158) ql6 ⟨[(0,.ptr q 0),(3,.d (.sl U (u.map (Bd.enc U)))),(4,.d (.int .i64 i))],B⟩=some (.normal,⟨[(0,.ptr q 0),(3,.d (.sl U (u'.map (Bd.enc U)))),(4,.d (.int .i64 ((i+1:Nat):Int)))],B'++e⟩):=by
 have hq:=hsd.lt;have hw:=qan (n:=i) (by omega);have hi3:(i:Int)<3:=by omega
 obtain⟨b,B1,hT1,hc1⟩:=qlg bs hl B q hsd 3 (by omega) (by omega);have hl1:B1.length=L:=by rw[hT1.len,hL]
 have hs1:=hT1.at hq;cases b with
 |true=>
  refine⟨u,B1,by omega,fun b hb=> .inl hb,hT1,hl1,[],?_⟩;simp[ql6,qpS,qpR,qpQ,qpP,qtP,qtO,qtN,qB5,qtM,qtQ,qh4,hi3,hc1,hw]
 |false=>
  obtain⟨t,B2,ht,_,hT2,hc2⟩:=qd8 bs hl 0 (by omega) (B1++[none]) q (hs1.app [none]);obtain⟨B3,hT3,hl3,rfl⟩:=qb5 (by omega) hT2;obtain⟨f,v,ks⟩:=t;obtain⟨b,B4,hT4,hc4⟩:=qlg bs hl (B3++[some [.d (.int .i64 f),.d (.int .i64 v),.d (qai U ks)]]) q ((hT3.at (by omega)).app _) 3 (by omega) (by omega);obtain⟨B5,hT5,hl5,rfl⟩:=qb5 (by omega) hT4;have e3:B3.length=L:=by omega
  have e5:B5.length=L:=by omega
  cases b with
  |false=>
   have ha:=qq6 u i (.node f v ks) (by omega);refine⟨u++[(⟨(i:Int),.node f v ks⟩:Bd)],B5,by simp,fun b hb=> ?_,hT1.trans (hT3.trans hT5),e5,[some [.d (.int .i64 f),.d (.int .i64 v),.d (qai .sub ks)]],?_⟩
   ·rcases List.mem_append.1 hb with h|h
    ·exact .inl h
    ·simp at h;subst h
     exact .inr ⟨by simp only;omega,ht.2,by simp only;omega⟩
   ·simp only[T.qbv,T.qcS,T.qaH]at ha
    generalize (u++[(⟨(i:Int),.node f v ks⟩:Bd)]).map (Bd.enc U)=lu at ha⊢
    generalize u.map (Bd.enc U)=l0 at ha⊢
    simp[ql6,qpS,qpR,qpQ,qpP,qtP,qtO,qtN,qB5,qtM,qtQ,qh4,hi3,hc1,hc2,hc4,hw,hl1,e3,e5,qhr,qjf,ha,qaJ,List.replicate,splice,qaa,qac,qaf,qar,qae]
  |true=>
   obtain⟨p5,st5,hp5,hb5⟩:=hT5.at (by omega:q<B3.length);have hg5:=qc4 hb5;have hLq:¬L=q:=by omega
   have hL1:¬L+1<=L:=by omega
   have hq5:q<B5.length:=by omega
   have hgx:∀x:Option (List AV),(B5++[x])[q]?=some (some (qa9 bs p5 st5)):=fun x=>by rw[List.getElem?_append_left hq5];exact hg5
   have hsx:∀(x c:Option (List AV)),(B5++[x]).set q c=B5.set q c++[x]:=fun x c=>List.set_append_left _ _ hq5
   obtain⟨r,B6,hr,⟨p6,st6,hp6,rfl⟩,hc6⟩:=qca bs hl [some (qa9 bs p5 st5)] 0 ⟨p5,st5,hp5,rfl⟩ 2 (by omega) (by omega);simp only[List.set_cons_zero]at hc6;have hw5:IntKind.i64.wrap (5+r)=5+r:=wrap_i64 (by omega) (by omega);have hv:=quh (5+r);have ho:qad XV 164 [.d (.int .i64 5),.d (.sl .sub [(T.node (-1) (5+r) []).enc .sub,(T.node f v ks).enc .sub])] []=some (.d (.agg [.int .i64 5,.int .i64 0,.sl .sub [(T.node (-1) (5+r) []).enc .sub,(T.node f v ks).enc .sub]]),[]):=by
    have:=qor 5 [T.node (-1) (5+r) [],T.node f v ks];rw[T.qbP]at this;exact this
   have hn:=qgk qdk (by decide) (T.node 5 0 [T.node (-1) (5+r) [],T.node f v ks]) (by have:=ht.1;simp[T.inner,T.inners]at this⊢;omega);have hni:=qdd qdk (T.node 5 0 [T.node (-1) (5+r) [],T.node f v ks]);have hnr:((T.node 5 0 [T.node (-1) (5+r) [],T.node f v ks]).norm qdk).rng:=qoo qdk _ (by
    have h2:=ht.2;have h3:(-9223372036854775808:Int)<=5+r/\5+r<=9223372036854775807:=by omega
    generalize 5+r=r5 at*
    generalize hT:T.node f v ks=T0 at*
    simp[T.rng,T.rngs,h2,h3])
   have hii:(T.node 5 0 [T.node (-1) (5+r) [],T.node f v ks]).inner<=14:=by have:=ht.1;simp[T.inner,T.inners]at this⊢;omega
   rw[T.qbP]at hn;unfold nM at hn;simp only[qai,T.qbv,T.qcS,T.qaH,List.map_cons,List.map_nil]at hn;generalize (T.node 5 0 [T.node (-1) (5+r) [],T.node f v ks]).norm qdk=m at*
   obtain⟨mf,mv,mk⟩:=m;have hs:=qjO;simp only[sg]at hn;have ha:=qq6 u i (.node mf mv mk) (by omega);refine⟨u++[(⟨(i:Int),.node mf mv mk⟩:Bd)],B5.set q (some (qa9 bs p6 st6)),by simp,fun b hb=> ?_,hT1.trans (hT3.trans (hT5.trans ⟨p6,st6,hp6,rfl⟩)),by simp[e5],[some [.d (.int .i64 mf),.d (.int .i64 mv),.d (qai .sub mk)]],?_⟩
   ·rcases List.mem_append.1 hb with h|h
    ·exact .inl h
    ·simp at h;subst h
     exact .inr ⟨by simp only;omega,hnr,by simp only;omega⟩
   ·simp only[T.qbv,T.qcS,T.qaH]at ha
    generalize hsq:qdk.map SymL.enc=sq at hs hn;have hqc:sq.map DV.clr=sq:=by rw[<-hsq];exact qfA _
    have eX:∀c:Option (List AV),(B5.set q c).length=L:=fun c=>by simp[e5]
    generalize (u++[(⟨(i:Int),.node mf mv mk⟩:Bd)]).map (Bd.enc U)=lu at ha⊢
    generalize u.map (Bd.enc U)=l0 at ha⊢
    simp[ql6,qpS,qpR,qpQ,qpP,qtP,qtO,qtN,qB5,qtM,qtQ,qh4,hLq,hL1,hi3,hc1,hc2,hc4,hc6,hw,hw5,hl1,e3,e5,eX,hgx,hsx,hv,ho,hn,hs,hqc,qcv,qbp,qhr,qjf,ha,qaJ,List.replicate,splice,qaa,qac,qaf,qar,qae]
theorem qqi(bs:List Int)(hl:bs.length<=1099511627776)(q L:Nat):∀(k i:Nat) (u:List Bd) (B:qal),i+k=3->u.length<=i->(∀b,b∈u->BdD b)->B.length=L->qcy bs q B->∀s0,qah L [0,3,4] s0=some ⟨[(0,.ptr q 0),(3,.d (.sl U (u.map (Bd.enc U)))),(4,.d (.int .i64 i))],B⟩->
 ∃(u':List Bd) (B':qal),u'.length<=3/\(∀b,b∈u'->BdD b)/\qcg bs q B B'/\qbm XV (XV.lin 158) L [0,3,4] ql6 s0=some (.exit 0,⟨[(0,.ptr q 0),(3,.d (.sl U (u'.map (Bd.enc U)))),(4,.d (.int .i64 3)),(8,.d (.bool false))],B'⟩):=by
 intro k
 induction k with
 |zero=>
  intro i u B hik hu hs hB hsd s0 h0;have hi:i=3:=by omega
  subst hi;obtain⟨pos,st,hp,hb⟩:=hsd;refine⟨u,B,hu,hs,⟨pos,st,hp,?_⟩,qaR h0 ?_ (by simp)⟩
  ·have:=qc4 hb
   exact(List.ext_getElem? fun j=>by
    rw[List.getElem?_set];split
    ·rename_i h;subst h;rw[this];simp[qsK hb]
    ·rfl)
  ·simp[ql6,qpP]
 |succ k ih=>
  intro i u B hik hu hs hB hsd s0 h0;obtain⟨u',B',g1,g2,g3,g4,e,g5⟩:=qqj bs hl q L i (by omega) u (by omega) B hB hsd;rw[qbs h0 g5];obtain⟨u2,B2,f1,f2,f3,f4⟩:=ih (i+1) u' B' (by omega) (by omega) (fun b hb=>(g2 b hb).elim (hs b) id) g4 (g3.at hsd.lt) ⟨[(0,.ptr q 0),(3,.d (.sl U (u'.map (Bd.enc U)))),(4,.d (.int .i64 ((i+1:Nat):Int)))],B'++e⟩ (qcf (e:=e) (by simp) (by simp[qab];have:=hsd.lt;omega) g4 rfl);exact⟨u2,B2,f1,f2,g3.trans f3,f4⟩
theorem qwB(bs:List Int)(hl:bs.length<=1099511627776)(B:qal)(q:Nat)(h:qcy bs q B):
 ∃(u:List Bd) (B':qal),u.length<=3/\(∀b,b∈u->BdD b)/\qcg bs q B B'/\qad XV 158 [.ptr q 0] B=some (.d (binds U u),B'):=by
 obtain⟨u,B',h1,h2,h3,h4⟩:=qqi bs hl q B.length 3 0 [] B rfl (by simp) (fun b hb=>by simp at hb) rfl h ⟨[(0,.ptr q 0),(3,.d (.sl U [])),(4,.d (.int .i64 0))],B⟩ (qcf (e:=[]) (by simp) (by simp[qab];exact h.lt) rfl (by simp));refine⟨u,B',h1,h2,h3,?_⟩;have htk:List.take B.length B'=B':=List.take_of_length_le (by rw[h3.len];exact Nat.le_refl _);rw[qap XV _ _ _ qJ6 rfl qyd rfl];have hq:=h.lt;simp only[qI0]at h4;show _=some (AV.d (DV.sl U (u.map (Bd.enc U))),B');generalize u.map (Bd.enc U)=lu at h4⊢
 simp[qJ6,qpS,qpR,qpQ,qh4,hq];rw[h4];simp[qh4,htk]
theorem qCJ(a:List Bd)(x:Bd)(g:Tag)(h:a.length<=1000):qa0 4 48 (.sl U (a.map (Bd.enc U))) (.sl U [x.enc g])=some (.sl U (a.map (Bd.enc U)++[x.enc g])):=by
 have h1:(a.map (Bd.enc U)).all (fun e=>decide (e.cells.length=4))=true:=by
  rw[List.all_eq_true];intro y hy;obtain⟨z,_,rfl⟩:=List.mem_map.1 hy;simp
 unfold qa0;simp[qaa,qac];omega
theorem qAV(bs:List Int)(hl:bs.length<=1099511627776)(pos st:Int)(hp:0<=pos/\pos<=bs.length):
 ∃(u:List Bd) (g:Tag) (ds:List DV) (pos' st':Int),u.length<=4/\(∀b,b∈u->BdD b)/\ds.map DV.clr=u.map (Bd.enc .sub)/\(0<=pos'/\pos'<=bs.length)/\qad XV 157 [.ptr 0 0] [some (qa9 bs pos st)]=some (.d (.sl g ds),[some (qa9 bs pos' st')]):=by
 have h0:qcy bs 0 [some (qa9 bs pos st)]:=⟨pos,st,hp,rfl⟩;obtain⟨u,B1,hu,hud,⟨p1,s1,hp1,rfl⟩,hc1⟩:=qwB bs hl _ 0 h0;obtain⟨r,B2,hr,⟨p2,s2,hp2,rfl⟩,hc2⟩:=qca bs hl [some (qa9 bs p1 s1)] 0 ⟨p1,s1,hp1,rfl⟩ 8 (by omega) (by omega);simp only[List.set_cons_zero,binds]at hc1 hc2;rw[qxF XV _ _ _ qyQ rfl qye rfl (m:=1) rfl rfl];simp only[qio,qlX,qbp]
 by_cases c0:r=0
 ·subst c0
  obtain⟨j,hj,B3,⟨p3,s3,hp3,rfl⟩,hc3⟩:=qd5 bs hl [some (qa9 bs p2 s2)] 0 ⟨p2,s2,hp2,rfl⟩ [-1,0,2,9,100] (by simp) (by simp);have hall:∀x:Int,x∈([-1,0,2,9,100]:List Int)->-1<=x/\x<=100:=fun x hx=>by
   simp only[List.mem_cons,List.not_mem_nil,or_false]at hx;omega
  have hx:=hall _ (List.getElem_mem hj);generalize ([-1,0,2,9,100]:List Int)[j]=x at hc3 hx;obtain⟨t,g,p4,s4,ht,hp4,hc4⟩:=qhb bs hl p3 s3 hp3;have hap:=qCJ u ⟨x,t⟩ g (by omega);obtain⟨f,v,ks⟩:=t;refine⟨u++[⟨x,.node f v ks⟩],U,u.map (Bd.enc U)++[Bd.enc g ⟨x,.node f v ks⟩],p4,s4,by simp;omega,fun b hb=> ?_,by simp,hp4,?_⟩
  ·rcases List.mem_append.1 hb with h|h
   ·exact hud b h
   ·simp at h;subst h;exact⟨ht.1,ht.2,hx⟩
  ·simp only[List.set_cons_zero,List.map_cons,List.map_nil]at hc3
   have hap':qa0 4 48 (.sl U (u.map (Bd.enc U))) (.sl U [.agg [.int .i64 x,.int .i64 f,.int .i64 v,qai g ks]])=some (.sl U (u.map (Bd.enc U)++[.agg [.int .i64 x,.int .i64 f,.int .i64 v,qai g ks]])):=hap;show _=some (AV.d (DV.sl U (u.map (Bd.enc U)++[.agg [.int .i64 x,.int .i64 f,.int .i64 v,qai g ks]])),_);generalize u.map (Bd.enc U)=lu at*
   generalize lu++[.agg [.int .i64 x,.int .i64 f,.int .i64 v,qai g ks]]=l2 at*
   simp[qyQ,qkU,qkT,qkS,qkR,qkQ,qkP,qkO,qkN,qkM,hc1,hc2,hc3,hc4,hap',qcv,qbp,qaJ,List.replicate,splice,qaa,qac,qaf,qar]
 ·by_cases c1:r=1
  ·subst c1
   match u,hu,hud with
   | [],_,hud=>
    refine⟨[],.sub,[],p2,s2,by simp,hud,by simp,hp2,?_⟩;simp only[List.map_nil]at hc1;simp[qyQ,qkU,qkT,qkS,qkR,qkQ,qkP,qkO,qkN,qkM,hc1,hc2,qab,qct,AV.frz,AV.frzC]
   |b::us,hu,hud=>
    obtain⟨t,g,p3,s3,ht,hp3,hc3⟩:=qhb bs hl p2 s2 hp2;refine⟨⟨b.v,t⟩::us,.sub,(⟨b.v,t⟩::us).map (Bd.enc .sub),p3,s3,by simp at hu⊢;omega,fun c hc=> ?_,by simp,hp3,?_⟩
    ·rcases List.mem_cons.1 hc with h|h
     ·subst h;exact⟨ht.1,ht.2,(hud b (by simp)).v⟩
     ·exact hud c (by simp[h])
    ·have hs1:∀rs,rs.all (fun r=> !(DV.int .u8 0).like r)=true->qbC rs (qa9 bs p2 s2)=true:=fun rs h=>qfJ rs h bs p2 s2
     obtain⟨bv,bf,bw,bk⟩:=b;obtain⟨f,v,ks⟩:=t;have hre:=fun rs=>qcX rs bk
     match us,hu with
     | [],_=>
      simp only[List.map_cons,List.map_nil,Bd.enc,qai,T.qbv,T.qcS,T.qaH]at hc1⊢
      simp[qyQ,qkU,qkT,qkS,qkR,qkQ,qkP,qkO,qkN,qkM,hc1,hc2,hc3,hs1,DV.like,hre,qcv,qbp,splice,qaa,qac,qaf,qar,qab,qct,AV.frz,AV.frzC,qd6,chunks,cut,qba,qb2]
     | [c],_=>
      obtain⟨cv,cf,cw,ck⟩:=c;have hre2:=fun rs=>qcX rs ck
      simp only[List.map_cons,List.map_nil,Bd.enc,qai,T.qbv,T.qcS,T.qaH]at hc1⊢
      simp[qyQ,qkU,qkT,qkS,qkR,qkQ,qkP,qkO,qkN,qkM,hc1,hc2,hc3,hs1,DV.like,hre,hre2,qcv,qbp,splice,qaa,qac,qaf,qar,qab,qct,AV.frz,AV.frzC,qd6,chunks,cut,qba,qb2]
     | [c,d],_=>
      obtain⟨cv,cf,cw,ck⟩:=c;obtain⟨dv,df,dw,dk⟩:=d;have hre2:=fun rs=>qcX rs ck
      have hre3:=fun rs=>qcX rs dk
      simp only[List.map_cons,List.map_nil,Bd.enc,qai,T.qbv,T.qcS,T.qaH]at hc1⊢
      simp[qyQ,qkU,qkT,qkS,qkR,qkQ,qkP,qkO,qkN,qkM,hc1,hc2,hc3,hs1,DV.like,hre,hre2,hre3,qcv,qbp,splice,qaa,qac,qaf,qar,qab,qct,AV.frz,AV.frzC,qd6,chunks,cut,qba,qb2]
  ·refine⟨u,.sub,u.map (Bd.enc .sub),p2,s2,by omega,hud,by simp,hp2,?_⟩
   have e0:(r==0)=false:=by simpa using c0
   have e1:(r==1)=false:=by simpa using c1
   have hcl:(u.map (Bd.enc U)).map DV.clr=u.map (Bd.enc .sub):=by simp
   generalize u.map (Bd.enc U)=lu at*
   generalize u.map (Bd.enc .sub)=ls at*
   simp[qyQ,qkU,qkT,qkS,qkR,qkQ,qkP,qkO,qkN,qkM,hc1,hc2,e0,e1,hcl,qab,qct,AV.frz,AV.frzC]
end Go.Proofs.Ytfiakfiocdfpbaa.VS
namespace Go.Proofs.Ytfiakfiocdfpbaa.VS
theorem qqL(bs:List Int)(hl:bs.length<=1099511627776):∃(u:List Bd) (g:Tag) (ds:List DV) (t:T),(u.length<=4/\(∀b,b∈u->BdD b)/\ds.map DV.clr=u.map (Bd.enc .sub))/\(t.inner<=14/\t.rng)/\
 qad XV 134 [.d (.sl .sub (bs.map (.int .u8)))] []=some (.d (.tup [.sl U (qdk.map SymL.enc),.sl g ds,t.enc .sub]),[]):=by
 obtain⟨st,h1⟩:=qui bs hl [c00];obtain⟨u,g,ds,p1,s1,hu,hud,hds,hp1,hc1⟩:=qAV bs hl 0 st ⟨Int.le_refl _,by omega⟩;obtain⟨t,g2,p2,s2,ht,hp2,hc2⟩:=qhb bs hl p1 s1 hp1;refine⟨u,g,ds,t,⟨hu,hud,hds⟩,ht,?_⟩;obtain⟨f,v,ks⟩:=t;have hs:=qjO;generalize hsq:qdk.map SymL.enc=sq at hs⊢
 have hqc:sq.map DV.clr=sq:=by rw[<-hsq];exact qfA _
 simp[c00]at h1;rw[qap XV _ _ _ qKh rfl qyr rfl];simp[qKh,qGs,qGr,qGq,qGp,h1,hc1,hc2,hs,hqc,qcv,qbp,splice,qaa,qac,qaf,qar,qae]
end Go.Proofs.Ytfiakfiocdfpbaa.VS
namespace Go.Proofs.Ytfiakfiocdfpbaa.VS
mutual
def T.nf(s:List SymL):T->Prop
 | .node f v ks=>T.nfs s ks/\(qbb s f=true->(∀k,k∈ks->k.f≠f)/\Srt ks)
def T.nfs(s:List SymL):List T->Prop
 | []=>True
 |t::r=>t.nf s/\T.nfs s r
end
theorem qBv(s:List SymL)(f:Int)(l:List T)(t:T):t∈flatK s f l↔∃k,k∈l/\t∈qmb s f k:=by unfold flatK;simp
theorem quy(s:List SymL)(f:Int):∀l:List T,(∀k,k∈l->k.f≠f)->flatK s f l=l
 | [],_=>rfl
 |k::l,h=>by
  rw[qdK,quy s f l (fun x hx=>h x (by simp[hx]))];have hk:(k.f==f)=false:=by simpa using h k (by simp)
  simp[qmb,hk]
mutual
theorem qAF(s:List SymL):∀t:T,t.nf s->t.norm s=t
 | .node f v ks,h=>by
  simp only[T.nf]at h;simp only[T.norm,qqh s ks h.1]
  by_cases hb:qbb s f=true
  ·obtain⟨h1,h2⟩:=h.2 hb
   simp only[hb,if_true];rw[quy s f ks h1,<-quj (List.Perm.refl ks) h2]
  ·simp only[hb,Bool.false_eq_true,if_false]
   rw[qhl s f hb]
theorem qqh(s:List SymL):∀l:List T,T.nfs s l->T.norms s l=l
 | [],_=>by simp[T.norms]
 |t::r,h=>by simp only[T.norms];rw[qAF s t h.1,qqh s r h.2]
end
theorem qmE:∀l:List T,(∀i,0<i->i<l.length->¬T.cmp (tAt l i) (tAt l (i-1))<0)->Srt l
 | [],_=>List.Pairwise.nil
 | [a],_=>List.pairwise_singleton _ _
 |a::b::r,h=>by
  have ih:=qmE (b::r) (fun i h0 hi=>by
   have:=h (i+1) (by omega) (by simpa using hi);have e:∀j,tAt (a::b::r) (j+1)=tAt (b::r) j:=fun j=>by simp[tAt]
   rw[e i,show i+1-1=(i-1)+1 by omega,e (i-1)]at this;exact this)
  have h0:=h 1 (by omega) (by simp);simp only[tAt,List.getElem?_cons_succ,List.getElem?_cons_zero,Option.getD_some,Nat.sub_self]at h0;have hab:tle a b:=qcq h0;refine List.pairwise_cons.2 ⟨fun y hy=> ?_,ih⟩;rcases List.mem_cons.1 hy with rfl|hy
  ·exact hab
  ·exact qe3 hab ((List.pairwise_cons.1 ih).1 y hy)
theorem quT{l:List SymL}{f:Int}(h:qbb l f=true):(qaG l f.toNat).ac=true:=by
 unfold qbb at h;simp only[Bool.and_eq_true]at h;exact h.2
theorem qd7(q:Nat->Bool)(n:Nat)(h:(qao q n 0).isNone=true):∀i,i<n->q i=false:=fun i hi=>by
 have:=(qgp q n 0).2 (by simpa using h) i (by omega) (by omega);exact this
mutual
theorem qBr(l:List SymL):∀t:T,T.form l t=true->t.nf l
 | .node f v ks,h=>by
  simp only[T.form]at h;simp only[T.nf]
  by_cases hf:f= -1
  ·rw[if_pos hf]at h
   have hk:ks=[]:=by
    simp only[Bool.and_eq_true,decide_eq_true_eq]at h;exact List.eq_nil_of_length_eq_zero h.2
   subst hk;exact⟨trivial,fun _=>⟨fun k hk=>by simp at hk,List.Pairwise.nil⟩⟩
  ·rw[if_neg hf]at h
   split at h
   ·simp at h
   ·have hq:=qd7 _ _ h
    have hat:∀i,i<ks.length->T.form l (tAt ks i)=true/\qdm l f ks i=false:=fun i hi=>by
     have:=hq i hi;rw[T.qjZ l ks i hi]at this;simpa using this
    refine⟨qur l ks (fun i hi=>(hat i hi).1),fun hb=>⟨fun k hk=> ?_,qmE ks fun i h0 hi=> ?_⟩⟩
    ·obtain⟨i,hi,rfl⟩:=List.getElem_of_mem hk
     have h2:=(hat i hi).2;rw[qaF hi];unfold qdm at h2;rw[if_pos (quT hb)]at h2;intro he;rw[if_pos he]at h2;simp at h2
    ·have h2:=(hat i hi).2
     unfold qdm at h2;rw[if_pos (quT hb)]at h2;split at h2
     ·simp at h2
     ·rw[if_neg (by omega)]at h2
      simpa using h2
theorem qur(l:List SymL):∀ks:List T,(∀i,i<ks.length->T.form l (tAt ks i)=true)->T.nfs l ks
 | [],_=>trivial
 |t::r,h=>⟨qBr l t (by have:=h 0 (by simp);simpa[tAt]using this),qur l r fun i hi=>by have:=h (i+1) (by simpa using hi);simpa[tAt]using this⟩
end
theorem qj9(l:List SymL)(t:T)(h:qaT l t=true):t.norm l=t:=by
 unfold qaT at h;simp only[Bool.and_eq_true]at h;exact qAF l t (qBr l t h.2.2)
end Go.Proofs.Ytfiakfiocdfpbaa.VS
namespace Go.Proofs.Ytfiakfiocdfpbaa.VS
mutual
def T.nodes:T->List T
 | .node f v ks=> .node f v ks::T.nodess ks
def T.nodess:List T->List T
 | []=>[]
 |t::r=>t.nodes++T.nodess r
end
mutual
theorem qm3{σ:Type}(e:T->σ->σ):∀(t:T) (s:σ),T.fold e t s=t.nodes.foldl (fun s x=>e x s) s
 | .node f v ks,s=>by simp only[T.fold,T.nodes,List.foldl_cons];exact qlC e ks _
theorem qlC{σ:Type}(e:T->σ->σ):∀(l:List T) (s:σ),T.folds e l s=(T.nodess l).foldl (fun s x=>e x s) s
 | [],s=>by simp[T.folds,T.nodess]
 |t::r,s=>by simp only[T.folds,T.nodess,List.foldl_append];rw[qm3 e t s];exact qlC e r _
end
mutual
theorem qdj(w:T->Int):∀t:T,T.sum w t=(t.nodes.map w).sum
 | .node f v ks=>by simp only[T.sum,T.nodes,List.map_cons,List.sum_cons,qmC w ks]
theorem qmC(w:T->Int):∀l:List T,T.sums w l=((T.nodess l).map w).sum
 | []=>by simp[T.sums,T.nodess]
 |t::r=>by simp only[T.sums,T.nodess,List.map_append,List.sum_append,qdj w t,qmC w r]
end
theorem qsb(l:List Int)(n x:Int):x∈qaQ l n↔x=n\/x∈l:=by
 unfold qaQ;split
 ·rename_i h
  rw[List.contains_iff_mem]at h;constructor
  ·exact fun hx=> .inr hx
  ·rintro(rfl|hx)
   ·exact h
   ·exact hx
 ·have e:l=l.take (qlm l n)++l.drop (qlm l n):=(List.take_append_drop _ _).symm
  constructor
  ·intro hx
   simp only[List.mem_append,List.mem_cons]at hx;rcases hx with hx|hx|hx
   ·exact .inr (List.mem_of_mem_take hx)
   ·exact .inl hx
   ·exact .inr (List.mem_of_mem_drop hx)
  ·intro hx
   simp only[List.mem_append,List.mem_cons];rcases hx with hx|hx
   ·exact .inr (.inl hx)
   ·rw[e]at hx
    rcases List.mem_append.1 hx with h|h
    ·exact .inl h
    ·exact .inr (.inr h)
theorem qqz:∀(l:List T) (s:List Int) (n:Int),n∈l.foldl (fun s x=>eV x s) s↔n∈s\/∃x,x∈l/\x.f= -1/\x.v=n
 | [],s,n=>by simp
 |x::l,s,n=>by
  rw[List.foldl_cons,qqz l];unfold eV
  by_cases h:x.f= -1
  ·rw[if_pos h,qsb]
   constructor
   ·rintro((rfl|h1)|⟨y,h1,h2⟩)
    ·exact .inr ⟨x,by simp,h,rfl⟩
    ·exact .inl h1
    ·exact .inr ⟨y,by simp[h1],h2⟩
   ·rintro(h1|⟨y,h1,h2,h3⟩)
    ·exact .inl (.inr h1)
    ·rcases List.mem_cons.1 h1 with rfl|h1
     ·exact .inl (.inl h3.symm)
     ·exact .inr ⟨y,h1,h2,h3⟩
  ·rw[if_neg h]
   constructor
   ·rintro(h1|⟨y,h1,h2⟩)
    ·exact .inl h1
    ·exact .inr ⟨y,by simp[h1],h2⟩
   ·rintro(h1|⟨y,h1,h2,h3⟩)
    ·exact .inl h1
    ·rcases List.mem_cons.1 h1 with rfl|h1
     ·exact absurd h2 h
     ·exact .inr ⟨y,h1,h2,h3⟩
theorem qo9(t:T)(n:Int):n∈qc8 t↔∃x,x∈t.nodes/\x.f= -1/\x.v=n:=by unfold qc8;rw[qm3,qqz];simp
theorem qph{l:List T}{w w':T->Int}(h:∀x,x∈l->w x<=w' x):(l.map w).sum<=(l.map w').sum:=by
 induction l with
 |nil=>simp
 |cons x l ih=>
  simp only[List.map_cons,List.sum_cons];have:=h x (by simp);have:=ih fun y hy=>h y (by simp[hy])
  omega
theorem qQa(n:Int)(x:T):0<=wC n x:=by unfold wC;split<;>omega
theorem qnE{α:Type}:∀l:List α,(l.map fun _=>(0:Int)).sum=0
 | []=>rfl
 |a::l=>by simp only[List.map_cons,List.sum_cons,qnE l];omega
theorem qLe{l:List T}{w:T->Int}(h:∀x,x∈l->0<=w x):0<=(l.map w).sum:=by
 have:=qph (l:=l) (w:=fun _=>0) (w':=w) h;have e:=qnE l;omega
theorem qB8(t:T)(l:List Int)(hl:l.Pairwise (·<·)):(l.map fun n=>T.sum (wC n) t).sum<=T.sum (fun _=>1) t:=by
 have e:∀l:List Int,(l.map fun n=>T.sum (wC n) t).sum=(t.nodes.map fun x=>(l.map fun n=>wC n x).sum).sum:=by
  intro l
  induction l with
  |nil=>simp only[List.map_nil,List.sum_nil];exact(qnE _).symm
  |cons n l ih=>
   have h:∀N:List T,(N.map (wC n)).sum+(N.map fun x=>(l.map fun n=>wC n x).sum).sum=(N.map fun x=>wC n x+(l.map fun n=>wC n x).sum).sum:=by
    intro N
    induction N with
    |nil=>rfl
    |cons a N ih=>simp only[List.map_cons,List.sum_cons];omega
   simp only[List.map_cons,List.sum_cons,ih];rw[<-h,qdj]
 rw[e,qdj];refine qph fun x _=> ?_
 have hz:∀l:List Int,x.v∉l->(l.map fun n=>wC n x).sum=0:=by
  intro l
  induction l with
  |nil=>intro _;rfl
  |cons n l ih=>
   intro hx;simp only[List.mem_cons,not_or]at hx;simp only[List.map_cons,List.sum_cons,ih hx.2];unfold wC;rw[if_neg (fun h=>hx.1 h.2)];omega
 induction l with
 |nil=>simp
 |cons n l ih=>
  rw[List.pairwise_cons]at hl;simp only[List.map_cons,List.sum_cons]
  by_cases hv:x.v=n
  ·have hn:x.v∉l:=fun hm=>by have:=hl.1 _ hm;omega
   rw[hz l hn];unfold wC;split<;>omega
  ·have:=ih hl.2
   have e0:wC n x=0:=by unfold wC;rw[if_neg (fun h=>hv h.2)]
   omega
end Go.Proofs.Ytfiakfiocdfpbaa.VS
namespace Go.Proofs.Ytfiakfiocdfpbaa.VS
def qdV(t:T)(n:Int):Int:=IntKind.i64.wrap (T.sum (wC n) t)
def qcN(l:List SymL)(t:T):Int:=IntKind.i64.wrap (T.sum (wW l) t)
def qdo(a b:T)(vs:List Int)(i:Nat):Bool:=decide (qdV a (iAt vs i)<qdV b (iAt vs i))
def qwA(l:List SymL)(a b:T):Bool:=decide (qcN l a>qcN l b)||(decide (qcN l a=qcN l b)&&((qc8 a).length==0)&&((qc8 b).length==0)&&decide (T.cmp b a<0))
def qc1(l:List SymL)(a b:T):Bool:=qaT l a&&qaT l b&&(qao (qdo a b (qc8 b)) (qc8 b).length 0).isNone&&qwA l a b
theorem qEU(l:List SymL)(hs:l.length<=1099511627776)(f v:Int)(ks:List T)(f' v':Int)(ks':List T)(ha:(T.node f v ks).inner<=1099511627776)(hb:(T.node f' v' ks').inner<=1099511627776):
 qax XV (XV.lin 178) (.region false 0 [6] qfc) ⟨[(4,.ptr 0 0),(5,.ptr 1 0),(9,.d (.int .i64 (qcN l (.node f v ks)))),(10,.d (.int .i64 (qcN l (.node f' v' ks'))))],qam f v ks++qam f' v' ks'⟩=
  some (.normal,⟨[(6,.d (.bool (qwA l (.node f v ks) (.node f' v' ks'))))],qam f v ks++qam f' v' ks'⟩):=by
 have g1:=qhg (.node f v ks) ha;have g2:=qhg (.node f' v' ks') hb;have b1:=qhh (.node f' v' ks') (.node f v ks) hb ha;unfold qwA qam;generalize hx:qcN l (.node f v ks)=x;generalize hy:qcN l (.node f' v' ks')=y;generalize qc8 (.node f v ks)=va at g1⊢
 generalize qc8 (.node f' v' ks')=vb at g2⊢
 generalize decide (T.cmp (.node f' v' ks') (.node f v ks)<0)=cb at b1⊢
 generalize (va.length==0)=ga at g1⊢
 generalize (vb.length==0)=gb at g2⊢
 by_cases h1:x>y
 ·simp[qfc,h1]
 ·by_cases h2:x=y
  ·subst h2
   cases ga<;>cases gb<;>simp[qfc,g1,g2,b1]
  ·have h3:(x==y)=false:=by simp[h2]
   simp[qfc,h1,h2,h3]
theorem qEb(l:List SymL)(hs:l.length<=1099511627776)(f v:Int)(ks:List T)(f' v':Int)(ks':List T)(ha:(T.node f v ks).inner<=1099511627776)(hb:(T.node f' v' ks').inner<=1099511627776):
 qax XV (XV.lin 179) (.region false 0 [6] qfb) ⟨[(4,.ptr 0 0),(5,.ptr 1 0),(9,.d (.int .i64 (qcN l (.node f v ks)))),(10,.d (.int .i64 (qcN l (.node f' v' ks'))))],qam f v ks++qam f' v' ks'⟩=
  some (.normal,⟨[(6,.d (.bool (qwA l (.node f v ks) (.node f' v' ks'))))],qam f v ks++qam f' v' ks'⟩):=by
 have g1:=qgA (.node f v ks) ha;have g2:=qgA (.node f' v' ks') hb;have b1:=qdy (.node f' v' ks') (.node f v ks) hb ha;unfold qwA qam;generalize hx:qcN l (.node f v ks)=x;generalize hy:qcN l (.node f' v' ks')=y;generalize qc8 (.node f v ks)=va at g1⊢
 generalize qc8 (.node f' v' ks')=vb at g2⊢
 generalize decide (T.cmp (.node f' v' ks') (.node f v ks)<0)=cb at b1⊢
 generalize (va.length==0)=ga at g1⊢
 generalize (vb.length==0)=gb at g2⊢
 by_cases h1:x>y
 ·simp[qfb,h1]
 ·by_cases h2:x=y
  ·subst h2
   cases ga<;>cases gb<;>simp[qfb,g1,g2,b1]
  ·have h3:(x==y)=false:=by simp[h2]
   simp[qfb,h1,h2,h3]
theorem qET(l:List SymL)(f v:Int)(ks:List T)(f' v':Int)(ks':List T)(ha:(T.node f v ks).inner<=1099511627776)(hb:(T.node f' v' ks').inner<=1099511627776)(vs:List Int)(hl:vs.length<=2199023255552):
 qbm XV (XV.lin 178) 2 [0,4,5,22,23,24] qng ⟨[(0,.d (sg l)),(4,.ptr 0 0),(5,.ptr 1 0),(22,.d (is vs)),(23,.d (.int .i64 vs.length)),(24,.d (.int .i64 0))],qam f v ks++qam f' v' ks'⟩=
  some (match qao (qdo (.node f v ks) (.node f' v' ks') vs) vs.length 0 with
   |some _=>(.ret,⟨[(6,.d (.bool false))],qam f v ks++qam f' v' ks'⟩)
   |none=>(.exit 0,⟨[(0,.d (sg l)),(4,.ptr 0 0),(5,.ptr 1 0),(22,.d (is vs)),(23,.d (.int .i64 vs.length)),(24,.d (.int .i64 vs.length)),(25,.d (.bool false))],qam f v ks++qam f' v' ks'⟩)):=by
 have h:=qau (X:=XV) (T:=XV.lin 178) (L:=2) (live:=[0,4,5,22,23,24]) (b:=qng) (n:=vs.length) (st:=fun(_:Unit) i=>⟨[(0,.d (sg l)),(4,.ptr 0 0),(5,.ptr 1 0),(22,.d (is vs)),(23,.d (.int .i64 vs.length)),(24,.d (.int .i64 i))],qam f v ks++qam f' v' ks'⟩) (step:=qbT (qdo (.node f v ks) (.node f' v' ks') vs))
  (F:=fun _=>(.exit 0,⟨[(0,.d (sg l)),(4,.ptr 0 0),(5,.ptr 1 0),(22,.d (is vs)),(23,.d (.int .i64 vs.length)),(24,.d (.int .i64 vs.length)),(25,.d (.bool false))],qam f v ks++qam f' v' ks'⟩)) (R:=fun(_:Nat)=>(.ret,⟨[(6,.d (.bool false))],qam f v ks++qam f' v' ks'⟩))
  (fun a=>⟨by simp,by simp[qam,qng,qiJ,qiI,qiH,qmM,qtu,qtt,qB2,qts,qtr,quH,qfc]⟩)
  (fun a i hi=>by
   have hw:=qan (n:=i) (by omega);have c1:=qfm (.node f v ks) ha (iAt vs i);have c2:=qfm (.node f' v' ks') hb (iAt vs i);unfold qbT
   by_cases hq:qdo (.node f v ks) (.node f' v' ks') vs i=true
   ·rw[if_pos hq]
    have hq2:qdV (.node f v ks) (iAt vs i)<qdV (.node f' v' ks') (iAt vs i):=by simpa[qdo]using hq
    unfold qdV at hq2;exact⟨by simp,by simp[qam,qng,qiJ,qiI,qiH,qmM,qtu,qtt,qB2,qts,qtr,quH,qfc,hi,hw,cut,qc0 hi,c1,c2,hq2]⟩
   ·rw[if_neg hq]
    have hq2:¬qdV (.node f v ks) (iAt vs i)<qdV (.node f' v' ks') (iAt vs i):=by simpa[qdo]using hq
    unfold qdV at hq2;exact⟨_,by simp[qam,qng,qiJ,qiI,qiH,qmM,qtu,qtt,qB2,qts,qtr,quH,qfc,hi,hw,cut,qc0 hi,c1,c2,hq2];rfl,by simp[qah,qab,qam]⟩)
  vs.length () 0 ⟨[(0,.d (sg l)),(4,.ptr 0 0),(5,.ptr 1 0),(22,.d (is vs)),(23,.d (.int .i64 vs.length)),(24,.d (.int .i64 0))],qam f v ks++qam f' v' ks'⟩ (by omega) (by simp[qah,qab,qam])
 rw[qpt]at h;rw[h];cases qao (qdo (.node f v ks) (.node f' v' ks') vs) vs.length 0<;>rfl
theorem qf9(l:List SymL)(hs:l.length<=1099511627776)(hn:∀i,i<l.length->(qaG l i).name.size<=1099511627776)(a b:T)(ha:a.inner<=1099511627776)(hb:b.inner<=1099511627776):qad XV 178 [.d (sg l),.d (a.enc .sub),.d (b.enc .sub)] []=some (.d (.bool (qc1 l a b)),[]):=by
 obtain⟨f,v,ks⟩:=a;obtain⟨f',v',ks'⟩:=b;rw[qap XV _ _ _ qDT rfl qxZ rfl];have o1:=qcZ l hs hn (.node f v ks) ha;have o2:=qcZ l hs hn (.node f' v' ks') hb;have va:=qhf (.node f' v' ks') hb;have w1:=qeN l hs (.node f v ks) ha;have w2:=qeN l hs (.node f' v' ks') hb;have hloop:=qET l f v ks f' v' ks' ha hb (qc8 (.node f' v' ks')) (by have:=qpa (.node f' v' ks') hb;omega);have hlast:=qEU l hs f v ks f' v' ks' ha hb;unfold qc1;unfold qcN at hlast
 by_cases h1:qaT l (.node f v ks)=true
 ·rw[h1]at o1⊢
  by_cases h2:qaT l (.node f' v' ks')=true
  ·rw[h2]at o2⊢
   simp only[qIX,qam,List.cons_append,List.nil_append]at hloop hlast;simp only[qnw,List.replicate_zero,List.append_nil,List.length_cons,List.length_nil,Nat.zero_add,Nat.reduceAdd]at hlast;cases hq:qao (qdo (.node f v ks) (.node f' v' ks') (qc8 (.node f' v' ks'))) (qc8 (.node f' v' ks')).length 0 with
   |none=>
    rw[hq]at hloop;simp[qDT,qiJ,qiI,qiH,qmM,o1,o2,va];rw[hloop];simp[quH,w1,w2];rw[hlast];simp
   |some j=>
    rw[hq]at hloop;simp[qDT,qiJ,qiI,qiH,qmM,o1,o2,va];rw[hloop];simp
  ·have h2':qaT l (.node f' v' ks')=false:=by simpa using h2
   rw[h2']at o2⊢
   simp[qDT,qiJ,qiI,qiH,o1,o2]
 ·have h1':qaT l (.node f v ks)=false:=by simpa using h1
  rw[h1']at o1⊢
  simp[qDT,qiJ,qiI,qiH,o1]
theorem qEa(l:List SymL)(f v:Int)(ks:List T)(f' v':Int)(ks':List T)(ha:(T.node f v ks).inner<=1099511627776)(hb:(T.node f' v' ks').inner<=1099511627776)(vs:List Int)(hl:vs.length<=2199023255552):
 qbm XV (XV.lin 179) 2 [0,4,5,7,8] qnf ⟨[(0,.d (sg l)),(4,.ptr 0 0),(5,.ptr 1 0),(7,.d (is vs)),(8,.d (.int .i64 0))],qam f v ks++qam f' v' ks'⟩=
  some (match qao (qdo (.node f v ks) (.node f' v' ks') vs) vs.length 0 with
   |some _=>(.ret,⟨[(6,.d (.bool false))],qam f v ks++qam f' v' ks'⟩)
   |none=>(.exit 0,⟨[(0,.d (sg l)),(4,.ptr 0 0),(5,.ptr 1 0),(7,.d (is vs)),(8,.d (.int .i64 vs.length)),(26,.d (.bool false))],qam f v ks++qam f' v' ks'⟩)):=by
 have h:=qau (X:=XV) (T:=XV.lin 179) (L:=2) (live:=[0,4,5,7,8]) (b:=qnf) (n:=vs.length) (st:=fun(_:Unit) i=>⟨[(0,.d (sg l)),(4,.ptr 0 0),(5,.ptr 1 0),(7,.d (is vs)),(8,.d (.int .i64 i))],qam f v ks++qam f' v' ks'⟩) (step:=qbT (qdo (.node f v ks) (.node f' v' ks') vs))
  (F:=fun _=>(.exit 0,⟨[(0,.d (sg l)),(4,.ptr 0 0),(5,.ptr 1 0),(7,.d (is vs)),(8,.d (.int .i64 vs.length)),(26,.d (.bool false))],qam f v ks++qam f' v' ks'⟩)) (R:=fun(_:Nat)=>(.ret,⟨[(6,.d (.bool false))],qam f v ks++qam f' v' ks'⟩))
  (fun a=>⟨by simp,by simp[qam,qnf,qiG,qiF,qiE,qmL,qmK,qtq,qB1,qto,qtp,quG,qfb]⟩)
  (fun a i hi=>by
   have hw:=qan (n:=i) (by omega);have c1:=qe6 (.node f v ks) ha (iAt vs i);have c2:=qe6 (.node f' v' ks') hb (iAt vs i);unfold qbT
   by_cases hq:qdo (.node f v ks) (.node f' v' ks') vs i=true
   ·rw[if_pos hq]
    have hq2:qdV (.node f v ks) (iAt vs i)<qdV (.node f' v' ks') (iAt vs i):=by simpa[qdo]using hq
    unfold qdV at hq2;exact⟨by simp,by simp[qam,qnf,qiG,qiF,qiE,qmL,qmK,qtq,qB1,qto,qtp,quG,qfb,hi,hw,cut,qc0 hi,c1,c2,hq2]⟩
   ·rw[if_neg hq]
    have hq2:¬qdV (.node f v ks) (iAt vs i)<qdV (.node f' v' ks') (iAt vs i):=by simpa[qdo]using hq
    unfold qdV at hq2;exact⟨_,by simp[qam,qnf,qiG,qiF,qiE,qmL,qmK,qtq,qB1,qto,qtp,quG,qfb,hi,hw,cut,qc0 hi,c1,c2,hq2];rfl,by simp[qah,qab,qam]⟩)
  vs.length () 0 ⟨[(0,.d (sg l)),(4,.ptr 0 0),(5,.ptr 1 0),(7,.d (is vs)),(8,.d (.int .i64 0))],qam f v ks++qam f' v' ks'⟩ (by omega) (by simp[qah,qab,qam])
 rw[qpt]at h;rw[h];cases qao (qdo (.node f v ks) (.node f' v' ks') vs) vs.length 0<;>rfl
theorem qml(l:List SymL)(hs:l.length<=1099511627776)(hn:∀i,i<l.length->(qaG l i).name.size<=1099511627776)(a b:T)(ha:a.inner<=1099511627776)(hb:b.inner<=1099511627776):qad XV 179 [.d (sg l),.d (a.enc .sub),.d (b.enc .sub)] []=some (.d (.bool (qc1 l a b)),[]):=by
 obtain⟨f,v,ks⟩:=a;obtain⟨f',v',ks'⟩:=b;rw[qap XV _ _ _ qDS rfl qxY rfl];have o1:=qgz l hs hn (.node f v ks) ha;have o2:=qgz l hs hn (.node f' v' ks') hb;have va:=qgy (.node f' v' ks') hb;have w1:=qeB l hs (.node f v ks) ha;have w2:=qeB l hs (.node f' v' ks') hb;have hloop:=qEa l f v ks f' v' ks' ha hb (qc8 (.node f' v' ks')) (by have:=qpa (.node f' v' ks') hb;omega);have hlast:=qEb l hs f v ks f' v' ks' ha hb;unfold qc1;unfold qcN at hlast
 by_cases h1:qaT l (.node f v ks)=true
 ·rw[h1]at o1⊢
  by_cases h2:qaT l (.node f' v' ks')=true
  ·rw[h2]at o2⊢
   simp only[qIW,qam,List.cons_append,List.nil_append]at hloop hlast;simp only[qnw,List.replicate_zero,List.append_nil,List.length_cons,List.length_nil,Nat.zero_add,Nat.reduceAdd]at hlast;cases hq:qao (qdo (.node f v ks) (.node f' v' ks') (qc8 (.node f' v' ks'))) (qc8 (.node f' v' ks')).length 0 with
   |none=>
    rw[hq]at hloop;simp[qDS,qiG,qiF,qiE,qmL,qmK,o1,o2,va];rw[hloop];simp[quG,w1,w2];rw[hlast];simp
   |some j=>
    rw[hq]at hloop;simp[qDS,qiG,qiF,qiE,qmL,qmK,o1,o2,va];rw[hloop];simp
  ·have h2':qaT l (.node f' v' ks')=false:=by simpa using h2
   rw[h2']at o2⊢
   simp[qDS,qiG,qiF,qiE,o1,o2]
 ·have h1':qaT l (.node f v ks)=false:=by simpa using h1
  rw[h1']at o1⊢
  simp[qDS,qiG,qiF,qiE,o1]
end Go.Proofs.Ytfiakfiocdfpbaa.VS
namespace Go.Proofs.Ytfiakfiocdfpbaa.VS
theorem qnD(w:T->Int):∀a b:List T,T.sums w (a++b)=T.sums w a+T.sums w b
 | [],b=>by simp[T.sums]
 |t::a,b=>by simp only[List.cons_append,T.sums,qnD w a b];omega
theorem qpf(w:T->Int){a b:List T}(h:a.Perm b):T.sums w a=T.sums w b:=by
 induction h with
 |nil=>rfl
 |cons x _ ih=>simp only[T.sums,ih]
 |swap x y l=>simp only[T.sums];omega
 |trans _ _ h1 h2=>rw[h1,h2]
theorem qjV{l:List SymL}{f:Int}(h:qbb l f=true):f≠-1:=by
 unfold qbb at h;simp only[Bool.and_eq_true]at h;have:=(qeA h.1).1;omega
theorem qLb(l:List SymL)(n f:Int)(k:T):T.sums (wC n) (qmb l f k)=T.sum (wC n) k:=by
 unfold qmb;split
 ·rename_i h
  simp only[Bool.and_eq_true,beq_iff_eq]at h;obtain⟨f',v',ks'⟩:=k;simp only[T.qbv]at h;have:=qjV h.1;simp only[T.qaH,T.sum];unfold wC;rw[if_neg (fun hh=>this (by rw[<-h.2];exact hh.1))];omega
 ·simp only[T.sums];omega
theorem qyM(l:List SymL)(n f:Int):∀ks:List T,T.sums (wC n) (flatK l f ks)=T.sums (wC n) ks
 | []=>rfl
 |k::r=>by rw[qdK,qnD,qLb,qyM l n f r];rfl
mutual
theorem qim(l:List SymL)(n:Int):∀t:T,T.sum (wC n) (t.norm l)=T.sum (wC n) t
 | .node f v ks=>by
  have h:=qlS l n ks;have h2:=qyM l n f (T.norms l ks);simp only[T.norm,T.sum];have e:∀ks':List T,wC n (.node f v ks')=wC n (.node f v ks):=fun _=>rfl
  split
  ·rw[qpf _ (qcb _),h2,h,e]
  ·rw[h2,h,e]
theorem qlS(l:List SymL)(n:Int):∀ks:List T,T.sums (wC n) (T.norms l ks)=T.sums (wC n) ks
 | []=>by simp[T.norms]
 |t::r=>by simp only[T.norms,T.sums,qim l n t,qlS l n r]
end
mutual
def T.full(l:List SymL):T->Prop
 | .node f v ks=>(qbb l f=true->ks≠[])/\T.fulls l ks
def T.fulls(l:List SymL):List T->Prop
 | []=>True
 |t::r=>t.full l/\T.fulls l r
end
theorem T.qfF(l:List SymL):∀ks:List T,T.fulls l ks↔∀t,t∈ks->t.full l
 | []=>by simp[T.fulls]
 |t::r=>by simp[T.fulls,T.qfF l r]
theorem qfL{l:List SymL}{f v:Int}{ks:List T}(h:qbb l f=true)(hp:0<ks.length):wW l (.node f v ks)=(ks.length:Int)-1:=by
 unfold wW;exact if_pos ⟨h,hp⟩
theorem qmz{l:List SymL}{f v:Int}{ks:List T}(h:¬qbb l f=true):wW l (.node f v ks)=1:=by
 unfold wW;exact if_neg (fun hh=>h hh.1)
theorem qLa(l:List SymL)(f:Int)(k:T)(hk:k.full l):T.sums (wW l) (qmb l f k)+(qmb l f k).length=T.sum (wW l) k+1/\qmb l f k≠[]:=by
 unfold qmb;split
 ·rename_i h
  simp only[Bool.and_eq_true,beq_iff_eq]at h;obtain⟨f',v',ks'⟩:=k;simp only[T.qbv]at h;obtain⟨h1,rfl⟩:=h;have hne:=hk.1 h1;have hpos:0<ks'.length:=List.length_pos_iff.2 hne;refine⟨?_,hne⟩;simp only[T.qaH,T.sum];rw[qfL h1 hpos];omega
 ·simp[T.sums]
theorem qyL(l:List SymL)(f:Int):∀ks:List T,T.fulls l ks->T.sums (wW l) (flatK l f ks)+(flatK l f ks).length=T.sums (wW l) ks+ks.length/\(ks≠[]->flatK l f ks≠[])
 | [],_=>by simp[flatK,T.sums]
 |k::r,h=>by
  obtain⟨h1,h2⟩:=qLa l f k h.1;have h3:=(qyL l f r h.2).1;rw[qdK];refine⟨?_,fun _ hh=>h2 (List.append_eq_nil_iff.1 hh).1⟩;rw[qnD,List.length_append];simp only[T.sums,List.length_cons];omega
theorem qwJ(l:List SymL)(f:Int)(ks:List T)(h:T.fulls l ks):T.fulls l (flatK l f ks):=by
 rw[T.qfF]at h⊢
 intro t ht;obtain⟨k,h1,h2⟩:=(qBv l f ks t).1 ht;have hk:=h k h1;unfold qmb at h2;split at h2
 ·obtain⟨f',v',ks'⟩:=k
  exact(T.qfF l ks').1 hk.2 t h2
 ·simp at h2;subst h2;exact hk
mutual
theorem qgj(l:List SymL):∀t:T,t.full l->T.sum (wW l) (t.norm l)=T.sum (wW l) t/\(t.norm l).full l
 | .node f v ks,h=>by
  obtain⟨h1,h2⟩:=qiy l ks h.2;obtain⟨h3,h4⟩:=qyL l f (T.norms l ks) h2;have hlen:(T.norms l ks).length=ks.length:=by rw[T.norms_map];simp
  simp only[T.norm,T.sum,T.full]
  by_cases hb:qbb l f=true
  ·have hne:=h.1 hb
   have hpos:0<ks.length:=List.length_pos_iff.2 hne;have hN:T.norms l ks≠[]:=by intro hh;rw[hh]at hlen;simp at hlen;omega
   have hF:=h4 hN;have hFp:0<(flatK l f (T.norms l ks)).length:=List.length_pos_iff.2 hF;simp only[hb,if_true];refine⟨?_,fun _ hh=> ?_,?_⟩
   ·rw[qpf _ (qcb _)]
    have hl:=(qcb (flatK l f (T.norms l ks))).length_eq;rw[qfL hb (by omega),qfL hb hpos];omega
   ·have hl:=(qcb (flatK l f (T.norms l ks))).length_eq
    rw[hh]at hl;simp at hl;omega
   ·rw[T.qfF]
    have:=qwJ l f _ h2;rw[T.qfF]at this;exact fun t ht=>this t ((qcb _).mem_iff.1 ht)
  ·simp only[hb,Bool.false_eq_true,if_false]
   rw[qhl l f hb];refine⟨?_,fun hh=>absurd hh id,h2⟩;rw[h1];rw[qmz hb,qmz hb]
theorem qiy(l:List SymL):∀ks:List T,T.fulls l ks->T.sums (wW l) (T.norms l ks)=T.sums (wW l) ks/\T.fulls l (T.norms l ks)
 | [],_=>by simp[T.norms,T.fulls]
 |t::r,h=>by
  obtain⟨h1,h2⟩:=qgj l t h.1;obtain⟨h3,h4⟩:=qiy l r h.2;simp only[T.norms,T.sums,h1,h3,T.fulls];exact⟨trivial,h2,h4⟩
end
def qwL(u:List Bd)(w:T->Int)(x:T):Int:=if x.f= -1/\x.kids.length=0 then T.sum w (qf3 u x.v)else w x
theorem qlH{u:List Bd}{w:T->Int}{f v:Int}{ks:List T}(h:f= -1/\ks.length=0):qwL u w (.node f v ks)=T.sum w (qf3 u v):=by unfold qwL;exact if_pos h
theorem qlI{u:List Bd}{w:T->Int}{f v:Int}{ks:List T}(h:¬(f= -1/\ks.length=0)):qwL u w (.node f v ks)=w (.node f v ks):=by unfold qwL;exact if_neg h
mutual
theorem qnF(u:List Bd)(w:T->Int)(hw:∀f v ks ks',ks.length=ks'.length->w (.node f v ks)=w (.node f v ks')):∀t:T,T.sum w (qbO u t)=T.sum (qwL u w) t
 | .node f v ks=>by
  have h:=qpg u w hw ks;simp only[qbO,T.sum]
  by_cases hc:f= -1/\ks.length=0
  ·rw[if_pos hc,qlH hc]
   have:ks=[]:=List.eq_nil_of_length_eq_zero hc.2;subst this;simp[T.sums]
  ·rw[if_neg hc,qlI hc]
   simp only[T.sum];rw[h,hw f v (qbF u ks) ks (by rw[qdL];simp)]
theorem qpg(u:List Bd)(w:T->Int)(hw:∀f v ks ks',ks.length=ks'.length->w (.node f v ks)=w (.node f v ks')):∀l:List T,T.sums w (qbF u l)=T.sums (qwL u w) l
 | []=>by simp[qbF,T.sums]
 |t::r=>by simp only[qbF,T.sums,qnF u w hw t,qpg u w hw r]
end
theorem qK9(l:List SymL)(f v:Int)(ks ks':List T)(h:ks.length=ks'.length):wW l (.node f v ks)=wW l (.node f v ks'):=by
 by_cases hb:qbb l f=true
 ·by_cases hp:0<ks.length
  ·rw[qfL hb hp,qfL hb (by omega),h]
  ·have e1:ks=[]:=List.eq_nil_of_length_eq_zero (by omega)
   have e2:ks'=[]:=List.eq_nil_of_length_eq_zero (by omega);rw[e1,e2]
 ·rw[qmz hb,qmz hb]
mutual
theorem qlG(l:List SymL)(u:List Bd)(hu:∀n,(qf3 u n).full l):∀t:T,t.full l->(qbO u t).full l
 | .node f v ks,h=>by
  have h2:=qm4 l u hu ks h.2;simp only[qbO];split
  ·exact hu v
  ·refine⟨fun hb hh=>h.1 hb ?_,h2⟩
   rw[qdL,List.map_eq_nil_iff]at hh;exact hh
theorem qm4(l:List SymL)(u:List Bd)(hu:∀n,(qf3 u n).full l):∀ks:List T,T.fulls l ks->T.fulls l (qbF u ks)
 | [],_=>trivial
 |t::r,h=>⟨qlG l u hu t h.1,qm4 l u hu r h.2⟩
end
def qyP(l:List T):List Int:=(l.filter fun x=>decide (x.f= -1)).map T.v
theorem qs4(E:Int->Int):∀l:List T,(l.map fun x=>if x.f= -1 then E x.v else 0).sum=((qyP l).map E).sum
 | []=>rfl
 |x::l=>by
  simp only[List.map_cons,List.sum_cons,qs4 E l,qyP,List.filter_cons]
  by_cases h:x.f= -1
  ·simp[h]
  ·simp[h]
theorem qil(n:Int):∀l:List T,(l.map (wC n)).sum=((qyP l).count n:Int)
 | []=>rfl
 |x::l=>by
  simp only[List.map_cons,List.sum_cons,qil n l,qyP,List.filter_cons];unfold wC
  by_cases h:x.f= -1
  ·by_cases hv:x.v=n
   ·simp[h,hv,List.count_cons];omega
   ·have:¬(x.v==n)=true:=by simpa using hv
    simp[h,hv,List.count_cons]
  ·simp[h]
theorem qy0(E:Int->Int)(hE:∀n,0<=E n):∀l:List Int,0<=(l.map E).sum
 | []=>by simp
 |x::l=>by simp only[List.map_cons,List.sum_cons];have:=hE x;have:=qy0 E hE l;omega
theorem qrz(E:Int->Int)(hE:∀n,0<=E n):∀lb la:List Int,(∀n,lb.count n<=la.count n)->(lb.map E).sum<=(la.map E).sum
 | [],la,_=>by simpa using qy0 E hE la
 |x::lb,la,h=>by
  have hx:x∈la:=by
   have:=h x;rw[List.count_cons_self]at this;exact List.count_pos_iff.1 (by omega)
  obtain⟨p,q,rfl⟩:=List.append_of_mem hx;have ih:=qrz E hE lb (p++q) (fun n=>by
   have:=h n;rw[List.count_append,List.count_cons,List.count_cons]at this;rw[List.count_append];omega)
  simp only[List.map_cons,List.sum_cons,List.map_append,List.sum_append]at ih⊢
  omega
mutual
theorem qus(l:List SymL):∀t:T,T.form l t=true->t.full l/\∀x,x∈t.nodes->x.f= -1->x.kids=[]
 | .node f v ks,h=>by
  simp only[T.form]at h
  by_cases hf:f= -1
  ·rw[if_pos hf]at h
   have hk:ks=[]:=by
    simp only[Bool.and_eq_true,decide_eq_true_eq]at h;exact List.eq_nil_of_length_eq_zero h.2
   subst hk;refine⟨⟨fun hb=>absurd hf (qjV hb),trivial⟩,fun x hx _=> ?_⟩;simp only[T.nodes,T.nodess,List.mem_cons,List.not_mem_nil,or_false]at hx;subst hx;rfl
  ·rw[if_neg hf]at h
   split at h
   ·simp at h
   ·rename_i hh
    have hq:=qd7 _ _ h;have hat:∀i,i<ks.length->T.form l (tAt ks i)=true:=fun i hi=>by
     have:=hq i hi;rw[T.qjZ l ks i hi]at this;simp at this;exact this.1
    obtain⟨h1,h2⟩:=qqv l ks hat;refine⟨⟨fun hb hn=>hh ?_,h1⟩,fun x hx hxf=> ?_⟩
    ·subst hn
     have hb':=hb;unfold qbb at hb';simp only[Bool.and_eq_true]at hb';unfold qdT;rw[if_pos hb'.1];split
     ·rw[if_pos hb'.2];simp
     ·rfl
    ·simp only[T.nodes,List.mem_cons]at hx
     rcases hx with rfl|hx
     ·exact absurd hxf hf
     ·exact h2 x hx hxf
theorem qqv(l:List SymL):∀ks:List T,(∀i,i<ks.length->T.form l (tAt ks i)=true)->T.fulls l ks/\∀x,x∈T.nodess ks->x.f= -1->x.kids=[]
 | [],_=>⟨trivial,fun x hx=>by simp[T.nodess]at hx⟩
 |t::r,h=>by
  obtain⟨h1,h2⟩:=qus l t (by have:=h 0 (by simp);simpa[tAt]using this);obtain⟨h3,h4⟩:=qqv l r fun i hi=>by have:=h (i+1) (by simpa using hi);simpa[tAt]using this
  refine⟨⟨h1,h3⟩,fun x hx hxf=> ?_⟩;simp only[T.nodess,List.mem_append]at hx;rcases hx with hx|hx
  ·exact h2 x hx hxf
  ·exact h4 x hx hxf
end
end Go.Proofs.Ytfiakfiocdfpbaa.VS
namespace Go.Proofs.Ytfiakfiocdfpbaa.VS
theorem qwK(q:Nat->Bool)(n:Nat)(h:∀i,i<n->q i=false):(qao q n 0).isNone=true:=by
 cases hq:qao q n 0 with
 |none=>rfl
 |some j=>
  obtain⟨h1,h2,h3⟩:=qcE _ _ _ _ hq;rw[h j (by omega)]at h3;simp at h3
theorem qP8(l:List SymL)(x:T):0<=wW l x:=by unfold wW;split<;>omega
theorem qP9(l:List SymL)(x:T):wW l x<=(x.kids.length:Int)+1:=by unfold wW;split<;>omega
mutual
theorem qo8(l:List SymL):∀t:T,0<=T.sum (wW l) t/\T.sum (wW l) t<=2*(t.inner:Int)+1
 | .node f v ks=>by
  have h1:=qP8 l (.node f v ks);have h2:=qP9 l (.node f v ks);have h3:=qmw l ks;simp only[T.sum,T.inner,T.qaH]at*
  omega
theorem qmw(l:List SymL):∀ks:List T,0<=T.sums (wW l) ks/\T.sums (wW l) ks<=2*(T.inners ks:Int)+ks.length
 | []=>by simp[T.sums,T.inners]
 |t::r=>by
  have h1:=qo8 l t;have h2:=qmw l r;simp only[T.sums,T.inners,List.length_cons];omega
end
mutual
theorem qmx(l:List SymL):∀t:T,t.full l->1<=T.sum (wW l) t
 | .node f v ks,h=>by
  have h2:=qj7 l ks h.2;simp only[T.sum]
  by_cases hb:qbb l f=true
  ·have hp:0<ks.length:=List.length_pos_iff.2 (h.1 hb)
   rw[qfL hb hp];omega
  ·rw[qmz hb];omega
theorem qj7(l:List SymL):∀ks:List T,T.fulls l ks->(ks.length:Int)<=T.sums (wW l) ks
 | [],_=>by simp[T.sums]
 |t::r,h=>by
  have h1:=qmx l t h.1;have h2:=qj7 l r h.2;simp only[T.sums,List.length_cons];omega
end
mutual
theorem qgq(u:List Bd):∀t:T,(∀x,x∈t.nodes->x.f≠-1)->qbO u t=t
 | .node f v ks,h=>by
  have hf:f≠-1:=h (.node f v ks) (by simp[T.nodes]);simp only[qbO];rw[if_neg (fun hh=>hf hh.1),qjb u ks (fun x hx=>h x (by simp[T.nodes,hx]))]
theorem qjb(u:List Bd):∀ks:List T,(∀x,x∈T.nodess ks->x.f≠-1)->qbF u ks=ks
 | [],_=>rfl
 |t::r,h=>by
  simp only[qbF];rw[qgq u t (fun x hx=>h x (by simp[T.nodess,hx])),qjb u r (fun x hx=>h x (by simp[T.nodess,hx]))]
end
theorem qkb(g h:T->Int):∀l:List T,(l.map fun x=>g x+h x).sum=(l.map g).sum+(l.map h).sum
 | []=>rfl
 |x::l=>by simp only[List.map_cons,List.sum_cons,qkb g h l];omega
theorem qpi{g h:T->Int}{l:List T}(e:∀x,x∈l->g x=h x):(l.map g).sum=(l.map h).sum:=by
 rw[List.map_congr_left e]
def qLc(E:Int->Int)(x:T):Int:=if x.f= -1 then E x.v else 0
theorem qs5(E:Int->Int)(l:List T):(l.map (qLc E)).sum=((qyP l).map E).sum:=qs4 E l
theorem qsY{E:Int->Int}{f v:Int}{ks:List T}(h:f= -1):qLc E (.node f v ks)=E v:=by unfold qLc;exact if_pos h
theorem qsZ{E:Int->Int}{f v:Int}{ks:List T}(h:¬f= -1):qLc E (.node f v ks)=0:=by unfold qLc;exact if_neg h
theorem qlF(l:List SymL)(u:List Bd)(t:T)(ht:∀x,x∈t.nodes->x.f= -1->x.kids=[]):T.sum (wW l) (qbO u t)=T.sum (wW l) t+((qyP t.nodes).map fun n=>T.sum (wW l) (qf3 u n)-1).sum:=by
 rw[qnF u (wW l) (fun f v ks ks' h=>qK9 l f v ks ks' h),qdj,qdj,<-qs5,<-qkb];refine qpi fun x hx=> ?_
 have hk:=ht x hx;obtain⟨f,v,ks⟩:=x;simp only[T.qbv,T.qaH]at hk
 by_cases hf:f= -1
 ·have:=hk hf
  subst this;rw[qlH ⟨hf,rfl⟩,qsY hf,qmz (fun hb=>qjV hb hf)];omega
 ·rw[qlI (fun hh=>hf hh.1),qsZ hf];omega
theorem qm5(u:List Bd)(n:Int)(t:T)(ht:∀x,x∈t.nodes->x.f= -1->x.kids=[]):T.sum (wC n) (qbO u t)=((qyP t.nodes).map fun m=>T.sum (wC n) (qf3 u m)).sum:=by
 rw[qnF u (wC n) (fun f v ks ks' h=>rfl),qdj,<-qs5];refine qpi fun x hx=> ?_
 have hk:=ht x hx;obtain⟨f,v,ks⟩:=x;simp only[T.qbv,T.qaH]at hk
 by_cases hf:f= -1
 ·have:=hk hf
  subst this;rw[qlH ⟨hf,rfl⟩,qsY hf]
 ·rw[qlI (fun hh=>hf hh.1),qsZ hf]
  unfold wC;exact if_neg (fun hh=>hf hh.1)
theorem qvp{l:List SymL}{u:List Bd}(h:qmD l u=true):∀i,i<u.length->qaT l (bAt u i).t=true:=fun i hi=>by
 have h1:=qd7 _ _ h i hi;unfold qOq at h1;simp only[Bool.or_eq_false_iff]at h1;have h2:=h1.1;unfold qFr at h2;simp only[Bool.or_eq_false_iff]at h2;simpa using h2.2
theorem qdi{l:List SymL}{t:T}(h:qaT l t=true):t.inner<=59/\t.full l/\∀x,x∈t.nodes->x.f= -1->x.kids=[]:=by
 unfold qaT at h;simp only[Bool.and_eq_true,decide_eq_true_eq]at h;obtain⟨h1,h2⟩:=qus l t h.2.2;exact⟨by omega,h1,h2⟩
theorem qAI{l:List SymL}{u:List Bd}(h:∀i,i<u.length->qaT l (bAt u i).t=true)(n:Int):(qf3 u n).full l:=by
 unfold qf3;split
 ·rename_i i hi
  unfold qm2 at hi;exact(qdi (h i (by have:=(qcE _ _ _ _ hi).2.1;omega))).2.1
 ·exact⟨fun hb=>absurd rfl (qjV hb),trivial⟩
theorem count_le(t:T)(n:Int):0<=T.sum (wC n) t/\T.sum (wC n) t<=(t.inner:Int)+1:=by
 have h:=qB8 t [n] (List.pairwise_singleton _ _);simp only[List.map_cons,List.map_nil,List.sum_cons,List.sum_nil]at h;have h2:=qdj (wC n) t;have h3:=qLe (l:=t.nodes) (w:=wC n) (fun x _=>qQa n x);have h4:=qry t;omega
theorem qhv(t:T)(n:Int)(h:t.inner<=1099511627776):qdV t n=T.sum (wC n) t:=by
 have:=count_le t n;exact wrap_i64 (by omega) (by omega)
theorem qmy(l:List SymL)(t:T)(h:t.inner<=1099511627776):qcN l t=T.sum (wW l) t:=by
 have:=qo8 l t;exact wrap_i64 (by omega) (by omega)
theorem qlz(l:List SymL)(a b:T)(ha:a.inner<=1099511627776)(hb:b.inner<=1099511627776):qc1 l a b=true↔qaT l a=true/\qaT l b=true/\(∀n,n∈qc8 b->T.sum (wC n) b<=T.sum (wC n) a)/\
 (T.sum (wW l) b<T.sum (wW l) a\/(T.sum (wW l) a=T.sum (wW l) b/\qc8 a=[]/\qc8 b=[]/\T.cmp b a<0)):=by
 unfold qc1 qwA;rw[qmy l a ha,qmy l b hb];simp only[Bool.and_eq_true,Bool.or_eq_true,decide_eq_true_eq,beq_iff_eq,List.length_eq_zero_iff];constructor
 ·rintro⟨⟨⟨h1,h2⟩,h3⟩,h4⟩
  refine⟨h1,h2,fun n hn=> ?_,?_⟩
  ·obtain⟨i,hi,rfl⟩:=List.getElem_of_mem hn
   have h5:=qd7 _ _ h3 i hi;unfold qdo at h5;rw[<-qc0 hi,qhv a _ ha,qhv b _ hb]at h5;simpa using h5
  ·rcases h4 with h4|h4
   ·exact .inl h4
   ·exact .inr ⟨h4.1.1.1,h4.1.1.2,h4.1.2,h4.2⟩
 ·rintro⟨h1,h2,h3,h4⟩
  refine⟨⟨⟨h1,h2⟩,qwK _ _ fun i hi=> ?_⟩,?_⟩
  ·unfold qdo
   rw[<-qc0 hi,qhv a _ ha,qhv b _ hb];simpa using h3 _ (List.getElem_mem hi)
  ·rcases h4 with h4|h4
   ·exact .inl h4
   ·exact .inr ⟨⟨⟨h4.1,h4.2.1⟩,h4.2.2.1⟩,h4.2.2.2⟩
theorem qsX{t:T}(h:qc8 t=[]):∀x,x∈t.nodes->x.f≠-1:=fun x hx hf=>by
 have:=(qo9 t x.v).2 ⟨x,hx,hf,rfl⟩;rw[h]at this;simp at this
theorem qoz(l:List SymL)(u:List Bd)(a b:T)(hu:qmD l u=true)(h:qc1 l a b=true)(hx:qaT l ((qbO u a).norm l)=true)(hy:qaT l ((qbO u b).norm l)=true):qc1 l ((qbO u a).norm l) ((qbO u b).norm l)=true:=by
 have ga:qaT l a=true/\qaT l b=true:=by
  unfold qc1 at h;simp only[Bool.and_eq_true]at h;exact⟨h.1.1.1,h.1.1.2⟩
 obtain⟨a1,a2,a3⟩:=qdi ga.1;obtain⟨b1,b2,b3⟩:=qdi ga.2;have hxi:=(qdi hx).1;have hyi:=(qdi hy).1;obtain⟨_,_,hc,hw⟩:=(qlz l a b (by omega) (by omega)).1 h;rcases hw with hw|⟨_,hva,hvb,_⟩
 ·have hlf:=qAI (qvp hu)
  have hcount:∀n,(qyP b.nodes).count n<=(qyP a.nodes).count n:=fun n=>by
   have e1:=qil n a.nodes;have e2:=qil n b.nodes;rw[<-qdj]at e1 e2
   by_cases hn:n∈qc8 b
   ·have:=hc n hn;omega
   ·have:T.sum (wC n) b=0:=by
     have h0:=(count_le b n).1;rcases Int.lt_or_le 0 (T.sum (wC n) b)with hp|hp
     ·exfalso
      apply hn;rw[qo9];have hp2:0<(qyP b.nodes).count n:=by omega
      have hm:=List.count_pos_iff.1 hp2;unfold qyP at hm;obtain⟨x,hx1,hx2⟩:=List.mem_map.1 hm;obtain⟨hx3,hx4⟩:=List.mem_filter.1 hx1;exact⟨x,hx3,by simpa using hx4,hx2⟩
     ·omega
    omega
  refine(qlz l _ _ (by omega) (by omega)).2 ⟨hx,hy,fun n _=> ?_,.inl ?_⟩
  ·rw[qim,qim,qm5 u n a a3,qm5 u n b b3]
   exact qrz _ (fun m=>(count_le (qf3 u m) n).1) _ _ hcount
  ·rw[(qgj l _ (qlG l u hlf a a2)).1,(qgj l _ (qlG l u hlf b b2)).1,qlF l u a a3,qlF l u b b3]
   have:=qrz (fun n=>T.sum (wW l) (qf3 u n)-1) (fun m=>by have:=qmx l _ (hlf m);omega) _ _ hcount;omega
 ·rw[qgq u a (qsX hva),qgq u b (qsX hvb),qj9 l a ga.1,qj9 l b ga.2]
  exact h
end Go.Proofs.Ytfiakfiocdfpbaa.VS
