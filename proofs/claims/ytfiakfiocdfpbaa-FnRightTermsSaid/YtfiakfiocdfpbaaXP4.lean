/- Contracts of the program's functions on the evaluator without names, and plain lemmas: part 4. -/
import Derived.Test.YtfiakfiocdfpbaaXP3
import Derived.Test.YtfiakfiocdfpbaaNat1
import Derived.Test.YtfiakfiocdfpbaaEngC
import Derived.Shelf.Spec.SlicesInsertGrow
import Derived.Laws.AppendOwn
set_option linter.unusedSimpArgs false
set_option linter.unusedVariables false
namespace Go.Proofs.Ytfiakfiocdfpbaa.VS
theorem qrE(A X Z:List T)(y:T)(a m b N:Nat)(ha:a=A.length)(hm:m=a+X.length)(hb:b=m+1)(hX2:2<=X.length)(hN:N=(A++X++y::Z).length)(hn:N<=1099511627776)(hin:∀t,t∈A++X++y::Z->t.inner<=1099511627776)(hX:Srt X):
 ∃W:List T,W.Perm (X++[y])/\Srt W/\qad XV 173 [.tsl true 0 3 N,.d (.int .i64 a),.d (.int .i64 m),.d (.int .i64 b),.fn 6 []] [some (kc (A++X++y::Z))]=some (.d (.tup []),[some (kc (A++W++Z))]):=by
 have hNl:A.length+X.length+(Z.length+1)=N:=by rw[hN];simp;omega
 have hlo:=qzb (A++X++y::Z) m (by rw[<-hN];exact hn) (by rw[<-hN];omega) hin X.length a m (by omega) (by omega) (by rw[<-hN];omega);have hxm:tAt (A++X++y::Z) m=y:=qp4 _ _ _ _ (by simp;omega);have hat:∀q,q<X.length->tAt (A++X++y::Z) (a+q)=tAt X q:=fun q hq=>by rw[ha];exact qpk A X (y::Z) q hq
 obtain⟨s1,s2,s3,s4⟩:=qjW (fun h=> !decide (T.cmp (tAt (A++X++y::Z) m) (tAt (A++X++y::Z) h)<0)) X.length a m (by omega) (by omega);generalize bs (fun h=> !decide (T.cmp (tAt (A++X++y::Z) m) (tAt (A++X++y::Z) h)<0)) X.length a m=r at hlo s1 s2 s3 s4;rw[hxm]at s3 s4;obtain⟨t,rfl⟩:∃t,r=a+t:=⟨r-a,by omega⟩;have htl:t<=X.length:=by omega
 have hX12:X.take t++X.drop t=X:=List.take_append_drop _ _;have hl1:(X.take t).length=t:=by simp;omega
 have hl2:(X.drop t).length=X.length-t:=by simp
 have hassoc:A++X.take t++X.drop t++y::Z=A++X++y::Z:=by rw[List.append_assoc A,hX12]
 have hri:=qvh (A++X.take t) (X.drop t) Z y N (a+t) (by simp;omega) (by rw[hassoc,hN]) hn;rw[hassoc,hl2,show a+t+(X.length-t)=m by omega]at hri;refine⟨X.take t++y::X.drop t,?_,qtH (by rw[hX12];exact hX) (fun s hs=> ?_) (fun s hs=> ?_),?_⟩
 ·refine List.perm_middle.trans ?_
  rw[hX12];exact List.perm_append_comm (l₁:=[y]) (l₂:=X)
 ·obtain⟨h1,h2⟩:=qfQ htl hs
  rcases s3 with s3|s3
  ·omega
  ·rw[show a+t-1=a+(t-1)by omega,hat _ (by omega)]at s3
   rw[h2];exact qb9 (by simpa using s3)
 ·obtain⟨h1,h2⟩:=qgD hs
  rcases s4 with s4|s4
  ·omega
  ·rw[hat _ h1]at s4
   rw[h2];exact qdJ (by simpa using s4)
 ·have hfin:A++(X.take t++y::X.drop t)++Z=A++X.take t++y::(X.drop t++Z):=by simp only[List.append_assoc,List.cons_append]
  rw[hfin];rw[qaA XV _ _ _ qwZ rfl qiC rfl];rw[<-hN]at hlo;have w1:IntKind.i64.wrap ((m:Int)-a)=(X.length:Int):=by rw[wrap_i64 (by omega) (by omega)];omega
  have n1:((X.length:Int)==1)=false:=by simp;omega
  have w2:IntKind.i64.wrap ((b:Int)-m)=1:=by rw[wrap_i64 (by omega) (by omega)];omega
  generalize kc (A++X.take t++y::(X.drop t++Z))=c2 at hri⊢
  generalize kc (A++X++y::Z)=c1 at hlo hri⊢
  generalize ((a+t:Nat):Int)=gv2 at*
  generalize (X.length:Int)=vx at*
  simp[qwZ,qmL,qlD,quw,quv,w1,w2,n1];rw[hlo];simp[quu];rw[hri];simp
theorem qrD(N:Nat)(ga gm gb gmid gst vn ve:Int)(k0 k1 k2 k3:List AV)(w5:IntKind.i64.wrap (vn-gst)=ve)
 (hA:(gst<gm/\gm<ve/\qad XV 174 [.tsl true 0 3 N,.d (.int .i64 gst),.d (.int .i64 gm),.d (.int .i64 ve),.fn 6 []] [some k0]=some (.d (.tup []),[some k1]))\/(gst<gm/\¬gm<ve/\k0=k1)\/(¬gst<gm/\k0=k1))
 (hB:(ga<gst/\gst<gmid/\qad XV 173 [.tsl true 0 3 N,.d (.int .i64 ga),.d (.int .i64 gst),.d (.int .i64 gmid),.fn 6 []] [some k1]=some (.d (.tup []),[some k2]))\/(ga<gst/\¬gst<gmid/\k1=k2)\/(¬ga<gst/\k1=k2))
 (hC:(gmid<ve/\ve<gb/\qad XV 173 [.tsl true 0 3 N,.d (.int .i64 gmid),.d (.int .i64 ve),.d (.int .i64 gb),.fn 6 []] [some k2]=some (.d (.tup []),[some k3]))\/(gmid<ve/\¬ve<gb/\k2=k3)\/(¬gmid<ve/\k2=k3)) (x21 x22 x151:AV):
 ∃r',qau XV [70,74,122,126] (.seq (.region false 0 [0,1,2,3,4,18,20,24] qi6) (.seq (.seq (.region false 0 [0,1,2,3,4,18,20,24,185] qi5) (.cond (.t 185) (.region false 0 [0,1,3,4,18,20,24] qi4) .skip)) (.seq (.seq (.region false 0 [0,1,3,4,18,20,24,199] qi3) (.cond (.t 199) (.region false 0 [0,3,4,18,24] qi2) .skip)) (.seq (.region false 0 [0,3,4,18,24,213] qi1) (.cond (.t 213) (.region false 0 [] qi0) .skip)))))
  ⟨[(0,.tsl true 0 3 N),(1,.d (.int .i64 ga)),(2,.d (.int .i64 gm)),(3,.d (.int .i64 gb)),(4,.fn 6 []),(18,.d (.int .i64 gmid)),(19,.d (.int .i64 vn)),(20,.d (.int .i64 gst)),(21,x21),(22,x22),(151,x151)],[some k0]⟩=some (.normal,⟨r',[some k3]⟩):=by
 rcases hA with⟨a1,a2,a3⟩|⟨a1,a2,rfl⟩|⟨a1,rfl⟩<;>rcases hB with⟨b1,b2,b3⟩|⟨b1,b2,rfl⟩|⟨b1,rfl⟩<;>rcases hC with⟨d1,d2,d3⟩|⟨d1,d2,rfl⟩|⟨d1,rfl⟩<;>
  exact⟨_,by simp[qi6,qi5,qi4,qi3,qi2,qi1,qi0,w5, *];rfl⟩
theorem qoL(N:Nat)(ga gm gb gmid gst vn vn1 vb vx vy vab:Int)(k0 k3:List AV)(w1:IntKind.i64.wrap (gm-ga)=vx)(n1:(vx==1)=false)(w2:IntKind.i64.wrap (gb-gm)=vy)(n2:(vy==1)=false)
 (m1:IntKind.i64.wrap (ga+gb)=vab) (m2:IntKind.u64.wrap vab=vab) (m3:vab.fdiv 2=gmid) (m4:IntKind.i64.wrap gmid=gmid) (w3:IntKind.i64.wrap (gmid+gm)=vn) (w4:IntKind.i64.wrap (vn-1)=vn1) (w6:gmid<gm->IntKind.i64.wrap (vn-gb)=vb)
 (hlo:qbq XV [70,74,122,126] 1 [0,1,2,3,4,18,19,20,21,22] qgN ⟨[(0,.tsl true 0 3 N),(1,.d (.int .i64 ga)),(2,.d (.int .i64 gm)),(3,.d (.int .i64 gb)),(4,.fn 6 []),(18,.d (.int .i64 gmid)),(19,.d (.int .i64 vn)),(20,.d (.int .i64 (if gmid<gm then vb else ga))),(21,.d (.int .i64 (if gmid<gm then gmid else gm))),(22,.d (.int .i64 vn1))],[some k0]⟩=
  some (.exit 8,⟨[(0,.tsl true 0 3 N),(1,.d (.int .i64 ga)),(2,.d (.int .i64 gm)),(3,.d (.int .i64 gb)),(4,.fn 6 []),(18,.d (.int .i64 gmid)),(19,.d (.int .i64 vn)),(20,.d (.int .i64 gst)),(21,.d (.int .i64 gst)),(22,.d (.int .i64 vn1)),(151,.d (.bool false))],[some k0]⟩))
 (tail:∃r',qau XV [70,74,122,126] (.seq (.region false 0 [0,1,2,3,4,18,20,24] qi6) (.seq (.seq (.region false 0 [0,1,2,3,4,18,20,24,185] qi5) (.cond (.t 185) (.region false 0 [0,1,3,4,18,20,24] qi4) .skip)) (.seq (.seq (.region false 0 [0,1,3,4,18,20,24,199] qi3) (.cond (.t 199) (.region false 0 [0,3,4,18,24] qi2) .skip)) (.seq (.region false 0 [0,3,4,18,24,213] qi1) (.cond (.t 213) (.region false 0 [] qi0) .skip)))))
  ⟨[(0,.tsl true 0 3 N),(1,.d (.int .i64 ga)),(2,.d (.int .i64 gm)),(3,.d (.int .i64 gb)),(4,.fn 6 []),(18,.d (.int .i64 gmid)),(19,.d (.int .i64 vn)),(20,.d (.int .i64 gst)),(21,.d (.int .i64 gst)),(22,.d (.int .i64 vn1)),(151,.d (.bool false))],[some k0]⟩=some (.normal,⟨r',[some k3]⟩)):
 qad XV 173 [.tsl true 0 3 N,.d (.int .i64 ga),.d (.int .i64 gm),.d (.int .i64 gb),.fn 6 []] [some k0]=some (.d (.tup []),[some k3]):=by
 obtain⟨r',t1⟩:=tail;generalize hT:(.seq (.region false 0 [0,1,2,3,4,18,20,24] qi6) (.seq (.seq (.region false 0 [0,1,2,3,4,18,20,24,185] qi5) (.cond (.t 185) (.region false 0 [0,1,3,4,18,20,24] qi4) .skip)) (.seq (.seq (.region false 0 [0,1,3,4,18,20,24,199] qi3) (.cond (.t 199) (.region false 0 [0,3,4,18,24] qi2) .skip)) (.seq (.region false 0 [0,3,4,18,24,213] qi1) (.cond (.t 213) (.region false 0 [] qi0) .skip)))):VCode)=code at t1;rw[qaA XV _ _ _ qwZ rfl qiC rfl];unfold qwZ;rw[hT]
 by_cases hmm:gmid<gm
 ·have w6':=w6 hmm
  simp only[if_pos hmm]at hlo;simp[qmL,qlD,qoB,qoA,qoz,qoy,qus,qur,qox,w1,n1,w2,n2,m1,m2,m3,m4,w3,w4,w6',hmm,qcl,qcx];rw[hlo];simp[t1]
 ·simp only[if_neg hmm]at hlo
  simp[qmL,qlD,qoB,qoA,qoz,qoy,quq,qup,qox,w1,n1,w2,n2,m1,m2,m3,m4,w3,w4,hmm,qcl,qcx];rw[hlo];simp[t1]
theorem qu6(A X1 X2 Y1 Y2 Z W1 W2:List T)(a m b mid st N:Nat)(ha:a=A.length)(hm:m=a+X1.length+X2.length)(hb:b=m+Y1.length+Y2.length)(hX:2<=X1.length+X2.length)(hY:2<=Y1.length+Y2.length)
 (hmid:mid=(a+b)/2) (hst:st=a+X1.length) (h1:mid=st+Y1.length) (hN:N=(A++(X1++X2)++(Y1++Y2)++Z).length) (hn:N<=1099511627776)
 (hlo:∀(i j:Nat),(if mid<m then i=mid+m-b/\j=mid else i=a/\j=m)->qbq XV [70,74,122,126] 1 [0,1,2,3,4,18,19,20,21,22] qgN ⟨[(0,.tsl true 0 3 N),(1,.d (.int .i64 a)),(2,.d (.int .i64 m)),(3,.d (.int .i64 b)),(4,.fn 6 []),(18,.d (.int .i64 mid)),(19,.d (.int .i64 (mid+m:Nat))),(20,.d (.int .i64 i)),(21,.d (.int .i64 j)),(22,.d (.int .i64 (mid+m-1:Nat)))],[some (kc (A++(X1++X2)++(Y1++Y2)++Z))]⟩=
  some (.exit 8,⟨[(0,.tsl true 0 3 N),(1,.d (.int .i64 a)),(2,.d (.int .i64 m)),(3,.d (.int .i64 b)),(4,.fn 6 []),(18,.d (.int .i64 mid)),(19,.d (.int .i64 (mid+m:Nat))),(20,.d (.int .i64 st)),(21,.d (.int .i64 st)),(22,.d (.int .i64 (mid+m-1:Nat))),(151,.d (.bool false))],[some (kc (A++(X1++X2)++(Y1++Y2)++Z))]⟩))
 (hr:X2≠[]->Y1≠[]->qad XV 174 [.tsl true 0 3 N,.d (.int .i64 st),.d (.int .i64 m),.d (.int .i64 (m+Y1.length:Nat)),.fn 6 []] [some (kc (A++(X1++X2)++(Y1++Y2)++Z))]=some (.d (.tup []),[some (kc (A++(X1++Y1)++(X2++Y2)++Z))]))
 (h2:(X1≠[]/\Y1≠[])->qad XV 173 [.tsl true 0 3 N,.d (.int .i64 a),.d (.int .i64 st),.d (.int .i64 mid),.fn 6 []] [some (kc (A++(X1++Y1)++(X2++Y2)++Z))]=some (.d (.tup []),[some (kc (A++W1++(X2++Y2)++Z))]))
 (h2':¬(X1≠[]/\Y1≠[])->W1=X1++Y1)
 (h3:(X2≠[]/\Y2≠[])->qad XV 173 [.tsl true 0 3 N,.d (.int .i64 mid),.d (.int .i64 (m+Y1.length:Nat)),.d (.int .i64 b),.fn 6 []] [some (kc (A++W1++(X2++Y2)++Z))]=some (.d (.tup []),[some (kc (A++W1++W2++Z))]))
 (h3':¬(X2≠[]/\Y2≠[])->W2=X2++Y2):
 qad XV 173 [.tsl true 0 3 N,.d (.int .i64 a),.d (.int .i64 m),.d (.int .i64 b),.fn 6 []] [some (kc (A++(X1++X2)++(Y1++Y2)++Z))]=some (.d (.tup []),[some (kc (A++W1++W2++Z))]):=by
 have hNl:A.length+X1.length+X2.length+Y1.length+Y2.length+Z.length=N:=by rw[hN];simp;omega
 have ne:∀l:List T,l≠[]↔0<l.length:=fun l=>by cases l<;>simp
 have w1:IntKind.i64.wrap ((m:Int)-a)=((X1.length+X2.length:Nat):Int):=by rw[wrap_i64 (by omega) (by omega)];omega
 have n1:(((X1.length+X2.length:Nat):Int)==1)=false:=by simp;omega
 have w2:IntKind.i64.wrap ((b:Int)-m)=((Y1.length+Y2.length:Nat):Int):=by rw[wrap_i64 (by omega) (by omega)];omega
 have n2:(((Y1.length+Y2.length:Nat):Int)==1)=false:=by simp;omega
 obtain⟨m1,m2,m3,m4⟩:=qgo a b (by omega);rw[<-hmid]at m3 m4;have w3:IntKind.i64.wrap ((mid:Int)+m)=((mid+m:Nat):Int):=by rw[wrap_i64 (by omega) (by omega)];omega
 have w4:IntKind.i64.wrap (((mid+m:Nat):Int)-1)=((mid+m-1:Nat):Int):=by rw[wrap_i64 (by omega) (by omega)];omega
 have w5:IntKind.i64.wrap (((mid+m:Nat):Int)-st)=((m+Y1.length:Nat):Int):=by rw[wrap_i64 (by omega) (by omega)];omega
 have w6:mid<m->IntKind.i64.wrap (((mid+m:Nat):Int)-b)=((mid+m-b:Nat):Int):=fun h=>by rw[wrap_i64 (by omega) (by omega)];omega
 have hr':(X2≠[]/\Y1≠[])\/A++(X1++X2)++(Y1++Y2)++Z=A++(X1++Y1)++(X2++Y2)++Z:=by
  by_cases e1:X2=[]
  ·right;subst e1;simp
  ·by_cases e2:Y1=[]
   ·right;subst e2;simp
   ·exact .inl ⟨e1,e2⟩
 have c1:((st:Int)<m)↔X2≠[]:=by rw[ne];omega
 have c2:((m:Int)<((m+Y1.length:Nat):Int))↔Y1≠[]:=by rw[ne];omega
 have c3:((a:Int)<st)↔X1≠[]:=by rw[ne];omega
 have c4:((st:Int)<mid)↔Y1≠[]:=by rw[ne];omega
 have c5:((mid:Int)<((m+Y1.length:Nat):Int))↔X2≠[]:=by rw[ne];omega
 have c6:(((m+Y1.length:Nat):Int)<b)↔Y2≠[]:=by rw[ne];omega
 have step2:(¬(X1≠[]/\Y1≠[]))->kc (A++(X1++Y1)++(X2++Y2)++Z)=kc (A++W1++(X2++Y2)++Z):=fun h=>by rw[h2' h]
 have step3:(¬(X2≠[]/\Y2≠[]))->kc (A++W1++(X2++Y2)++Z)=kc (A++W1++W2++Z):=fun h=>by rw[h3' h]
 have step1:(¬(X2≠[]/\Y1≠[]))->kc (A++(X1++X2)++(Y1++Y2)++Z)=kc (A++(X1++Y1)++(X2++Y2)++Z):=fun h=>by
  rcases hr' with h1|h1
  ·exact absurd h1 h
  ·rw[h1]
 have hA:((st:Int)<m/\(m:Int)<((m+Y1.length:Nat):Int)/\qad XV 174 [.tsl true 0 3 N,.d (.int .i64 st),.d (.int .i64 m),.d (.int .i64 (m+Y1.length:Nat)),.fn 6 []] [some (kc (A++(X1++X2)++(Y1++Y2)++Z))]=some (.d (.tup []),[some (kc (A++(X1++Y1)++(X2++Y2)++Z))]))\/((st:Int)<m/\¬(m:Int)<((m+Y1.length:Nat):Int)/\kc (A++(X1++X2)++(Y1++Y2)++Z)=kc (A++(X1++Y1)++(X2++Y2)++Z))\/(¬(st:Int)<m/\kc (A++(X1++X2)++(Y1++Y2)++Z)=kc (A++(X1++Y1)++(X2++Y2)++Z)):=by
  by_cases e1:X2=[]
  ·exact .inr (.inr ⟨fun h=>(c1.1 h) e1,step1 fun h=>h.1 e1⟩)
  ·by_cases e2:Y1=[]
   ·exact .inr (.inl ⟨c1.2 e1,fun h=>(c2.1 h) e2,step1 fun h=>h.2 e2⟩)
   ·exact .inl ⟨c1.2 e1,c2.2 e2,hr e1 e2⟩
 have hB:((a:Int)<st/\(st:Int)<mid/\qad XV 173 [.tsl true 0 3 N,.d (.int .i64 a),.d (.int .i64 st),.d (.int .i64 mid),.fn 6 []] [some (kc (A++(X1++Y1)++(X2++Y2)++Z))]=some (.d (.tup []),[some (kc (A++W1++(X2++Y2)++Z))]))\/((a:Int)<st/\¬(st:Int)<mid/\kc (A++(X1++Y1)++(X2++Y2)++Z)=kc (A++W1++(X2++Y2)++Z))\/(¬(a:Int)<st/\kc (A++(X1++Y1)++(X2++Y2)++Z)=kc (A++W1++(X2++Y2)++Z)):=by
  by_cases e1:X1=[]
  ·exact .inr (.inr ⟨fun h=>(c3.1 h) e1,step2 fun h=>h.1 e1⟩)
  ·by_cases e2:Y1=[]
   ·exact .inr (.inl ⟨c3.2 e1,fun h=>(c4.1 h) e2,step2 fun h=>h.2 e2⟩)
   ·exact .inl ⟨c3.2 e1,c4.2 e2,h2 ⟨e1,e2⟩⟩
 have hC:((mid:Int)<((m+Y1.length:Nat):Int)/\((m+Y1.length:Nat):Int)<b/\qad XV 173 [.tsl true 0 3 N,.d (.int .i64 mid),.d (.int .i64 (m+Y1.length:Nat)),.d (.int .i64 b),.fn 6 []] [some (kc (A++W1++(X2++Y2)++Z))]=some (.d (.tup []),[some (kc (A++W1++W2++Z))]))\/((mid:Int)<((m+Y1.length:Nat):Int)/\¬((m+Y1.length:Nat):Int)<b/\kc (A++W1++(X2++Y2)++Z)=kc (A++W1++W2++Z))\/(¬(mid:Int)<((m+Y1.length:Nat):Int)/\kc (A++W1++(X2++Y2)++Z)=kc (A++W1++W2++Z)):=by
  by_cases e1:X2=[]
  ·exact .inr (.inr ⟨fun h=>(c5.1 h) e1,step3 fun h=>h.1 e1⟩)
  ·by_cases e2:Y2=[]
   ·exact .inr (.inl ⟨c5.2 e1,fun h=>(c6.1 h) e2,step3 fun h=>h.2 e2⟩)
   ·exact .inl ⟨c5.2 e1,c6.2 e2,h3 ⟨e1,e2⟩⟩
 refine qoL N a m b mid st (mid+m:Nat) (mid+m-1:Nat) (mid+m-b:Nat) (X1.length+X2.length:Nat) (Y1.length+Y2.length:Nat) (a+b:Nat) _ _ w1 n1 w2 n2 m1 m2 m3 m4 w3 w4 (fun h=>w6 (by omega)) ?_ (qrD N a m b mid st (mid+m:Nat) (m+Y1.length:Nat) _ _ _ _ w5 hA hB hC _ _ _)
 by_cases h:mid<m
 ·have h':(mid:Int)<m:=by omega
  rw[if_pos h',if_pos h'];exact hlo (mid+m-b) mid (by rw[if_pos h];exact⟨rfl,rfl⟩)
 ·have h':¬(mid:Int)<m:=by omega
  rw[if_neg h',if_neg h'];exact hlo a m (by rw[if_neg h];exact⟨rfl,rfl⟩)
end Go.Proofs.Ytfiakfiocdfpbaa.VS
namespace Go.Proofs.Ytfiakfiocdfpbaa.VS
theorem qiI:∀(k:Nat) (A X Y Z:List T) (a m b N:Nat),X.length+Y.length<=k->0<X.length->0<Y.length->a=A.length->m=a+X.length->b=m+Y.length->N=(A++X++Y++Z).length->N<=1099511627776->(∀t,t∈A++X++Y++Z->t.inner<=1099511627776)->Srt X->Srt Y->
 ∃W:List T,W.Perm (X++Y)/\Srt W/\qad XV 173 [.tsl true 0 3 N,.d (.int .i64 a),.d (.int .i64 m),.d (.int .i64 b),.fn 6 []] [some (kc (A++X++Y++Z))]=some (.d (.tup []),[some (kc (A++W++Z))]):=by
 intro k
 induction k with
 |zero=>intro A X Y Z a m b N hk hx hy;omega
 |succ k ih=>
  intro A X Y Z a m b N hk hx hy ha hm hb hN hn hin hX hY;have hNl:A.length+X.length+Y.length+Z.length=N:=by rw[hN];simp;omega
  by_cases hx1:X.length=1
  ·obtain⟨x,rfl⟩:∃x,X=[x]:=List.length_eq_one_iff.1 hx1
   have e:A++[x]++Y++Z=A++x::(Y++Z):=by simp
   rw[e]at hN hin⊢
   obtain⟨W,w1,w2,w3⟩:=qu7 A Y Z x a m b N ha (by simpa using hm) hb hN hn hin hY;exact⟨W,by simpa using w1,w2,w3⟩
  by_cases hy1:Y.length=1
  ·obtain⟨y,rfl⟩:∃y,Y=[y]:=List.length_eq_one_iff.1 hy1
   have e:A++X++[y]++Z=A++X++y::Z:=by simp
   rw[e]at hN hin⊢
   exact qrE A X Z y a m b N ha hm (by simpa using hb) (by omega) hN hn hin hX
  obtain⟨mid,hmid⟩:∃mid,mid=(a+b)/2:=⟨_,rfl⟩;have hxat:∀q,q<X.length->tAt (A++X++Y++Z) (a+q)=tAt X q:=fun q hq=>by
   rw[ha,List.append_assoc (A++X)];exact qpk A X (Y++Z) q hq
  have hyat:∀q,q<Y.length->tAt (A++X++Y++Z) (m+q)=tAt Y q:=fun q hq=>by
   have:=qpk (A++X) Y Z q hq;rw[List.length_append,<-ha,<-hm]at this;exact this
  have key:∀i j:Nat,(if mid<m then i=mid+m-b/\j=mid else i=a/\j=m)->∃st,i<=st/\st<=j/\(st=i\/tle (tAt (A++X++Y++Z) (st-1)) (tAt (A++X++Y++Z) (mid+m-1-(st-1))))/\(st=j\/tle (tAt (A++X++Y++Z) (mid+m-1-st)) (tAt (A++X++Y++Z) st))/\
   qbq XV [70,74,122,126] 1 [0,1,2,3,4,18,19,20,21,22] qgN ⟨[(0,.tsl true 0 3 N),(1,.d (.int .i64 a)),(2,.d (.int .i64 m)),(3,.d (.int .i64 b)),(4,.fn 6 []),(18,.d (.int .i64 mid)),(19,.d (.int .i64 (mid+m:Nat))),(20,.d (.int .i64 i)),(21,.d (.int .i64 j)),(22,.d (.int .i64 (mid+m-1:Nat)))],[some (kc (A++X++Y++Z))]⟩=
    some (.exit 8,⟨[(0,.tsl true 0 3 N),(1,.d (.int .i64 a)),(2,.d (.int .i64 m)),(3,.d (.int .i64 b)),(4,.fn 6 []),(18,.d (.int .i64 mid)),(19,.d (.int .i64 (mid+m:Nat))),(20,.d (.int .i64 st)),(21,.d (.int .i64 st)),(22,.d (.int .i64 (mid+m-1:Nat))),(151,.d (.bool false))],[some (kc (A++X++Y++Z))]⟩):=by
   intro i j hij;have hij2:i<=j/\j<=N/\∀c,i<=c->c<j->c<=mid+m-1/\mid+m-1-c<N:=by
    split at hij
    ·obtain⟨rfl,rfl⟩:=hij
     exact⟨by omega,by omega,fun c h1 h2=>by omega⟩
    ·obtain⟨rfl,rfl⟩:=hij
     exact⟨by omega,by omega,fun c h1 h2=>by omega⟩
   have hl:=qza (A++X++Y++Z) (mid+m-1) a m b mid (mid+m:Nat) (by rw[<-hN];exact hn) (by omega) hin (j-i) i j hij2.1 (Nat.le_refl _) (by rw[<-hN];exact hij2.2.1) (by rw[<-hN];exact hij2.2.2);obtain⟨s1,s2,s3,s4⟩:=qjW (fun c=> !decide (T.cmp (tAt (A++X++Y++Z) (mid+m-1-c)) (tAt (A++X++Y++Z) c)<0)) (j-i) i j hij2.1 (Nat.le_refl _);rw[<-hN]at hl;refine⟨_,s1,s2,s3.imp_right fun h=>qb9 (by simpa using h),s4.imp_right fun h=>qdJ (by simpa using h),hl⟩
  obtain⟨i0,j0,hif⟩:∃i j:Nat,(if mid<m then i=mid+m-b/\j=mid else i=a/\j=m):=by
   by_cases h:mid<m
   ·exact⟨mid+m-b,mid,by rw[if_pos h];exact⟨rfl,rfl⟩⟩
   ·exact⟨a,m,by rw[if_neg h];exact⟨rfl,rfl⟩⟩
  obtain⟨st,q1,q2,q3,q4,hlo⟩:=key i0 j0 hif;clear key;have hb1:a<=st/\st<=m/\st<=mid/\m<=mid+m-st/\mid+m-st<=b:=by
   split at hif
   ·obtain⟨rfl,rfl⟩:=hif;omega
   ·obtain⟨rfl,rfl⟩:=hif;omega
  obtain⟨t,ht⟩:∃t,st=a+t:=⟨st-a,by omega⟩;obtain⟨u,hu⟩:∃u,mid+m-st=m+u:=⟨mid-st,by omega⟩;have htl:t<=X.length:=by omega
  have hul:u<=Y.length:=by omega
  have hX12:X.take t++X.drop t=X:=List.take_append_drop _ _;have hY12:Y.take u++Y.drop u=Y:=List.take_append_drop _ _;have lx1:(X.take t).length=t:=by simp;omega
  have lx2:(X.drop t).length=X.length-t:=by simp
  have ly1:(Y.take u).length=u:=by simp;omega
  have ly2:(Y.drop u).length=Y.length-u:=by simp
  have ne:∀l:List T,l≠[]->0<l.length:=fun l h=>List.length_pos_iff.2 h
  obtain⟨sx1,sx2,sx12⟩:=List.pairwise_append.1 (show Srt (X.take t++X.drop t)by rw[hX12];exact hX);obtain⟨sy1,sy2,sy12⟩:=List.pairwise_append.1 (show Srt (Y.take u++Y.drop u)by rw[hY12];exact hY);have F1:∀p,p∈X.take t->∀q,q∈Y.drop u->tle p q:=qyW sx1 sy2 fun s r hs hr=>by
   obtain⟨h1,h2⟩:=qfQ htl hs;obtain⟨h3,h4⟩:=qgD hr;rcases q3 with q3|q3
   ·exfalso
    split at hif
    ·obtain⟨rfl,rfl⟩:=hif;omega
    ·obtain⟨rfl,rfl⟩:=hif;omega
   ·rw[show st-1=a+(t-1)by omega,hxat _ (by omega),show mid+m-1-(a+(t-1))=m+u by omega,hyat _ h3]at q3
    rw[h2,h4];exact q3
  have F2:∀p,p∈Y.take u->∀q,q∈X.drop t->tle p q:=qyW sy1 sx2 fun s r hs hr=>by
   obtain⟨h1,h2⟩:=qfQ hul hs;obtain⟨h3,h4⟩:=qgD hr;rcases q4 with q4|q4
   ·exfalso
    split at hif
    ·obtain⟨rfl,rfl⟩:=hif;omega
    ·obtain⟨rfl,rfl⟩:=hif;omega
   ·rw[show mid+m-1-st=m+(u-1)by omega,hyat _ (by omega),show st=a+t from ht,hxat _ h3]at q4
    rw[h2,h4];exact q4
  generalize hX1:X.take t=X1 at*
  generalize hX2:X.drop t=X2 at*
  generalize hY1:Y.take u=Y1 at*
  generalize hY2:Y.drop u=Y2 at*
  clear hxat hyat q3 q4;subst hX12;subst hY12;have L:∃W1:List T,W1.Perm (X1++Y1)/\Srt W1/\((X1≠[]/\Y1≠[])->qad XV 173 [.tsl true 0 3 N,.d (.int .i64 a),.d (.int .i64 st),.d (.int .i64 mid),.fn 6 []] [some (kc (A++(X1++Y1)++(X2++Y2)++Z))]=some (.d (.tup []),[some (kc (A++W1++(X2++Y2)++Z))]))/\(¬(X1≠[]/\Y1≠[])->W1=X1++Y1):=by
   by_cases h:X1≠[]/\Y1≠[]
   ·obtain⟨W,w1,w2,w3⟩:=ih A X1 Y1 (X2++Y2++Z) a st mid N (by simp at hk hm hb;omega) (ne _ h.1) (ne _ h.2) ha (by omega) (by simp at hm hb;omega) (by simp at hNl⊢;omega) hn (fun x hx=>hin x (by
     simp only[List.mem_append]at hx⊢
     rcases hx with((h|h)|h)|((h|h)|h)<;>simp[h])) sx1 sy1
    refine⟨W,w1,w2,fun _=> ?_,fun h'=>absurd h h'⟩;have e1:A++(X1++Y1)++(X2++Y2)++Z=A++X1++Y1++(X2++Y2++Z):=by simp
    have e2:A++W++(X2++Y2)++Z=A++W++(X2++Y2++Z):=by simp
    rw[e1,e2];exact w3
   ·refine⟨X1++Y1,List.Perm.refl _,?_,fun h'=>absurd h' h,fun _=>rfl⟩
    by_cases e1:X1=[]
    ·subst e1;rw[List.nil_append];exact sy1
    ·by_cases e2:Y1=[]
     ·subst e2;rw[List.append_nil];exact sx1
     ·exact absurd ⟨e1,e2⟩ h
  obtain⟨W1,p1,s1,c1,c1'⟩:=L;have lw1:W1.length=X1.length+Y1.length:=by rw[p1.length_eq];simp
  have Rr:∃W2:List T,W2.Perm (X2++Y2)/\Srt W2/\((X2≠[]/\Y2≠[])->qad XV 173 [.tsl true 0 3 N,.d (.int .i64 mid),.d (.int .i64 (m+Y1.length:Nat)),.d (.int .i64 b),.fn 6 []] [some (kc (A++W1++(X2++Y2)++Z))]=some (.d (.tup []),[some (kc (A++W1++W2++Z))]))/\(¬(X2≠[]/\Y2≠[])->W2=X2++Y2):=by
   by_cases h:X2≠[]/\Y2≠[]
   ·obtain⟨W,w1,w2,w3⟩:=ih (A++W1) X2 Y2 Z mid (m+Y1.length) b N (by simp at hk hm hb;omega) (ne _ h.1) (ne _ h.2) (by simp at hm hb⊢;omega) (by simp at hm hb⊢;omega) (by simp at hm hb⊢;omega) (by simp at hNl⊢;omega) hn (fun x hx=>hin x (by
     simp only[List.mem_append]at hx⊢
     rcases hx with(((h|h)|h)|h)|h
     ·simp[h]
     ·have:=p1.mem_iff.1 h
      simp only[List.mem_append]at this;rcases this with h|h<;>simp[h]
     ·simp[h]
     ·simp[h]
     ·simp[h])) sx2 sy2
    refine⟨W,w1,w2,fun _=> ?_,fun h'=>absurd h h'⟩;have e1:A++W1++(X2++Y2)++Z=A++W1++X2++Y2++Z:=by simp
    rw[e1];exact w3
   ·refine⟨X2++Y2,List.Perm.refl _,?_,fun h'=>absurd h' h,fun _=>rfl⟩
    by_cases e1:X2=[]
    ·subst e1;rw[List.nil_append];exact sy2
    ·by_cases e2:Y2=[]
     ·subst e2;rw[List.append_nil];exact sx2
     ·exact absurd ⟨e1,e2⟩ h
  obtain⟨W2,p2,s2,c2,c2'⟩:=Rr;refine⟨W1++W2,?_,List.pairwise_append.2 ⟨s1,s2,fun p hp q hq=> ?_⟩,?_⟩
  ·refine(p1.append p2).trans ?_
   have:=List.perm_append_comm (l₁:=Y1) (l₂:=X2);have h3:=((List.Perm.refl X1).append (this.append (List.Perm.refl Y2)));simpa using h3
  ·have h1:=p1.mem_iff.1 hp
   have h2:=p2.mem_iff.1 hq;rcases List.mem_append.1 h1 with h1|h1<;>rcases List.mem_append.1 h2 with h2|h2
   ·exact sx12 p h1 q h2
   ·exact F1 p h1 q h2
   ·exact F2 p h1 q h2
   ·exact sy12 p h1 q h2
  ·have hrot:X2≠[]->Y1≠[]->qad XV 174 [.tsl true 0 3 N,.d (.int .i64 st),.d (.int .i64 m),.d (.int .i64 (m+Y1.length:Nat)),.fn 6 []] [some (kc (A++(X1++X2)++(Y1++Y2)++Z))]=some (.d (.tup []),[some (kc (A++(X1++Y1)++(X2++Y2)++Z))]):=fun h1 h2=>by
    have hro:=qtS (A++X1) X2 Y1 (Y2++Z) st m (m+Y1.length) N (by simp;omega) (by simp at hm⊢;omega) (by simp at hm⊢;omega) (by simp at hNl⊢;omega) hn (ne _ h1) (ne _ h2) (.fn 6 []) (by simp[AV.clr,AV.clrs]) (by simp[qcB,qbg]);have e1:A++(X1++X2)++(Y1++Y2)++Z=A++X1++X2++Y1++(Y2++Z):=by simp
    have e2:A++(X1++Y1)++(X2++Y2)++Z=A++X1++Y1++X2++(Y2++Z):=by simp
    rw[e1,e2];exact hro
   have hfin:A++(W1++W2)++Z=A++W1++W2++Z:=by simp
   rw[hfin];exact qu6 A X1 X2 Y1 Y2 Z W1 W2 a m b mid st N ha (by simp at hm;omega) (by simp at hb;omega) (by simp at hx1 hx;omega) (by simp at hy1 hy;omega) hmid (by omega) (by simp at hm hb;omega) hN hn (fun i j h=>by
    have:i=i0/\j=j0:=by
     split at h<;>split at hif<;>first|omega|skip
    rw[this.1,this.2];exact hlo) hrot c1 c1' c2 c2'
end Go.Proofs.Ytfiakfiocdfpbaa.VS
namespace Go.Proofs.Ytfiakfiocdfpbaa.VS
inductive Blk(s:Nat):List T->Prop where
 |last (l:List T):l.length<s->Srt l->Blk s l
 |cons (c r:List T):c.length=s->Srt c->Blk s r->Blk s (c++r)
theorem Blk.srt{s:Nat}{l:List T}(h:Blk s l)(hl:l.length<=s)(hs:0<s):Srt l:=by
 cases h with
 |last _ _ h2=>exact h2
 |cons c r h1 h2 h3=>
  have:r=[]:=List.length_eq_zero_iff.1 (by simp at hl;omega);subst this;rw[List.append_nil];exact h2
theorem qo8(N:Nat)(hn:N<=1099511627776):∀(k:Nat) (P R:List T),R.length<=k->(P++R).length=N->(∀t,t∈P++R->t.inner<=1099511627776)->
 ∃(R1 R2:List T) (a:Nat),R2.length<20/\a=P.length+R1.length/\a+R2.length=N/\(R1++R2).Perm R/\(∀Q,Blk 20 Q->Blk 20 (R1++Q))/\
  qbq XV [] 1 [0,1,2,6,7,8] qjY ⟨[(0,.tsl true 0 3 N),(1,.d (.int .i64 N)),(2,.fn 6 []),(6,.d (.int .i64 20)),(7,.d (.int .i64 P.length)),(8,.d (.int .i64 (P.length+20:Nat)))],[some (kc (P++R))]⟩=
   some (.exit 0,⟨[(0,.tsl true 0 3 N),(1,.d (.int .i64 N)),(2,.fn 6 []),(6,.d (.int .i64 20)),(7,.d (.int .i64 a)),(8,.d (.int .i64 (a+20:Nat))),(13,.d (.bool false))],[some (kc (P++R1++R2))]⟩):=by
 have head:∀(x y:Int) (c:List AV),qaf 1 [0,1,2,6,7,8] ⟨[(0,.tsl true 0 3 N),(1,.d (.int .i64 N)),(2,.fn 6 []),(6,.d (.int .i64 20)),(7,.d (.int .i64 x)),(8,.d (.int .i64 y))],[some c]⟩=some ⟨[(0,.tsl true 0 3 N),(1,.d (.int .i64 N)),(2,.fn 6 []),(6,.d (.int .i64 20)),(7,.d (.int .i64 x)),(8,.d (.int .i64 y))],[some c]⟩:=fun x y c=>by
  simp[qaf,qac,qaQ,qcB,qbg]
 have stop:∀(P R:List T),(P++R).length=N->R.length<20->qbq XV [] 1 [0,1,2,6,7,8] qjY ⟨[(0,.tsl true 0 3 N),(1,.d (.int .i64 N)),(2,.fn 6 []),(6,.d (.int .i64 20)),(7,.d (.int .i64 P.length)),(8,.d (.int .i64 (P.length+20:Nat)))],[some (kc (P++R))]⟩=
  some (.exit 0,⟨[(0,.tsl true 0 3 N),(1,.d (.int .i64 N)),(2,.fn 6 []),(6,.d (.int .i64 20)),(7,.d (.int .i64 P.length)),(8,.d (.int .i64 (P.length+20:Nat))),(13,.d (.bool false))],[some (kc (P++R))]⟩):=fun P R h1 h2=>by
  refine qaO (head _ _ _) ?_ (by simp);have hlt:¬(((P.length+20:Nat):Int)<=(N:Int)):=by simp at h1;omega
  generalize ((P.length+20:Nat):Int)=v at*
  generalize (N:Int)=w at*
  simp[qjY,qpI,hlt]
 intro k
 induction k with
 |zero=>
  intro P R hk hN hin;exact⟨[],R,P.length,by omega,by simp,by simpa using hN,by simp,fun Q h=>by simpa using h,by simpa using stop P R hN (by omega)⟩
 |succ k ih=>
  intro P R hk hN hin
  by_cases hR:R.length<20
  ·exact⟨[],R,P.length,hR,by simp,by simpa using hN,by simp,fun Q h=>by simpa using h,by simpa using stop P R hN hR⟩
  ·have hC:(R.take 20).length=20:=by simp;omega
   have hCR:R.take 20++R.drop 20=R:=List.take_append_drop _ _;have hD:(R.drop 20).length=R.length-20:=by simp
   generalize R.take 20=C at hC hCR;generalize R.drop 20=D at hD hCR;subst hCR;have hNl:P.length+C.length+D.length=N:=by simp at hN;omega
   have e0:P++(C++D)=P++C++D:=by simp
   obtain⟨W,w1,w2,w3⟩:=qgt P C D P.length (P.length+20) N rfl (by omega) (by simp;omega) hn (fun t ht=>hin t (by rw[e0];exact ht));have hWl:W.length=20:=by rw[w1.length_eq,hC]
   have hPW:(P++W).length=P.length+20:=by simp;omega
   obtain⟨R1,R2,a,r1,r2,r3,r4,r5,r6⟩:=ih (P++W) D (by simp at hk;omega) (by simp;omega) (fun t ht=>hin t (by
    simp only[List.mem_append]at ht⊢
    rcases ht with(h|h)|h
    ·simp[h]
    ·simp[w1.mem_iff.1 h]
    ·simp[h]))
   refine⟨W++R1,R2,a,r1,by simp at r2⊢;omega,r3,?_,fun Q hQ=>by rw[List.append_assoc];exact .cons W _ hWl w2 (r5 Q hQ),?_⟩
   ·rw[List.append_assoc];exact w1.append r4
   ·have e1:P++(W++R1)++R2=P++W++R1++R2:=by simp
    rw[e1,<-r6,hPW,e0];refine qbp (head _ _ _) ?_;have hle:(((P.length+20:Nat):Int)<=(N:Int)):=by omega
    have hw:IntKind.i64.wrap (((P.length+20:Nat):Int)+20)=((P.length+20+20:Nat):Int):=by rw[wrap_i64 (by omega) (by omega)];omega
    generalize kc (P++C++D)=c1 at w3⊢
    generalize kc (P++W++D)=c2 at w3⊢
    generalize ((P.length+20+20:Nat):Int)=gv2 at*
    generalize ((P.length+20:Nat):Int)=v at*
    generalize (P.length:Int)=u at*
    generalize hgn:(N:Int)=w at*
    simp[qjY,qpI,qzP,qzO,qzN,hle,hw,w3]
theorem qu2(N s:Nat)(hn:N<=1099511627776)(hs:0<s)(hs2:s<=1099511627776):∀(k:Nat) (P R:List T),R.length<=k->(P++R).length=N->(∀t,t∈P++R->t.inner<=1099511627776)->Blk s R->
 ∃(R1 R2:List T) (a:Nat),R2.length<2*s/\a=P.length+R1.length/\a+R2.length=N/\(R1++R2).Perm R/\Blk s R2/\(∀Q,Blk (2*s) Q->Blk (2*s) (R1++Q))/\
  qbq XV [] 1 [0,1,2,6,7,8] qnP ⟨[(0,.tsl true 0 3 N),(1,.d (.int .i64 N)),(2,.fn 6 []),(6,.d (.int .i64 s)),(7,.d (.int .i64 P.length)),(8,.d (.int .i64 (P.length+2*s:Nat)))],[some (kc (P++R))]⟩=
   some (.exit 4,⟨[(0,.tsl true 0 3 N),(1,.d (.int .i64 N)),(2,.fn 6 []),(6,.d (.int .i64 s)),(7,.d (.int .i64 a)),(8,.d (.int .i64 (a+2*s:Nat))),(35,.d (.bool false))],[some (kc (P++R1++R2))]⟩):=by
 have head:∀(x y:Int) (c:List AV),qaf 1 [0,1,2,6,7,8] ⟨[(0,.tsl true 0 3 N),(1,.d (.int .i64 N)),(2,.fn 6 []),(6,.d (.int .i64 s)),(7,.d (.int .i64 x)),(8,.d (.int .i64 y))],[some c]⟩=some ⟨[(0,.tsl true 0 3 N),(1,.d (.int .i64 N)),(2,.fn 6 []),(6,.d (.int .i64 s)),(7,.d (.int .i64 x)),(8,.d (.int .i64 y))],[some c]⟩:=fun x y c=>by
  simp[qaf,qac,qaQ,qcB,qbg]
 have stop:∀(P R:List T),(P++R).length=N->R.length<2*s->qbq XV [] 1 [0,1,2,6,7,8] qnP ⟨[(0,.tsl true 0 3 N),(1,.d (.int .i64 N)),(2,.fn 6 []),(6,.d (.int .i64 s)),(7,.d (.int .i64 P.length)),(8,.d (.int .i64 (P.length+2*s:Nat)))],[some (kc (P++R))]⟩=
  some (.exit 4,⟨[(0,.tsl true 0 3 N),(1,.d (.int .i64 N)),(2,.fn 6 []),(6,.d (.int .i64 s)),(7,.d (.int .i64 P.length)),(8,.d (.int .i64 (P.length+2*s:Nat))),(35,.d (.bool false))],[some (kc (P++R))]⟩):=fun P R h1 h2=>by
  refine qaO (head _ _ _) ?_ (by simp);have hlt:¬(((P.length+2*s:Nat):Int)<=(N:Int)):=by simp at h1;omega
  generalize ((P.length+2*s:Nat):Int)=v at*
  generalize (N:Int)=w at*
  simp[qnP,quB,hlt]
 intro k
 induction k with
 |zero=>
  intro P R hk hN hin hB;exact⟨[],R,P.length,by omega,by simp,by simpa using hN,by simp,hB,fun Q h=>by simpa using h,by simpa using stop P R hN (by omega)⟩
 |succ k ih=>
  intro P R hk hN hin hB
  by_cases hR:R.length<2*s
  ·exact⟨[],R,P.length,hR,by simp,by simpa using hN,by simp,hB,fun Q h=>by simpa using h,by simpa using stop P R hN hR⟩
  ·obtain⟨C1,C2,D,rfl,l1,l2,b1,b2,b3⟩:∃C1 C2 D,R=C1++(C2++D)/\C1.length=s/\C2.length=s/\Srt C1/\Srt C2/\Blk s D:=by
    cases hB with
    |last _ h1 _=>omega
    |cons c r h1 h2 h3=>
     cases h3 with
     |last _ h4 _=>simp at hR;omega
     |cons c' r' h4 h5 h6=>exact⟨c,c',r',rfl,h1,h4,h2,h5,h6⟩
   have hNl:P.length+C1.length+C2.length+D.length=N:=by simp at hN;omega
   have e0:P++(C1++(C2++D))=P++C1++C2++D:=by simp
   obtain⟨W,w1,w2,w3⟩:=qiI (C1.length+C2.length) P C1 C2 D P.length (P.length+s) (P.length+2*s) N (Nat.le_refl _) (by omega) (by omega) rfl (by omega) (by omega) (by simp;omega) hn (fun t ht=>hin t (by rw[e0];exact ht)) b1 b2;have hWl:W.length=2*s:=by rw[w1.length_eq];simp;omega
   have hPW:(P++W).length=P.length+2*s:=by simp;omega
   obtain⟨R1,R2,a,r1,r2,r3,r4,r5,r6,r7⟩:=ih (P++W) D (by simp at hk;omega) (by simp;omega) (fun t ht=>hin t (by
    simp only[List.mem_append]at ht⊢
    rcases ht with(h|h)|h
    ·simp[h]
    ·have:=w1.mem_iff.1 h
     simp only[List.mem_append]at this;rcases this with h|h<;>simp[h]
    ·simp[h])) b3
   refine⟨W++R1,R2,a,r1,by simp at r2⊢;omega,r3,?_,r5,fun Q hQ=>by rw[List.append_assoc];exact .cons W _ hWl w2 (r6 Q hQ),?_⟩
   ·rw[List.append_assoc]
    refine(w1.append r4).trans ?_;simp
   ·have e1:P++(W++R1)++R2=P++W++R1++R2:=by simp
    rw[e1,<-r7,hPW,e0];refine qbp (head _ _ _) ?_;have hle:(((P.length+2*s:Nat):Int)<=(N:Int)):=by omega
    have hw:IntKind.i64.wrap (((P.length+2*s:Nat):Int)+((2*s:Nat):Int))=((P.length+2*s+2*s:Nat):Int):=by rw[wrap_i64 (by omega) (by omega)];omega
    have hw2:IntKind.i64.wrap (2*(s:Int))=((2*s:Nat):Int):=by rw[wrap_i64 (by omega) (by omega)];omega
    have hw3:IntKind.i64.wrap ((P.length:Int)+s)=((P.length+s:Nat):Int):=by rw[wrap_i64 (by omega) (by omega)];omega
    generalize kc (P++C1++C2++D)=c1 at w3⊢
    generalize kc (P++W++D)=c2 at w3⊢
    generalize ((P.length+2*s+2*s:Nat):Int)=gv2 at*
    generalize ((P.length+2*s:Nat):Int)=v at*
    generalize ((P.length+s:Nat):Int)=gv3 at*
    generalize ((2*s:Nat):Int)=gv4 at*
    generalize (P.length:Int)=u at*
    generalize (s:Int)=gs at*
    generalize hgn:(N:Int)=w at*
    simp[qnP,quB,quG,quF,quE,hle,hw,hw2,hw3,w3]
end Go.Proofs.Ytfiakfiocdfpbaa.VS
namespace Go.Proofs.Ytfiakfiocdfpbaa.VS
theorem qrz(N:Nat)(hn:N<=1099511627776):∀(k s:Nat) (l:List T),N-s<=k->0<s->s<=2199023255552->l.length=N->(∀t,t∈l->t.inner<=1099511627776)->Blk s l->
 ∃(l':List T) (s':Nat),l'.Perm l/\Srt l'/\
  qbq XV [] 1 [0,1,2,6] qib ⟨[(0,.tsl true 0 3 N),(1,.d (.int .i64 N)),(2,.fn 6 []),(6,.d (.int .i64 s))],[some (kc l)]⟩=
   some (.exit 2,⟨[(0,.tsl true 0 3 N),(1,.d (.int .i64 N)),(2,.fn 6 []),(6,.d (.int .i64 s')),(30,.d (.bool false))],[some (kc l')]⟩):=by
 have head:∀(x:Int) (c:List AV),qaf 1 [0,1,2,6] ⟨[(0,.tsl true 0 3 N),(1,.d (.int .i64 N)),(2,.fn 6 []),(6,.d (.int .i64 x))],[some c]⟩=some ⟨[(0,.tsl true 0 3 N),(1,.d (.int .i64 N)),(2,.fn 6 []),(6,.d (.int .i64 x))],[some c]⟩:=fun x c=>by
  simp[qaf,qac,qaQ,qcB,qbg]
 have stop:∀(s:Nat) (l:List T),0<s->N<=s->l.length=N->Blk s l->∃(l':List T) (s':Nat),l'.Perm l/\Srt l'/\
  qbq XV [] 1 [0,1,2,6] qib ⟨[(0,.tsl true 0 3 N),(1,.d (.int .i64 N)),(2,.fn 6 []),(6,.d (.int .i64 s))],[some (kc l)]⟩=
   some (.exit 2,⟨[(0,.tsl true 0 3 N),(1,.d (.int .i64 N)),(2,.fn 6 []),(6,.d (.int .i64 s')),(30,.d (.bool false))],[some (kc l')]⟩):=fun s l hs h1 h2 h3=>by
  refine⟨l,s,List.Perm.refl _,h3.srt (by omega) hs,?_⟩;refine qaO (head _ _) ?_ (by simp);have hlt:¬((s:Int)<(N:Int)):=by omega
  generalize (s:Int)=v at*
  generalize (N:Int)=w at*
  simp[qib,qmN,hlt]
 intro k
 induction k with
 |zero=>intro s l hk hs hs2 hl hin hB;exact stop s l hs (by omega) hl hB
 |succ k ih=>
  intro s l hk hs hs2 hl hin hB
  by_cases hsN:N<=s
  ·exact stop s l hs hsN hl hB
  obtain⟨R1,R2,a,r1,r2,r3,r4,r5,r6,r7⟩:=qu2 N s hn hs (by omega) l.length [] l (Nat.le_refl _) (by simpa using hl) (by simpa using hin) hB;simp only[List.nil_append,List.length_nil,Nat.zero_add]at r2 r7;have hin2:∀t,t∈R1++R2->t.inner<=1099511627776:=fun t ht=>hin t (r4.mem_iff.1 ht)
  have hlen:R1.length+R2.length=N:=by omega
  obtain⟨W,w1,w2,w3⟩:∃W:List T,W.Perm R2/\Srt W/\((((a+s:Nat):Int)<(N:Int)/\qad XV 173 [.tsl true 0 3 N,.d (.int .i64 a),.d (.int .i64 (a+s:Nat)),.d (.int .i64 N),.fn 6 []] [some (kc (R1++R2))]=some (.d (.tup []),[some (kc (R1++W))]))\/(¬((a+s:Nat):Int)<(N:Int)/\W=R2)):=by
   by_cases h:a+s<N
   ·obtain⟨C,D,rfl,l1,b1,b2⟩:∃C D,R2=C++D/\C.length=s/\Srt C/\Blk s D:=by
     cases r5 with
     |last _ h1 _=>omega
     |cons c r h1 h2 h3=>exact⟨c,r,rfl,h1,h2,h3⟩
    have hDl:D.length<s:=by simp at r1;omega
    have hDl2:a+(s+D.length)=N:=by simp at r3;omega
    obtain⟨W,w1,w2,w3⟩:=qiI (C.length+D.length) R1 C D [] a (a+s) N N (Nat.le_refl _) (by omega) (by omega) r2 (by omega) (by omega) (by simp;omega) hn (fun t ht=>hin2 t (by simpa using ht)) b1 (b2.srt (by omega) hs);refine⟨W,w1,w2,.inl ⟨by omega,?_⟩⟩;have e1:R1++(C++D)=R1++C++D++[]:=by simp
    have e2:R1++W=R1++W++[]:=by simp
    rw[e1,e2];exact w3
   ·exact⟨R2,List.Perm.refl _,r5.srt (by omega) hs,.inr ⟨by omega,rfl⟩⟩
  have hWl:W.length=R2.length:=w1.length_eq;have hB2:Blk (2*s) (R1++W):=r6 W (.last W (by omega) w2);obtain⟨l',s',p1,p2,p3⟩:=ih (2*s) (R1++W) (by omega) (by omega) (by omega) (by simp;omega) (fun t ht=>hin2 t (by
   rcases List.mem_append.1 ht with h|h
   ·simp[h]
   ·simp[w1.mem_iff.1 h])) hB2
  refine⟨l',s',p1.trans ((List.Perm.refl R1).append w1|>.trans r4),p2,?_⟩;rw[<-p3];refine qbp (head _ _) ?_;have hlt:((s:Int)<(N:Int)):=by omega
  have hw2:IntKind.i64.wrap (2*(s:Int))=((2*s:Nat):Int):=by rw[wrap_i64 (by omega) (by omega)];omega
  have hw2':IntKind.i64.wrap ((s:Int)*2)=((2*s:Nat):Int):=by rw[wrap_i64 (by omega) (by omega)];omega
  have hw3:IntKind.i64.wrap ((a:Int)+s)=((a+s:Nat):Int):=by rw[wrap_i64 (by omega) (by omega)];omega
  simp only[Int.natCast_zero]at r7;rcases w3 with⟨g1,g2⟩|⟨g1,rfl⟩
  ·generalize kc (R1++W)=c3 at*
   generalize kc (R1++R2)=c2 at*
   generalize kc l=c1 at*
   generalize ((a+2*s:Nat):Int)=gv1 at*
   generalize ((a+s:Nat):Int)=gv3 at*
   generalize ((2*s:Nat):Int)=gv4 at*
   generalize (a:Int)=ga at*
   generalize (s:Int)=gs at*
   generalize hgn:(N:Int)=w at*
   simp[qib,qmN,quC,qja,qi9,qi8,qi7,hlt,hw2,hw2',hw3];rw[r7];simp[qja,qi9,qi8,qi7,hw2',hw3,g1,g2]
  ·generalize kc (R1++W)=c2 at*
   generalize kc l=c1 at*
   generalize ((a+2*s:Nat):Int)=gv1 at*
   generalize ((a+s:Nat):Int)=gv3 at*
   generalize ((2*s:Nat):Int)=gv4 at*
   generalize (a:Int)=ga at*
   generalize (s:Int)=gs at*
   generalize hgn:(N:Int)=w at*
   simp[qib,qmN,quC,qja,qi9,qi8,qi7,hlt,hw2,hw2',hw3];rw[r7];simp[qja,qi9,qi8,qi7,hw2',hw3,g1]
theorem qtG(l:List T)(hn:l.length<=1099511627776)(hin:∀t,t∈l->t.inner<=1099511627776):
 ∃l':List T,l'.Perm l/\Srt l'/\qad XV 171 [.tsl true 0 3 l.length,.d (.int .i64 l.length),.fn 6 []] [some (kc l)]=some (.d (.tup []),[some (kc l')]):=by
 obtain⟨R1,R2,a,r1,r2,r3,r4,r5,r6⟩:=qo8 l.length hn l.length [] l (Nat.le_refl _) (by simp) (by simpa using hin);simp only[List.nil_append,List.length_nil,Nat.zero_add]at r2 r6;have hin2:∀t,t∈R1++R2->t.inner<=1099511627776:=fun t ht=>hin t (r4.mem_iff.1 ht)
 obtain⟨W,w1,w2,w3⟩:=qgt R1 R2 [] a l.length l.length r2 (by omega) (by simp;omega) hn (fun t ht=>hin2 t (by simpa using ht));simp only[List.append_nil]at w3;have hWl:W.length=R2.length:=w1.length_eq;have hB:Blk 20 (R1++W):=r5 W (.last W (by omega) w2);obtain⟨l',s',p1,p2,p3⟩:=qrz l.length hn l.length 20 (R1++W) (by omega) (by omega) (by omega) (by simp;omega) (fun t ht=>hin2 t (by
  rcases List.mem_append.1 ht with h|h
  ·simp[h]
  ·simp[w1.mem_iff.1 h])) hB
 refine⟨l',p1.trans ((List.Perm.refl R1).append w1|>.trans r4),p2,?_⟩;rw[qaA XV _ _ _ qzu rfl qmq rfl];simp only[Int.natCast_zero,show((20:Nat):Int)=20 from rfl]at r6 p3;generalize kc (R1++W)=c3 at*
 generalize kc (R1++R2)=c2 at*
 generalize kc l=c1 at*
 generalize kc l'=c4 at*
 generalize ((a+20:Nat):Int)=gv1 at*
 generalize (a:Int)=ga at*
 generalize hgn:(l.length:Int)=w at*
 simp[qzu,quI,quH];rw[r6];simp[quD,w3];rw[p3];simp
theorem qlj(l:List T)(hn:l.length<=1099511627776)(hin:∀t,t∈l->t.inner<=1099511627776):
 ∃l':List T,l'.Perm l/\Srt l'/\qad XV 170 [.tsl true 0 3 l.length,.fn 6 []] [some (kc l)]=some (.d (.tup []),[some (kc l')]):=by
 obtain⟨l',h1,h2,h3⟩:=qtG l hn hin;refine⟨l',h1,h2,?_⟩;rw[qaA XV _ _ _ qzv rfl qmr rfl];generalize kc l'=c2 at*
 generalize kc l=c1 at*
 simp[qzv,quJ,h3]
end Go.Proofs.Ytfiakfiocdfpbaa.VS
namespace Go.Proofs.Ytfiakfiocdfpbaa.VS
mutual
theorem qzl:∀t:T,(t.enc U).allU=true
 | .node f v ks=>by
  have:=qhs ks;unfold T.enc;cases ks with
  |nil=>simp[T.encs,DV.allU,DV.allUs]
  |cons a r=>simp only[T.encs]at this⊢;simp[DV.allU,DV.allUs]at this⊢;exact this
theorem qhs:∀l:List T,DV.allUs (T.encs U l)=true
 | []=>by simp[T.encs,DV.allUs]
 |t::r=>by simp[T.encs,DV.allUs,qzl t,qhs r]
end
end Go.Proofs.Ytfiakfiocdfpbaa.VS
namespace Go.Proofs.Ytfiakfiocdfpbaa.VS
theorem qzk:∀l:List T,DV.allUs (l.map (T.enc U))=true:=fun l=>by rw[<-T.qdz];exact qhs l
def nB(f v:Int)(ks:List T):qak:=[some [.d (.int .i64 f),.d (.int .i64 v),.d (qao .sub ks)],some [.d (.int .i64 0),.d (.int .i64 0),.d (.sl U [])]]
theorem qFM(s:List SymL)(hs:s.length<=1099511627776)(f v:Int)(ks acc:List T)(hl:ks.length<=1099511627776)(i:Nat)(hi:i<ks.length)(hacc:acc.length<=1099511627776)(hk:((tAt ks i).norm s).kids.length<=1099511627776)
 (hc:qad XV 169 [.d (sg s),.d ((tAt ks i).enc .sub)] []=some (.d (((tAt ks i).norm s).enc U),[])):
 ∃e:qak,qau XV (XV.lin 169) qgO ⟨[(0,.d (sg s)),(3,.ptr 0 0),(4,.ptr 1 0),(5,.d (.sl U (acc.map (T.enc U)))),(10,.d (qao .sub ks)),(11,.d (.int .i64 ks.length)),(12,.d (.int .i64 i))],nB f v ks⟩=
  some (.normal,⟨[(0,.d (sg s)),(3,.ptr 0 0),(4,.ptr 1 0),(5,.d (.sl U ((acc++qpb s f ((tAt ks i).norm s)).map (T.enc U)))),(10,.d (qao .sub ks)),(11,.d (.int .i64 ks.length)),(12,.d (.int .i64 (i+1:Nat)))],nB f v ks++e⟩):=by
 have hw:=qaw (n:=i) (by omega);have hb:=qeR s hs f;have ht:=qaD hi;generalize tAt ks i=k at*
 generalize hn:k.norm s=n at*
 unfold qpb nB
 by_cases h1:qa9 s f=true
 ·by_cases h2:(n.f==f)=true
  ·have ha:=qj4 acc n.kids U (by omega)
   generalize hl2:(acc++n.kids).map (T.enc U)=l2 at ha;generalize acc.map (T.enc U)=l1 at ha⊢
   refine⟨[some [.d (.int .i64 n.f),.d (.int .i64 n.v),.d (qao .sub n.kids)]],?_⟩;simp[qgO,qhQ,qhP,qhO,qmU,qmT,qmS,qmR,qmQ,qmP,qmO,qd9,qjd,qjc,qjb,hi,hw,cut,ht,hc,hb,h1,h2,ha,hl2,splice,qaa,qaj,qag,qax,qae,AV.qaq]
  ·have ha:=qj4 acc [n] U (by simp;omega)
   have h2':(n.f==f)=false:=by simpa using h2
   simp only[List.map_cons,List.map_nil]at ha;generalize hl2:(acc++[n]).map (T.enc U)=l2 at ha;generalize acc.map (T.enc U)=l1 at ha⊢
   refine⟨[some [.d (.int .i64 n.f),.d (.int .i64 n.v),.d (qao .sub n.kids)]],?_⟩;simp[qgO,qhQ,qhP,qhO,qmU,qmT,qmS,qmR,qmQ,qmP,qmO,qd9,qjd,qjc,qjb,hi,hw,cut,ht,hc,hb,h1,h2',ha,hl2,splice,qaa,qaj,qag,qax,qae,AV.qaq]
 ·have h1':qa9 s f=false:=by simpa using h1
  have ha:=qj4 acc [n] U (by simp;omega);simp only[List.map_cons,List.map_nil]at ha;generalize hl2:(acc++[n]).map (T.enc U)=l2 at ha;generalize acc.map (T.enc U)=l1 at ha⊢
  refine⟨[some [.d (.int .i64 n.f),.d (.int .i64 n.v),.d (qao .sub n.kids)]],?_⟩;simp[qgO,qhQ,qhP,qhO,qmU,qmT,qmS,qmR,qmQ,qmP,qmO,qd9,qjd,qjc,qjb,hi,hw,cut,ht,hc,hb,h1',ha,hl2,splice,qaa,qaj,qag,qax,qae,AV.qaq]
end Go.Proofs.Ytfiakfiocdfpbaa.VS
namespace Go.Proofs.Ytfiakfiocdfpbaa.VS
theorem qoO(B:qak):qad XV 172 [.d (.sl .sub []),.d (.int .i64 0),.d (.int .i64 0),.fn 6 []] B=some (.d (.tup []),B):=by
 rw[qaA XV _ _ _ qw0 rfl qiD rfl];have hlo:qbq XV [46,50] B.length [0,1,2,3,8] qia ⟨[(0,.d (.sl .sub [])),(1,.d (.int .i64 0)),(2,.d (.int .i64 0)),(3,.fn 6 []),(8,.d (.int .i64 1))],B⟩=some (.exit 0,⟨[(0,.d (.sl .sub [])),(1,.d (.int .i64 0)),(2,.d (.int .i64 0)),(3,.fn 6 []),(8,.d (.int .i64 1)),(14,.d (.bool false))],B⟩):=by
  refine qaO (s0:=⟨[(0,.d (.sl .sub [])),(1,.d (.int .i64 0)),(2,.d (.int .i64 0)),(3,.fn 6 []),(8,.d (.int .i64 1))],B⟩) (by simp[qaf,qac,qaQ,qcB,qbg]) ?_ (by simp);simp[qia,qky]
 simp[qw0,qmM,wrap_i64];rw[hlo];simp
theorem qx1(B:qak):qad XV 170 [.d (.sl .sub []),.fn 6 []] B=some (.d (.tup []),B):=by
 have hi:=qoO B;have h1:qbq XV [] B.length [0,1,2,6,7,8] qjY ⟨[(0,.d (.sl .sub [])),(1,.d (.int .i64 0)),(2,.fn 6 []),(6,.d (.int .i64 20)),(7,.d (.int .i64 0)),(8,.d (.int .i64 20))],B⟩=some (.exit 0,⟨[(0,.d (.sl .sub [])),(1,.d (.int .i64 0)),(2,.fn 6 []),(6,.d (.int .i64 20)),(7,.d (.int .i64 0)),(8,.d (.int .i64 20)),(13,.d (.bool false))],B⟩):=by
  refine qaO (s0:=⟨[(0,.d (.sl .sub [])),(1,.d (.int .i64 0)),(2,.fn 6 []),(6,.d (.int .i64 20)),(7,.d (.int .i64 0)),(8,.d (.int .i64 20))],B⟩) (by simp[qaf,qac,qaQ,qcB,qbg]) ?_ (by simp);simp[qjY,qpI]
 have h2:qbq XV [] B.length [0,1,2,6] qib ⟨[(0,.d (.sl .sub [])),(1,.d (.int .i64 0)),(2,.fn 6 []),(6,.d (.int .i64 20))],B⟩=some (.exit 2,⟨[(0,.d (.sl .sub [])),(1,.d (.int .i64 0)),(2,.fn 6 []),(6,.d (.int .i64 20)),(30,.d (.bool false))],B⟩):=by
  refine qaO (s0:=⟨[(0,.d (.sl .sub [])),(1,.d (.int .i64 0)),(2,.fn 6 []),(6,.d (.int .i64 20))],B⟩) (by simp[qaf,qac,qaQ,qcB,qbg]) ?_ (by simp);simp[qib,qmN]
 have h3:qad XV 171 [.d (.sl .sub []),.d (.int .i64 0),.fn 6 []] B=some (.d (.tup []),B):=by
  rw[qaA XV _ _ _ qzu rfl qmq rfl];simp[qzu,quI,quH];rw[h1];simp[quD,hi];rw[h2];simp
 rw[qaA XV _ _ _ qzv rfl qmr rfl];simp[qzv,quJ,h3]
end Go.Proofs.Ytfiakfiocdfpbaa.VS
namespace Go.Proofs.Ytfiakfiocdfpbaa.VS
theorem qB9(s:List SymL)(hs:s.length<=1099511627776)(f v:Int)(ks:List T)(hl:qdE ks<=1099511627776)
 (hc:∀t,t∈ks->qad XV 169 [.d (sg s),.d (t.enc .sub)] []=some (.d ((t.norm s).enc U),[])):∀(k i:Nat),i+k=ks.length->∀e:qak,
 qbq XV (XV.lin 169) 2 [0,3,4,5,10,11,12] qgO ⟨[(0,.d (sg s)),(3,.ptr 0 0),(4,.ptr 1 0),(5,.d (.sl U ((qqG s f ks i).map (T.enc U)))),(10,.d (qao .sub ks)),(11,.d (.int .i64 ks.length)),(12,.d (.int .i64 i))],nB f v ks++e⟩=
  some (.exit 0,⟨[(0,.d (sg s)),(3,.ptr 0 0),(4,.ptr 1 0),(5,.d (.sl U ((flatK s f (T.norms s ks)).map (T.enc U)))),(10,.d (qao .sub ks)),(11,.d (.int .i64 ks.length)),(12,.d (.int .i64 ks.length)),(13,.d (.bool false))],nB f v ks⟩):=by
 have head:∀(x y:AV) (e:qak),y.clr=y->x.safe 2=true->y.safe 2=true->qaf 2 [0,3,4,5,10,11,12] ⟨[(0,.d (sg s)),(3,.ptr 0 0),(4,.ptr 1 0),(5,x),(10,.d (qao .sub ks)),(11,.d (.int .i64 ks.length)),(12,y)],nB f v ks++e⟩=some ⟨[(0,.d (sg s)),(3,.ptr 0 0),(4,.ptr 1 0),(5,x),(10,.d (qao .sub ks)),(11,.d (.int .i64 ks.length)),(12,y)],nB f v ks⟩:=fun x y e hy hx hy2=>
  qfj (by simp) (by simp[qac,hx,hy2]) (by simp[nB]) rfl
 intro k
 induction k with
 |zero=>
  intro i hi e;have:i=ks.length:=by omega
  subst this;refine qaO (head _ _ e (by simp) (by simp) (by simp)) ?_ (by simp);rw[qqF];simp[qgO,qhQ,qhP,qhO,qmU,qmT,qmS,qmR,qmQ,qmP,qmO,qd9,qjd,qjc,qjb]
 |succ k ih=>
  intro i hi e;have hlt:i<ks.length:=by omega
  have hm:=qaM hlt;have h1:=qdh hm;have h2:=qfi s (tAt ks i);have h3:=qnV s f ks i;have h4:=qdu (qqG s f ks i);have h5:((tAt ks i).norm s).kids.length<=1099511627776:=by have:=qdu ((tAt ks i).norm s).kids;rw[qjP]at this;omega
  obtain⟨e',he⟩:=qFM s hs f v ks (qqG s f ks i) (by have:=qdu ks;omega) i hlt (by omega) h5 (hc _ hm);rw[<-ih (i+1) (by omega) e',qnU s f ks i hlt];exact qbp (head _ _ e (by simp) (by simp) (by simp)) he
theorem qE8(s:List SymL)(hs:s.length<=1099511627776)(f v:Int)(ks:List T)(hl:qdE ks<=1099511627776)
 (hc:∀t,t∈ks->qad XV 169 [.d (sg s),.d (t.enc .sub)] []=some (.d ((t.norm s).enc U),[])):
 qau XV (XV.lin 169) qmI.pre ⟨qah 0 [.d (sg s),.d ((T.node f v ks).enc .sub)],[]⟩=
  some (.normal,⟨[(3,.ptr 0 0),(4,.ptr 1 0),(5,.d (.sl U ((flatK s f (T.norms s ks)).map (T.enc U)))),(42,.d (.bool (qa9 s f)))],nB f v ks⟩):=by
 have hloop:=qB9 s hs f v ks hl hc ks.length 0 (by omega) [];have hb:=qeR s hs f;simp only[qnT,List.map_nil,List.append_nil,qCj,nB,Int.natCast_zero]at hloop;simp[qmI,qeq,qhQ,qhP,qhO,qd9,splice,qaa,qaj,qag,qax,qae,AV.qaq,nB];rw[hloop];simp[qd9,hb,qae]
theorem qyE:∀l:List T,((l.map (T.enc U)).flatMap DV.cells).map AV.d=kc l:=fun l=>by rw[qvn];rfl
theorem qx0(t:T)(r:List T)(hl:qdE (t::r)<=1099511627776):qgS (qad XV) qmI (t.enc U) (r.map (T.enc U))=some ((qee (t::r)).map (T.enc U)):=by
 have hlen:=qdu (t::r);obtain⟨l',p1,p2,p3⟩:=qlj (t::r) (by omega) (fun x hx=>by have:=qdh hx;omega);have he:=qqa p1 p2;have hu:=qzk (t::r);have hk:=qyE (t::r);simp only[List.map_cons]at hu hk;unfold qgS;rw[if_pos hu,hk];have e1:(T.enc U t).cells.length=3:=by simp
 have e2:(r.map (T.enc U)).length+1=(t::r).length:=by simp
 rw[e1,e2];have e3:qad XV qmI.srt [.tsl true 0 3 (t::r).length,.fn qmI.cmp []] [some (kc (t::r))]=some (.d (.tup []),[some (kc l')]):=p3;rw[e3];have hll:l'.length=(t::r).length:=p1.length_eq;have e4:qay (kc l')=some (flat (l'.map (T.enc U))):=by rw[qvn];exact qwc _
 have e5:=qkS (l'.map (T.enc U)) (qCF U l');have e6:(flat (l'.map (T.enc U))).length=(t::r).length*3:=by
  have:=qbn e4;have h2:=qgs l';rw[this,List.length_map]at h2;rw[h2,hll]
 simp only[e4,Option.bind_some];rw[if_pos e6,<-hll];rw[List.length_map]at e5;rw[e5,he]
theorem qmB{X:XEnv}{T:List Nat}{sf:SFn}{ds:List DV}{S:XS}{x:DV}{xr:List DV}{y:DV×DV}{q:List DV}(hn:ds.length=sf.np)(hp:qau X T sf.pre ⟨qah 0 (ds.map .d),[]⟩=some (.normal,S))
 (h1:lk S.r sf.cond=some (.d (.bool true))) (h2:lk S.r sf.row=some (.d (.sl U (x::xr)))) (h3:qgQ S=some y) (h4:qgS (qad X) sf x xr=some q):qld X T sf ds=some (.agg [y.1,y.2,.sl U q]):=by
 unfold qld;rw[if_neg (by simpa using hn),hp];simp only[Option.bind_some];rw[h1,h2];simp only[U];rw[h3];simp only[Option.bind_some,h4,Option.map_some]
theorem qoP(s:List SymL)(hs:s.length<=1099511627776)(f v:Int)(ks:List T)(hl:qdE ks<=1099511627776)
 (hc:∀t,t∈ks->qad XV 169 [.d (sg s),.d (t.enc .sub)] []=some (.d ((t.norm s).enc U),[])):
 qad XV 169 [.d (sg s),.d ((T.node f v ks).enc .sub)] []=some (.d (((T.node f v ks).norm s).enc U),[]):=by
 have hp:=qE8 s hs f v ks hl hc;have hcn:qdE (flatK s f (T.norms s ks))<=1099511627776:=by
  have:=qfp s f (T.norms s ks);have:=qfo s ks;omega
 rw[qsi XV 169 _ _ qmI rfl qsO qsH];simp only[qay,Option.bind_some,Option.map_some];have slow:qld XV (XV.lin 169) qmI [sg s,(T.node f v ks).enc .sub]=qld XV (XV.lin 169) qmI [sg s,(T.node f v ks).enc .sub]:=rfl
 conv at slow=>rhs;unfold qld
 rw[if_neg (by simp[qmI,qeq])]at slow;simp only[List.map_cons,List.map_nil]at slow;rw[hp]at slow;simp only[T.norm]
 by_cases hb:qa9 s f=true
 ·rw[if_pos hb]
  cases hq:flatK s f (T.norms s ks)with
  |nil=>
   rw[slow];have hz:qee ([]:List T)=[]:=rfl;have hsn:=qx1 (nB f v ks);simp only[nB]at hsn;simp[qmI,qeq,hb,hq,lk,nB,hz,hsn,splice,qaa,qaj,qag,qax,qae];rw[T.qcn];rfl
  |cons x r=>
   rw[hq]at hcn;have hr:=qx0 x r hcn;have:=qmB (X:=XV) (T:=XV.lin 169) (sf:=qmI) (ds:=[sg s,(T.node f v ks).enc .sub]) (x:=x.enc U) (xr:=r.map (T.enc U)) (y:=(.int .i64 f,.int .i64 v)) rfl hp (by simp[qmI,qeq,lk,hb]) (by simp[qmI,qeq,lk,hq]) (by simp[qgQ,lk,nB,DV.flat,qaa]) hr;rw[this];simp only[Option.map_some];rw[T.qcn];rfl
 ·rw[if_neg hb,slow]
  have hb':qa9 s f=false:=by simpa using hb
  simp[qmI,qeq,hb',lk,nB,splice,qaa,qaj,qag,qax,qae]
theorem qjz(s:List SymL)(hs:s.length<=1099511627776)(t:T)(ht:t.inner<=1099511627776):qad XV 169 [.d (sg s),.d (t.enc .sub)] []=some (.d ((t.norm s).enc U),[]):=by
 match t,ht with
 | .node f v ks,ht=>
  rw[T.qfs]at ht;exact qoP s hs f v ks ht fun x hx=>qjz s hs x (by have:=qdh hx;omega)
termination_by t
decreasing_by
 simp_wf
 have:=List.sizeOf_lt_of_mem hx;omega
end Go.Proofs.Ytfiakfiocdfpbaa.VS
namespace Go.Proofs.Ytfiakfiocdfpbaa.VS
abbrev ts(l:List Bd):List T:=l.map Bd.t
end Go.Proofs.Ytfiakfiocdfpbaa.VS
namespace Go.Proofs.Ytfiakfiocdfpbaa.VS
end Go.Proofs.Ytfiakfiocdfpbaa.VS
namespace Go.Proofs.Ytfiakfiocdfpbaa.VS
end Go.Proofs.Ytfiakfiocdfpbaa.VS
namespace Go.Proofs.Ytfiakfiocdfpbaa.VS
end Go.Proofs.Ytfiakfiocdfpbaa.VS
namespace Go.Proofs.Ytfiakfiocdfpbaa.VS
end Go.Proofs.Ytfiakfiocdfpbaa.VS
namespace Go.Proofs.Ytfiakfiocdfpbaa.VS
def IsV(d:DV)(a:T):Prop:=∃(g:Tag) (X:List DV),d= .agg [.int .i64 a.f,.int .i64 a.v,.sl g X]/\X.map DV.clr=a.kids.map (T.enc .sub)
theorem IsV.clr{d:DV}{a:T}(h:IsV d a):d.clr=a.enc .sub:=by
 obtain⟨g,X,rfl,hX⟩:=h;simp only[DV.clr,DV.clrs];rw[DV.qaq,hX,T.qcn]
end Go.Proofs.Ytfiakfiocdfpbaa.VS
namespace Go.Proofs.Ytfiakfiocdfpbaa.VS
theorem qkj(bs:List Int)(hl:bs.length<=maxLen):∃B,qad XV 366 [.d (.sl .sub (bs.map (.int .u8)))] []=some (.d (.bool true),B):=by
 rw[qaA XV _ _ _ qzs rfl qsY rfl];have hbig:=qGD bs
 by_cases h1:1048576<bs.length
 ·simp only[h1,decide_true]at hbig
  simp[qzs,qpy,qpx,qpw,qpv,qpu,qwi,qpt,qwh,hbig]
 have hls:bs.length<=1099511627776:=by omega
 simp only[h1,decide_false]at hbig;obtain⟨l,g,t,hD,⟨ht,_⟩,d1⟩:=ql4 bs hls;obtain⟨m,g',w,hE,⟨hw,_⟩,d2⟩:=ql3 bs hls;have hl9:=hD.len;have hm9:=hE.len;have t1:=qlU l (by omega) (hD.nm _ (by omega)) t (by omega);have t2:=qlf l (by omega) (hD.nm _ (by omega)) t (by omega);have w1:=qeg m (by omega) w (by omega);have w2:=qfR m (by omega) w (by omega);have w3:=qeg l (by omega) t (by omega);have n1:=qjz l (by omega) t (by omega);have s1:=qtN t (by omega);have hok:qdB l t=true->t.norm l=t/\1<=qk9 l t:=fun h=>by
  refine⟨qog l t h,?_⟩;rw[qqV l t (by omega)];exact qkp l t (qmx h).2.1
 simp only[sg]at t1 t2 w1 w2 w3 n1;have q1:(l.map SymL.enc).map DV.clr=l.map SymL.enc:=qdV _;have q2:(m.map SymL.enc).map DV.clr=m.map SymL.enc:=qdV _;generalize hql:l.map SymL.enc=lq at*
 generalize hqm:m.map SymL.enc=mq at*
 rw[show IntKind.i64.wrap (T.sum (wW l) t)=qk9 l t from rfl]at w3;generalize IntKind.i64.wrap (T.sum (wW m) w)=x at*
 generalize qk9 l t=y at*
 refine⟨[],?_⟩;cases hb:qdB l t with
 |true=>
  obtain⟨h3,h4⟩:=hok hb;rw[hb]at t1 t2;rw[h3]at n1;obtain⟨tf,tv,tk⟩:=t;obtain⟨wf,wv,wk⟩:=w;simp[qzs,qpy,qpx,qpw,qpv,qpu,qwi,qpt,qwh,hbig,d1,d2,t1,t2,w1,w2,w3,n1,s1,q1,q2,h4,splice,qaa,qaj,qag,qax,qae]
 |false=>
  rw[hb]at t1 t2;obtain⟨tf,tv,tk⟩:=t;obtain⟨wf,wv,wk⟩:=w;simp[qzs,qpy,qpx,qpw,qpv,qpu,qwi,qpt,qwh,hbig,d1,d2,t1,t2,w1,w2,w3,q1,q2,splice,qaa,qaj,qag,qax,qae]
end Go.Proofs.Ytfiakfiocdfpbaa.VS
namespace Go.Proofs.Ytfiakfiocdfpbaa.VS
mutual
def TT.erase:TT->T
 | .node f v g ks=> .node f v (TT.erases ks)
def TT.erases:List TT->List T
 | []=>[]
 |t::r=>t.erase::TT.erases r
end
mutual
theorem TT.qcG:∀t:TT,DV.clrs t.cells=[.int .i64 t.erase.f,.int .i64 t.erase.v,qao .sub t.erase.kids]
 | .node f v g ks=>by
  simp only[TT.cells,DV.clrs,DV.clr,TT.erase,T.qdp,T.qet,T.qaS,qao];rw[TT.qep ks]
theorem TT.qep:∀l:List TT,DV.clrs (TT.encs l)=(TT.erases l).map (T.enc .sub)
 | []=>by simp[TT.encs,DV.clrs,TT.erases]
 |t::r=>by
  simp only[TT.encs,DV.clrs,DV.clr,TT.erases,List.map_cons];rw[TT.qcG t,TT.qep r,T.qcn]
end
theorem TT.qe8(t:TT):t.enc.clr=t.erase.enc .sub:=by
 simp only[TT.enc,DV.clr];rw[TT.qcG,T.qcn]
theorem qru(hX:XOK XV){k:Nat}{vs:List DV}(h:∃B,qad XV k ((DV.clrs vs).map .d) []=some (.d (.bool true),B)):∃A B,qsl E [] k (vs.map .d) [] Ids.none=some ⟨.d (.bool true),A,B⟩:=by
 obtain⟨B,h⟩:=h;obtain⟨u,A,Bv,h1,h2⟩:=qyz hX (DV.qcp vs) (DV.qco vs) (d:= .bool true) (by simp[DV.clr]) h;simp only[DV.fit]at h2;subst h2
 exact⟨A,Bv,h1⟩
theorem qJI{P:Program}{a:TypeId}:∀{xs:List (List DV)},qDy P [a] xs->∃x,xs=[x]
 | [x],_=>⟨x,rfl⟩
 | [],h=>h.elim
 |_::_::_,h=>h.2.elim
end Go.Proofs.Ytfiakfiocdfpbaa.VS
namespace Go.Proofs.Ytfiakfiocdfpbaa.VS
structure L where
 p:Bool
 a:T
 b:T
def L.enc(g:Tag)(x:L):DV:= .agg [.bool x.p,.int .i64 x.a.f,.int .i64 x.a.v,qao g x.a.kids,.int .i64 x.b.f,.int .i64 x.b.v,qao g x.b.kids]
def L.ok(x:L):Prop:=x.a.ok/\x.b.ok
@[simp] theorem L.qnZ(g:Tag)(x:L):(x.enc g).cells=[.bool x.p,.int .i64 x.a.f,.int .i64 x.a.v,qao g x.a.kids,.int .i64 x.b.f,.int .i64 x.b.v,qao g x.b.kids]:=rfl
@[simp] theorem L.qk5(g:Tag)(x:L):(AV.d (x.enc g)).cells=[.d (.bool x.p),.d (.int .i64 x.a.f),.d (.int .i64 x.a.v),.d (qao g x.a.kids),.d (.int .i64 x.b.f),.d (.int .i64 x.b.v),.d (qao g x.b.kids)]:=rfl
@[simp] theorem L.qk4(g:Tag)(x:L):(x.enc g).isCell=false:=rfl
@[simp] theorem L.qe8(g:Tag)(x:L):(x.enc g).clr=x.enc .sub:=by
 simp only[L.enc,DV.clr,DV.clrs,qao,DV.qaq,qcD]
theorem L.agg_enc(g:Tag)(x:L):DV.agg [.bool x.p,.int .i64 x.a.f,.int .i64 x.a.v,qao g x.a.kids,.int .i64 x.b.f,.int .i64 x.b.v,qao g x.b.kids]=x.enc g:=rfl
def L.cmp(x y:L):Int:=if !x.p&&y.p then-1 else if x.p&& !y.p then 1 else if T.cmp x.a y.a≠0 then T.cmp x.a y.a else T.cmp x.b y.b
def L.same(x y:L):Bool:=x.p==y.p&&(T.cmp x.a y.a==0)&&(T.cmp x.b y.b==0)
theorem L.cmp_zero(x y:L):(L.cmp x y==0)=L.same x y:=by
 obtain⟨p,a,b⟩:=x;obtain⟨q,a',b'⟩:=y;unfold L.cmp L.same;cases p<;>cases q<;>by_cases c:T.cmp a a'=0<;>simp[c]
end Go.Proofs.Ytfiakfiocdfpbaa.VS
namespace Go.Proofs.Ytfiakfiocdfpbaa.VS
variable {P:Program}
structure LL where
 p:Bool
 a:TT
 b:TT
def LL.cells(x:LL):List DV:= .bool x.p::(x.a.cells++x.b.cells)
def LL.enc(x:LL):DV:= .agg x.cells
def LL.ok(x:LL):Prop:=x.a.ok/\x.b.ok
def LL.erase(x:LL):L:=⟨x.p,x.a.erase,x.b.erase⟩
theorem LL.qe8(x:LL):x.enc.clr=x.erase.enc .sub:=by
 have ha:=TT.qcG x.a;have hb:=TT.qcG x.b;rw[DV.qaq]at ha hb;simp only[LL.enc,LL.cells,DV.clr,DV.qaq,List.map_cons,List.map_append,ha,hb,LL.erase,L.enc];rfl
theorem qmG{α:Type}(c:α->List DV)(ok:α->Prop){t e:TypeId}{x:List DV}(hu:P.underlying t=some (.slice e))(hE:∀y:List DV,Shape P e y->∃s:α,y=c s/\ok s)(h:Shape P t x):
 ∃(g:Tag) (l:List α),x=[.sl g (l.map fun s=>qbO P e (c s))]/\l.length<=maxLen/\∀s,s∈l->ok s:=by
 obtain⟨g,xs,rfl,q1,q2,q3,q4⟩:=qop hu h;have key:∀xs:List DV,(∀y:DV,y∈xs->y=qbO P e y.cells)->(∀y:DV,y∈xs->Shape P e y.cells)->∃l:List α,xs=(l.map fun s=>qbO P e (c s))/\∀s,s∈l->ok s:=by
  intro xs
  induction xs with
  |nil=>intro _ _;exact⟨[],rfl,by simp⟩
  |cons y r ih=>
   intro p1 p2;obtain⟨l,rfl,hl⟩:=ih (fun z hz=>p1 z (by simp[hz])) (fun z hz=>p2 z (by simp[hz]));obtain⟨s,hs,hok⟩:=hE _ (p2 y (by simp));refine⟨s::l,?_,by simpa[hok]using hl⟩;have:=p1 y (by simp);rw[hs]at this;rw[List.map_cons,<-this]
 obtain⟨l,rfl,hl⟩:=key xs q3 q4;exact⟨g,l,rfl,by simpa using q1,hl⟩
structure BB where
 v:Int
 t:TT
def BB.cells(x:BB):List DV:= .int .i64 x.v::x.t.cells
def BB.enc(x:BB):DV:= .agg x.cells
def BB.ok(x:BB):Prop:=(-9223372036854775808<=x.v/\x.v<=9223372036854775807)/\x.t.ok
def BB.erase(x:BB):Bd:=⟨x.v,x.t.erase⟩
theorem BB.qe8(x:BB):x.enc.clr=x.erase.enc .sub:=by
 have ha:=TT.qcG x.t;rw[DV.qaq]at ha;simp only[BB.enc,BB.cells,DV.clr,DV.qaq,List.map_cons,ha,BB.erase,Bd.enc]
def qnH(g:Tag)(l:List Int):DV:= .sl g (l.map (.int .u8))
theorem qr9(g:Tag)(l:List Int):(qnH g l).clr= .sl .sub (l.map (.int .u8)):=by
 simp only[qnH,qAF,List.map_map,Function.comp_def,qo6]
theorem qoq{t e:TypeId}{x:List DV}(hu:P.underlying t=some (.slice e))(he:P.underlying e=some (.int .u8))(h:Shape P t x):∃g l,x=[qnH g l]/\l.length<=maxLen:=by
 obtain⟨g,l,rfl,h1,_⟩:=qmG (fun n:Int=>[DV.int .u8 n]) (fun _=>True) hu (fun y hy=>by
  obtain⟨n,rfl,_⟩:=qtL he hy;exact⟨n,rfl,trivial⟩) h
 exact⟨g,l,by simp[qnH,qbO,he],h1⟩
end Go.Proofs.Ytfiakfiocdfpbaa.VS
namespace Go.Proofs.Ytfiakfiocdfpbaa.VS
open Go.RowKit
variable {P:Program} {fid:Nat->FuncId}
structure IntsAt(w:World)(base:Option Addr)(n c:Nat)(xs:List Int):Prop where
 len:xs.length=n
 cap:n<=c
 lim:(n+1)*8<=140737488355328
 capm:c<=maxLen
 nil:base=none->n=0/\c=0
 cell:∀ad,base=some ad->0<n->ad.spot=none/\∀(j:Nat) (x:Int),xs[j]?=some x->w.cell? ⟨ad.block,ad.off+j,none⟩=some (.int .i64 x)
theorem qC2{w:World}{b o:Nat}{v:Value}(h:w.cell? ⟨b,o,none⟩=some v):b<w.heap.size:=by
 unfold World.cell? at h;split at h
 ·rename_i h1;exact(Array.getElem?_eq_some_iff.1 h1).1
 ·simp at h
theorem IntsAt.lt{w:World}{base:Option Addr}{n c:Nat}{xs:List Int}(h:IntsAt w base n c xs){ad:Addr}(hb:base=some ad)(hn:0<n):ad.block<w.heap.size:=by
 have h0:xs[0]?=some xs[0]!:=by have:=h.len;cases xs with|nil=>simp at this;omega|cons a r=>simp
 exact qC2 ((h.cell ad hb hn).2 0 _ h0)
end Go.Proofs.Ytfiakfiocdfpbaa.VS
