/- Contracts of the program's functions on the evaluator without names, and plain lemmas: part 3. -/
import Derived.Test.YtfiakfiocdfpbaaXP2
import Derived.Test.YtfiakfiocdfpbaaNat1
import Derived.Test.YtfiakfiocdfpbaaEngC
import Derived.Shelf.Spec.SlicesInsertGrow
import Derived.Laws.AppendOwn
set_option linter.unusedSimpArgs false
set_option linter.unusedVariables false
namespace Go.Proofs.Ytfiakfiocdfpbaa.VS
theorem quB(bs:List Int)(hl:bs.length<=1099511627776)(pos st:Int)(hp:0<=pos/\pos<=bs.length):
 ∃(t:T) (g:Tag) (pos' st':Int),(t.inner<=14/\t.rng)/\(0<=pos'/\pos'<=bs.length)/\qac XV 161 [.ptr 0 0] [some (qbj bs pos st)]=some (.d (t.enc g),[some (qbj bs pos' st')]):=by
 have hs0:qcE bs 0 [some (qbj bs pos st),some [.d (.int .i64 0),.d (.int .i64 0),.d (.sl U [])],none,none,none,none]:=⟨pos,st,hp,rfl⟩;obtain⟨t0,B1,hi0,_,⟨pos1,st1,hp1,rfl⟩,hc⟩:=qeJ bs hl 3 (by omega) _ 0 hs0;simp only[List.set_cons_zero]at hc;obtain⟨f,v,ks⟩:=t0;have hW:WS bs 5 0 [some (qbj bs pos1 st1),some [.d (.int .i64 0),.d (.int .i64 0),.d (.sl U [])],none,none,none,some [.d (.int .i64 f),.d (.int .i64 v),.d (.sl U (ks.map (T.enc U)))]] [] [] f v ks 0:=by
  refine⟨rfl,by omega,rfl,⟨pos1,st1,hp1,rfl⟩,rfl,fun i h1 h2=> ?_,rfl,fun rs hr=> ?_,Ctx.base _,by omega,hi0.2⟩
  ·rcases i with _|_|_|_|_|i<;>first|omega|rfl
  ·simp[qgI rs hr bs pos1 st1,qeq]
 obtain⟨j,k,B2,A,D,f',v',ks',N,hW2,hloop⟩:=qBo bs hl 3 5 0 _ [] [] f v ks 0 rfl hW ⟨[(0,.ptr 0 0),(2,.ptr 1 0),(3,.ptr 5 0),(4,.ptr 5 0),(5,.d (.int .i64 0))],[some (qbj bs pos1 st1),some [.d (.int .i64 0),.d (.int .i64 0),.d (.sl U [])],none,none,none,some [.d (.int .i64 f),.d (.int .i64 v),.d (.sl U (ks.map (T.enc U)))]]⟩ (by simp[qai,qab]);have hcase:=qsd bs hl hW2 (.int .i64 k) (.bool false);have start:∀q:Option (AV×qaj),qDd 1 [.cell 2 true 3] (qaD XV (XV.lin 161) (.seq qdC qlI) ⟨[(0,.ptr 0 0),(2,.ptr 1 0),(3,.ptr 5 0),(4,.ptr j (A.length*3)),(5,.d (.int .i64 k)),(22,.d (.bool false))],B2⟩)=q->qac XV 161 [.ptr 0 0] [some (qbj bs pos st)]=q:=by
  intro q hq;rw[qAa XV _ _ _ qCq rfl qsW rfl (m:=1) rfl rfl,qAG];simp only[qkx,qnh,qcT];rw[<-hq];simp only[quw]at hloop⊢
  generalize VCode.seq qdC qlI=G;simp[qub,qua,qt9,qt8,hc,splice,qag,qao,qaq,qaL];rw[hloop];simp
 rcases hcase with⟨r',B',e1,e2,e3,hlen,⟨pos2,st2,hp2,hb⟩,hone,c5,ds5,t',q1,q2,q3,q4,q5⟩|⟨t,g,B',e1,⟨pos2,st2,hp2,hb⟩,hlen,hone,hi,hir⟩
 ·obtain⟨C,hf⟩:=qFy B' (some (qbj bs pos2 st2)) none _ _ _ hlen (qc9 hb) hone r' e2 e3 t' c5 ds5 q1 q2 q3
  refine⟨t',.sub,pos2,st2,⟨by omega,q5⟩,hp2,start _ ?_⟩;rw[qeK,e1];simp only[qhn];unfold qlI;rw[hf];obtain⟨f2,vw2,ks2⟩:=t';simp[qaf]
 ·refine⟨t,g,pos2,st2,⟨hi,hir⟩,hp2,start _ ?_⟩
  rw[qeK,e1];simp only[ql8];obtain⟨f2,vw2,ks2⟩:=t
  match B',hlen with
  | [b0,b1,b2,b3,b4,b5],_=>
   have hb0:=qc9 hb;simp at hb0 hone;subst hb0;subst hone
   simp[qaf]
end Go.Proofs.Ytfiakfiocdfpbaa.VS
namespace Go.Proofs.Ytfiakfiocdfpbaa.VS
theorem qhd(bs:List Int)(pos st:Int):qaA (qbj bs pos st)=some [.sl .sub (bs.map (.int .u8)),.int .i64 pos,.int .i64 st]:=by simp[qbj]
end Go.Proofs.Ytfiakfiocdfpbaa.VS
namespace Go.Proofs.Ytfiakfiocdfpbaa.VS
end Go.Proofs.Ytfiakfiocdfpbaa.VS
namespace Go.Proofs.Ytfiakfiocdfpbaa.VS
end Go.Proofs.Ytfiakfiocdfpbaa.VS
namespace Go.Proofs.Ytfiakfiocdfpbaa.VS
end Go.Proofs.Ytfiakfiocdfpbaa.VS
namespace Go.Proofs.Ytfiakfiocdfpbaa.VS
end Go.Proofs.Ytfiakfiocdfpbaa.VS
namespace Go.Proofs.Ytfiakfiocdfpbaa.VS
def c00:Option (List AV):=some [.d (.int .i64 0),.d (.int .i64 0),.d (.sl U [])]
theorem quA(bs:List Int)(hl:bs.length<=1099511627776):∃(a b:T),(a.inner<=14/\a.rng)/\(b.inner<=14/\b.rng)/\qac XV 180 [.d (.sl .sub (bs.map (.int .u8)))] []=some (.d (.tup [.sl U (qe7.map SymL.enc),a.enc .sub,b.enc .sub]),[]):=by
 obtain⟨st,h1⟩:=qx4 bs hl [c00,c00];obtain⟨r,B1,hr,⟨p1,s1,hp1,rfl⟩,hc1⟩:=qcp bs hl [c00,c00,some (qbj bs 0 st)] 2 ⟨0,st,⟨Int.le_refl _,by omega⟩,rfl⟩ 3 (by omega) (by omega);obtain⟨a,B2,ha,_,⟨p2,s2,hp2,rfl⟩,hc2⟩:=qeJ bs hl r (by omega) [c00,c00,some (qbj bs p1 s1),none] 2 ⟨p1,s1,hp1,rfl⟩;obtain⟨af,av,ak⟩:=a;obtain⟨b,B3,hb,_,⟨p3,s3,hp3,rfl⟩,hc3⟩:=qeJ bs hl r (by omega) [c00,c00,some (qbj bs p2 s2),some [.d (.int .i64 af),.d (.int .i64 av),.d (qam U ak)],none] 2 ⟨p2,s2,hp2,rfl⟩;obtain⟨bf,bv,bk⟩:=b;obtain⟨q,B4,hq,⟨p4,s4,hp4,rfl⟩,hc4⟩:=qcp bs hl [c00,c00,some (qbj bs p3 s3),some [.d (.int .i64 af),.d (.int .i64 av),.d (qam U ak)],some [.d (.int .i64 bf),.d (.int .i64 bv),.d (qam U bk)]] 2 ⟨p3,s3,hp3,rfl⟩ 8 (by omega) (by omega);have hs:=qpJ;generalize hsq:qe7.map SymL.enc=sq at hs⊢
 have hqc:sq.map DV.clr=sq:=by rw[<-hsq];exact qjz _
 simp[c00]at h1 hc1 hc2 hc3 hc4
 by_cases q0:q=0
 ·subst q0
  obtain⟨t,g,p5,s5,ht,hp5,hc5⟩:=quB bs hl p4 s4 hp4;obtain⟨tf,tv,tk⟩:=t;refine⟨.node af av ak,.node tf tv tk,⟨by omega,ha.2⟩,ht,?_⟩;rw[qas XV _ _ _ qwr rfl qio rfl];simp[qwr,qpc,qpb,qpa,qo9,qo8,qo7,qo6,qo5,qo4,qo3,qox,h1,hc1,hc2,hc3,hc4,hc5,hs,hqc,qhd,qcT,splice,qag,qao,qaq,qaL,qaf]
 ·by_cases q1:q=1
  ·subst q1
   have hcp:=qmM (.node af av ak) (by omega);refine⟨.node af av ak,.node af av ak,⟨by omega,ha.2⟩,⟨by omega,ha.2⟩,?_⟩;rw[qas XV _ _ _ qwr rfl qio rfl];simp[qwr,qpc,qpb,qpa,qo9,qo8,qo7,qo6,qo5,qo4,qo3,qox,h1,hc1,hc2,hc3,hc4,hcp,hs,hqc,qhd,qcT,splice,qag,qao,qaq,qaL,qaf]
  ·refine⟨.node af av ak,.node bf bv bk,⟨by omega,ha.2⟩,⟨by omega,hb.2⟩,?_⟩
   have e0:(q==0)=false:=by simpa using q0
   have e1:(q==1)=false:=by simpa using q1
   rw[qas XV _ _ _ qwr rfl qio rfl];simp[qwr,qpc,qpb,qpa,qo9,qo8,qo7,qo6,qo5,qo4,qo3,qox,h1,hc1,hc2,hc3,hc4,e0,e1,hs,hqc,qhd,qcT,splice,qag,qao,qaq,qaL,qaf]
theorem qjv(bs:List Int)(hl:bs.length<=1099511627776):∃(a b:T),(a.inner<=14/\a.rng)/\(b.inner<=14/\b.rng)/\qac XV 365 [.d (.sl .sub (bs.map (.int .u8)))] []=some (.d (.tup [.sl U (qe7.map SymL.enc),a.enc .sub,b.enc .sub]),[]):=by
 obtain⟨a,b,ha,hb,h⟩:=quA bs hl;refine⟨a,b,ha,hb,?_⟩;rw[qas XV _ _ _ qCm rfl qsN rfl];obtain⟨f,v,ks⟩:=a;obtain⟨f',v',ks'⟩:=b;generalize hsq:qe7.map SymL.enc=sq at h⊢
 have hqc:sq.map DV.clr=sq:=by rw[<-hsq];exact qjz _
 simp[qCm,qyU,qyT,qFY,h,hqc,splice,qag,qao,qaq,qaL,qaf]
end Go.Proofs.Ytfiakfiocdfpbaa.VS
namespace Go.Proofs.Ytfiakfiocdfpbaa.VS
theorem qhM(q:Nat->Bool)(n:Nat)(h:(qap q n 0).isNone=true):∀i,i<n->q i=false:=fun i hi=>by
 have:=(qfv q n 0).2 (by simpa using h) i (by omega) (by omega);exact this
end Go.Proofs.Ytfiakfiocdfpbaa.VS
namespace Go.Proofs.Ytfiakfiocdfpbaa.VS
mutual
def T.nodes:T->List T
 | .node f v ks=> .node f v ks::T.nodess ks
def T.nodess:List T->List T
 | []=>[]
 |t::r=>t.nodes++T.nodess r
end
mutual
theorem qfC(w:T->Int):∀t:T,T.sum w t=(t.nodes.map w).sum
 | .node f v ks=>by simp only[T.sum,T.nodes,List.map_cons,List.sum_cons,qj7 w ks]
theorem qj7(w:T->Int):∀l:List T,T.sums w l=((T.nodess l).map w).sum
 | []=>by simp[T.sums,T.nodess]
 |t::r=>by simp only[T.sums,T.nodess,List.map_append,List.sum_append,qfC w t,qj7 w r]
end
theorem qme{l:List T}{w w':T->Int}(h:∀x,x∈l->w x<=w' x):(l.map w).sum<=(l.map w').sum:=by
 induction l with
 |nil=>simp
 |cons x l ih=>
  simp only[List.map_cons,List.sum_cons];have:=h x (by simp);have:=ih fun y hy=>h y (by simp[hy])
  omega
theorem qHG(n:Int)(x:T):0<=wC n x:=by unfold wC;split<;>omega
theorem qkV{α:Type}:∀l:List α,(l.map fun _=>(0:Int)).sum=0
 | []=>rfl
 |a::l=>by simp only[List.map_cons,List.sum_cons,qkV l];omega
theorem qDq{l:List T}{w:T->Int}(h:∀x,x∈l->0<=w x):0<=(l.map w).sum:=by
 have:=qme (l:=l) (w:=fun _=>0) (w':=w) h;have e:=qkV l;omega
theorem qvF(t:T)(l:List Int)(hl:l.Pairwise (·<·)):(l.map fun n=>T.sum (wC n) t).sum<=T.sum (fun _=>1) t:=by
 have e:∀l:List Int,(l.map fun n=>T.sum (wC n) t).sum=(t.nodes.map fun x=>(l.map fun n=>wC n x).sum).sum:=by
  intro l
  induction l with
  |nil=>simp only[List.map_nil,List.sum_nil];exact(qkV _).symm
  |cons n l ih=>
   have h:∀N:List T,(N.map (wC n)).sum+(N.map fun x=>(l.map fun n=>wC n x).sum).sum=(N.map fun x=>wC n x+(l.map fun n=>wC n x).sum).sum:=by
    intro N
    induction N with
    |nil=>rfl
    |cons a N ih=>simp only[List.map_cons,List.sum_cons];omega
   simp only[List.map_cons,List.sum_cons,ih];rw[<-h,qfC]
 rw[e,qfC];refine qme fun x _=> ?_
 have hz:∀l:List Int,x.v∉l->(l.map fun n=>wC n x).sum=0:=by
  intro l
  induction l with
  |nil=>intro _;rfl
  |cons n l ih=>
   intro hx;simp only[List.mem_cons,not_or]at hx;simp only[List.map_cons,List.sum_cons,ih hx.2];unfold wC;rw[if_neg (fun h=>hx.1 h.2)];omega
 induction l with
 |nil=>simp
 |cons n l ih=>
  rw[List.pairwise_cons]at hl;simp only[List.map_cons,List.sum_cons]
  by_cases hv:x.v=n
  ·have hn:x.v∉l:=fun hm=>by have:=hl.1 _ hm;omega
   rw[hz l hn];unfold wC;split<;>omega
  ·have:=ih hl.2
   have e0:wC n x=0:=by unfold wC;rw[if_neg (fun h=>hv h.2)]
   omega
end Go.Proofs.Ytfiakfiocdfpbaa.VS
namespace Go.Proofs.Ytfiakfiocdfpbaa.VS
def qdp(t:T)(n:Int):Int:=IntKind.i64.wrap (T.sum (wC n) t)
def qcj(l:List SymL)(t:T):Int:=IntKind.i64.wrap (T.sum (wW l) t)
def qcS(a b:T)(vs:List Int)(i:Nat):Bool:=decide (qdp a (iAt vs i)<qdp b (iAt vs i))
def qry(l:List SymL)(a b:T):Bool:=decide (qcj l a>qcj l b)||(decide (qcj l a=qcj l b)&&((qcs a).length==0)&&((qcs b).length==0)&&decide (T.cmp b a<0))
def qbd(l:List SymL)(a b:T):Bool:=qa6 l a&&qa6 l b&&(qap (qcS a b (qcs b)) (qcs b).length 0).isNone&&qry l a b
theorem qx9(l:List SymL)(hs:l.length<=1099511627776)(f v:Int)(ks:List T)(f' v':Int)(ks':List T)(ha:(T.node f v ks).inner<=1099511627776)(hb:(T.node f' v' ks').inner<=1099511627776):
 qaD XV (XV.lin 178) (.region false 0 [6] qet) ⟨[(4,.ptr 0 0),(5,.ptr 1 0),(9,.d (.int .i64 (qcj l (.node f v ks)))),(10,.d (.int .i64 (qcj l (.node f' v' ks'))))],qah f v ks++qah f' v' ks'⟩=
  some (.normal,⟨[(6,.d (.bool (qry l (.node f v ks) (.node f' v' ks'))))],qah f v ks++qah f' v' ks'⟩):=by
 have g1:=qc5 (.node f v ks) ha;have g2:=qc5 (.node f' v' ks') hb;have b1:=qgk (.node f' v' ks') (.node f v ks) hb ha;unfold qry qah;generalize hx:qcj l (.node f v ks)=x;generalize hy:qcj l (.node f' v' ks')=y;generalize qcs (.node f v ks)=va at g1⊢
 generalize qcs (.node f' v' ks')=vb at g2⊢
 generalize decide (T.cmp (.node f' v' ks') (.node f v ks)<0)=cb at b1⊢
 generalize (va.length==0)=ga at g1⊢
 generalize (vb.length==0)=gb at g2⊢
 by_cases h1:x>y
 ·simp[qet,h1]
 ·by_cases h2:x=y
  ·subst h2
   cases ga<;>cases gb<;>simp[qet,g1,g2,b1]
  ·have h3:(x==y)=false:=by simp[h2]
   simp[qet,h1,h2,h3]
theorem qxt(l:List SymL)(hs:l.length<=1099511627776)(f v:Int)(ks:List T)(f' v':Int)(ks':List T)(ha:(T.node f v ks).inner<=1099511627776)(hb:(T.node f' v' ks').inner<=1099511627776):
 qaD XV (XV.lin 179) (.region false 0 [6] qes) ⟨[(4,.ptr 0 0),(5,.ptr 1 0),(9,.d (.int .i64 (qcj l (.node f v ks)))),(10,.d (.int .i64 (qcj l (.node f' v' ks'))))],qah f v ks++qah f' v' ks'⟩=
  some (.normal,⟨[(6,.d (.bool (qry l (.node f v ks) (.node f' v' ks'))))],qah f v ks++qah f' v' ks'⟩):=by
 have g1:=qfF (.node f v ks) ha;have g2:=qfF (.node f' v' ks') hb;have b1:=qc2 (.node f' v' ks') (.node f v ks) hb ha;unfold qry qah;generalize hx:qcj l (.node f v ks)=x;generalize hy:qcj l (.node f' v' ks')=y;generalize qcs (.node f v ks)=va at g1⊢
 generalize qcs (.node f' v' ks')=vb at g2⊢
 generalize decide (T.cmp (.node f' v' ks') (.node f v ks)<0)=cb at b1⊢
 generalize (va.length==0)=ga at g1⊢
 generalize (vb.length==0)=gb at g2⊢
 by_cases h1:x>y
 ·simp[qes,h1]
 ·by_cases h2:x=y
  ·subst h2
   cases ga<;>cases gb<;>simp[qes,g1,g2,b1]
  ·have h3:(x==y)=false:=by simp[h2]
   simp[qes,h1,h2,h3]
theorem qx8(l:List SymL)(f v:Int)(ks:List T)(f' v':Int)(ks':List T)(ha:(T.node f v ks).inner<=1099511627776)(hb:(T.node f' v' ks').inner<=1099511627776)(vs:List Int)(hl:vs.length<=2199023255552):
 qdL XV (XV.lin 178) 2 [0,4,5,22,23,24] qkB ⟨[(0,.d (sg l)),(4,.ptr 0 0),(5,.ptr 1 0),(22,.d (is vs)),(23,.d (.int .i64 vs.length)),(24,.d (.int .i64 0))],qah f v ks++qah f' v' ks'⟩=
  some (match qap (qcS (.node f v ks) (.node f' v' ks') vs) vs.length 0 with
   |some _=>(.ret,⟨[(6,.d (.bool false))],qah f v ks++qah f' v' ks'⟩)
   |none=>(.exit 0,⟨[(0,.d (sg l)),(4,.ptr 0 0),(5,.ptr 1 0),(22,.d (is vs)),(23,.d (.int .i64 vs.length)),(24,.d (.int .i64 vs.length)),(25,.d (.bool false))],qah f v ks++qah f' v' ks'⟩)):=by
 have h:=qaB (X:=XV) (T:=XV.lin 178) (L:=2) (live:=[0,4,5,22,23,24]) (b:=qkB) (n:=vs.length) (st:=fun(_:Unit) i=>⟨[(0,.d (sg l)),(4,.ptr 0 0),(5,.ptr 1 0),(22,.d (is vs)),(23,.d (.int .i64 vs.length)),(24,.d (.int .i64 i))],qah f v ks++qah f' v' ks'⟩) (step:=qct (qcS (.node f v ks) (.node f' v' ks') vs))
  (F:=fun _=>(.exit 0,⟨[(0,.d (sg l)),(4,.ptr 0 0),(5,.ptr 1 0),(22,.d (is vs)),(23,.d (.int .i64 vs.length)),(24,.d (.int .i64 vs.length)),(25,.d (.bool false))],qah f v ks++qah f' v' ks'⟩)) (R:=fun(_:Nat)=>(.ret,⟨[(6,.d (.bool false))],qah f v ks++qah f' v' ks'⟩))
  (fun a=>⟨by simp,by simp[qah,qkB,qhA,qhz,qhy,qkc,qpj,qpi,qvC,qph,qpg,qp4,qet]⟩)
  (fun a i hi=>by
   have hw:=qay (n:=i) (by omega);have c1:=qhK (.node f v ks) ha (iAt vs i);have c2:=qhK (.node f' v' ks') hb (iAt vs i);unfold qct
   by_cases hq:qcS (.node f v ks) (.node f' v' ks') vs i=true
   ·rw[if_pos hq]
    have hq2:qdp (.node f v ks) (iAt vs i)<qdp (.node f' v' ks') (iAt vs i):=by simpa[qcS]using hq
    unfold qdp at hq2;exact⟨by simp,by simp[qah,qkB,qhA,qhz,qhy,qkc,qpj,qpi,qvC,qph,qpg,qp4,qet,hi,hw,cut,qcy hi,c1,c2,hq2]⟩
   ·rw[if_neg hq]
    have hq2:¬qdp (.node f v ks) (iAt vs i)<qdp (.node f' v' ks') (iAt vs i):=by simpa[qcS]using hq
    unfold qdp at hq2;exact⟨_,by simp[qah,qkB,qhA,qhz,qhy,qkc,qpj,qpi,qvC,qph,qpg,qp4,qet,hi,hw,cut,qcy hi,c1,c2,hq2];rfl,by simp[qai,qab,qah]⟩)
  vs.length () 0 ⟨[(0,.d (sg l)),(4,.ptr 0 0),(5,.ptr 1 0),(22,.d (is vs)),(23,.d (.int .i64 vs.length)),(24,.d (.int .i64 0))],qah f v ks++qah f' v' ks'⟩ (by omega) (by simp[qai,qab,qah])
 rw[qoS]at h;rw[h];cases qap (qcS (.node f v ks) (.node f' v' ks') vs) vs.length 0<;>rfl
theorem qff(l:List SymL)(hs:l.length<=1099511627776)(hn:∀i,i<l.length->(qaz l i).name.size<=1099511627776)(a b:T)(ha:a.inner<=1099511627776)(hb:b.inner<=1099511627776):qac XV 178 [.d (sg l),.d (a.enc .sub),.d (b.enc .sub)] []=some (.d (.bool (qbd l a b)),[]):=by
 obtain⟨f,v,ks⟩:=a;obtain⟨f',v',ks'⟩:=b;rw[qas XV _ _ _ qxi rfl qsQ rfl];have o1:=qc4 l hs hn (.node f v ks) ha;have o2:=qc4 l hs hn (.node f' v' ks') hb;have va:=qgj (.node f' v' ks') hb;have w1:=qd5 l hs (.node f v ks) ha;have w2:=qd5 l hs (.node f' v' ks') hb;have hloop:=qx8 l f v ks f' v' ks' ha hb (qcs (.node f' v' ks')) (by have:=qmb (.node f' v' ks') hb;omega);have hlast:=qx9 l hs f v ks f' v' ks' ha hb;unfold qbd;unfold qcj at hlast
 by_cases h1:qa6 l (.node f v ks)=true
 ·rw[h1]at o1⊢
  by_cases h2:qa6 l (.node f' v' ks')=true
  ·rw[h2]at o2⊢
   simp only[qBv,qah,List.cons_append,List.nil_append]at hloop hlast;simp only[qkP,List.replicate_zero,List.append_nil,List.length_cons,List.length_nil,Nat.zero_add,Nat.reduceAdd]at hlast;cases hq:qap (qcS (.node f v ks) (.node f' v' ks') (qcs (.node f' v' ks'))) (qcs (.node f' v' ks')).length 0 with
   |none=>
    rw[hq]at hloop;simp[qxi,qhA,qhz,qhy,qkc,o1,o2,va];rw[hloop];simp[qp4,w1,w2];rw[hlast];simp
   |some j=>
    rw[hq]at hloop;simp[qxi,qhA,qhz,qhy,qkc,o1,o2,va];rw[hloop];simp
  ·have h2':qa6 l (.node f' v' ks')=false:=by simpa using h2
   rw[h2']at o2⊢
   simp[qxi,qhA,qhz,qhy,o1,o2]
 ·have h1':qa6 l (.node f v ks)=false:=by simpa using h1
  rw[h1']at o1⊢
  simp[qxi,qhA,qhz,qhy,o1]
theorem qxs(l:List SymL)(f v:Int)(ks:List T)(f' v':Int)(ks':List T)(ha:(T.node f v ks).inner<=1099511627776)(hb:(T.node f' v' ks').inner<=1099511627776)(vs:List Int)(hl:vs.length<=2199023255552):
 qdL XV (XV.lin 179) 2 [0,4,5,7,8] qkA ⟨[(0,.d (sg l)),(4,.ptr 0 0),(5,.ptr 1 0),(7,.d (is vs)),(8,.d (.int .i64 0))],qah f v ks++qah f' v' ks'⟩=
  some (match qap (qcS (.node f v ks) (.node f' v' ks') vs) vs.length 0 with
   |some _=>(.ret,⟨[(6,.d (.bool false))],qah f v ks++qah f' v' ks'⟩)
   |none=>(.exit 0,⟨[(0,.d (sg l)),(4,.ptr 0 0),(5,.ptr 1 0),(7,.d (is vs)),(8,.d (.int .i64 vs.length)),(26,.d (.bool false))],qah f v ks++qah f' v' ks'⟩)):=by
 have h:=qaB (X:=XV) (T:=XV.lin 179) (L:=2) (live:=[0,4,5,7,8]) (b:=qkA) (n:=vs.length) (st:=fun(_:Unit) i=>⟨[(0,.d (sg l)),(4,.ptr 0 0),(5,.ptr 1 0),(7,.d (is vs)),(8,.d (.int .i64 i))],qah f v ks++qah f' v' ks'⟩) (step:=qct (qcS (.node f v ks) (.node f' v' ks') vs))
  (F:=fun _=>(.exit 0,⟨[(0,.d (sg l)),(4,.ptr 0 0),(5,.ptr 1 0),(7,.d (is vs)),(8,.d (.int .i64 vs.length)),(26,.d (.bool false))],qah f v ks++qah f' v' ks'⟩)) (R:=fun(_:Nat)=>(.ret,⟨[(6,.d (.bool false))],qah f v ks++qah f' v' ks'⟩))
  (fun a=>⟨by simp,by simp[qah,qkA,qhx,qhw,qhv,qkb,qka,qpf,qvB,qpd,qpe,qp3,qes]⟩)
  (fun a i hi=>by
   have hw:=qay (n:=i) (by omega);have c1:=qen (.node f v ks) ha (iAt vs i);have c2:=qen (.node f' v' ks') hb (iAt vs i);unfold qct
   by_cases hq:qcS (.node f v ks) (.node f' v' ks') vs i=true
   ·rw[if_pos hq]
    have hq2:qdp (.node f v ks) (iAt vs i)<qdp (.node f' v' ks') (iAt vs i):=by simpa[qcS]using hq
    unfold qdp at hq2;exact⟨by simp,by simp[qah,qkA,qhx,qhw,qhv,qkb,qka,qpf,qvB,qpd,qpe,qp3,qes,hi,hw,cut,qcy hi,c1,c2,hq2]⟩
   ·rw[if_neg hq]
    have hq2:¬qdp (.node f v ks) (iAt vs i)<qdp (.node f' v' ks') (iAt vs i):=by simpa[qcS]using hq
    unfold qdp at hq2;exact⟨_,by simp[qah,qkA,qhx,qhw,qhv,qkb,qka,qpf,qvB,qpd,qpe,qp3,qes,hi,hw,cut,qcy hi,c1,c2,hq2];rfl,by simp[qai,qab,qah]⟩)
  vs.length () 0 ⟨[(0,.d (sg l)),(4,.ptr 0 0),(5,.ptr 1 0),(7,.d (is vs)),(8,.d (.int .i64 0))],qah f v ks++qah f' v' ks'⟩ (by omega) (by simp[qai,qab,qah])
 rw[qoS]at h;rw[h];cases qap (qcS (.node f v ks) (.node f' v' ks') vs) vs.length 0<;>rfl
theorem qjS(l:List SymL)(hs:l.length<=1099511627776)(hn:∀i,i<l.length->(qaz l i).name.size<=1099511627776)(a b:T)(ha:a.inner<=1099511627776)(hb:b.inner<=1099511627776):qac XV 179 [.d (sg l),.d (a.enc .sub),.d (b.enc .sub)] []=some (.d (.bool (qbd l a b)),[]):=by
 obtain⟨f,v,ks⟩:=a;obtain⟨f',v',ks'⟩:=b;rw[qas XV _ _ _ qxh rfl qsP rfl];have o1:=qfE l hs hn (.node f v ks) ha;have o2:=qfE l hs hn (.node f' v' ks') hb;have va:=qfD (.node f' v' ks') hb;have w1:=qdU l hs (.node f v ks) ha;have w2:=qdU l hs (.node f' v' ks') hb;have hloop:=qxs l f v ks f' v' ks' ha hb (qcs (.node f' v' ks')) (by have:=qmb (.node f' v' ks') hb;omega);have hlast:=qxt l hs f v ks f' v' ks' ha hb;unfold qbd;unfold qcj at hlast
 by_cases h1:qa6 l (.node f v ks)=true
 ·rw[h1]at o1⊢
  by_cases h2:qa6 l (.node f' v' ks')=true
  ·rw[h2]at o2⊢
   simp only[qBu,qah,List.cons_append,List.nil_append]at hloop hlast;simp only[qkP,List.replicate_zero,List.append_nil,List.length_cons,List.length_nil,Nat.zero_add,Nat.reduceAdd]at hlast;cases hq:qap (qcS (.node f v ks) (.node f' v' ks') (qcs (.node f' v' ks'))) (qcs (.node f' v' ks')).length 0 with
   |none=>
    rw[hq]at hloop;simp[qxh,qhx,qhw,qhv,qkb,qka,o1,o2,va];rw[hloop];simp[qp3,w1,w2];rw[hlast];simp
   |some j=>
    rw[hq]at hloop;simp[qxh,qhx,qhw,qhv,qkb,qka,o1,o2,va];rw[hloop];simp
  ·have h2':qa6 l (.node f' v' ks')=false:=by simpa using h2
   rw[h2']at o2⊢
   simp[qxh,qhx,qhw,qhv,o1,o2]
 ·have h1':qa6 l (.node f v ks)=false:=by simpa using h1
  rw[h1']at o1⊢
  simp[qxh,qhx,qhw,qhv,o1]
end Go.Proofs.Ytfiakfiocdfpbaa.VS
namespace Go.Proofs.Ytfiakfiocdfpbaa.VS
end Go.Proofs.Ytfiakfiocdfpbaa.VS
namespace Go.Proofs.Ytfiakfiocdfpbaa.VS
theorem qyy{l:List SymL}{f:Int}(h:qcb l f=true):f≠-1:=by
 unfold qcb at h;simp only[Bool.and_eq_true]at h;have:=(qdT h.1).1;omega
mutual
def T.full(l:List SymL):T->Prop
 | .node f v ks=>(qcb l f=true->ks≠[])/\T.fulls l ks
def T.fulls(l:List SymL):List T->Prop
 | []=>True
 |t::r=>t.full l/\T.fulls l r
end
mutual
theorem qpQ(l:List SymL):∀t:T,T.form l t=true->t.full l/\∀x,x∈t.nodes->x.f= -1->x.kids=[]
 | .node f v ks,h=>by
  simp only[T.form]at h
  by_cases hf:f= -1
  ·rw[if_pos hf]at h
   have hk:ks=[]:=by
    simp only[Bool.and_eq_true,decide_eq_true_eq]at h;exact List.eq_nil_of_length_eq_zero h.2
   subst hk;refine⟨⟨fun hb=>absurd hf (qyy hb),trivial⟩,fun x hx _=> ?_⟩;simp only[T.nodes,T.nodess,List.mem_cons,List.not_mem_nil,or_false]at hx;subst hx;rfl
  ·rw[if_neg hf]at h
   split at h
   ·simp at h
   ·rename_i hh
    have hq:=qhM _ _ h;have hat:∀i,i<ks.length->T.form l (tAt ks i)=true:=fun i hi=>by
     have:=hq i hi;rw[T.qlV l ks i hi]at this;simp at this;exact this.1
    obtain⟨h1,h2⟩:=qmW l ks hat;refine⟨⟨fun hb hn=>hh ?_,h1⟩,fun x hx hxf=> ?_⟩
    ·subst hn
     have hb':=hb;unfold qcb at hb';simp only[Bool.and_eq_true]at hb';unfold qdk;rw[if_pos hb'.1];split
     ·rw[if_pos hb'.2];simp
     ·rfl
    ·simp only[T.nodes,List.mem_cons]at hx
     rcases hx with rfl|hx
     ·exact absurd hxf hf
     ·exact h2 x hx hxf
theorem qmW(l:List SymL):∀ks:List T,(∀i,i<ks.length->T.form l (tAt ks i)=true)->T.fulls l ks/\∀x,x∈T.nodess ks->x.f= -1->x.kids=[]
 | [],_=>⟨trivial,fun x hx=>by simp[T.nodess]at hx⟩
 |t::r,h=>by
  obtain⟨h1,h2⟩:=qpQ l t (by have:=h 0 (by simp);simpa[tAt]using this);obtain⟨h3,h4⟩:=qmW l r fun i hi=>by have:=h (i+1) (by simpa using hi);simpa[tAt]using this
  refine⟨⟨h1,h3⟩,fun x hx hxf=> ?_⟩;simp only[T.nodess,List.mem_append]at hx;rcases hx with hx|hx
  ·exact h2 x hx hxf
  ·exact h4 x hx hxf
end
end Go.Proofs.Ytfiakfiocdfpbaa.VS
namespace Go.Proofs.Ytfiakfiocdfpbaa.VS
end Go.Proofs.Ytfiakfiocdfpbaa.VS
namespace Go.Proofs.Ytfiakfiocdfpbaa.VS
theorem qrG(q:Nat->Bool)(n:Nat)(h:∀i,i<n->q i=false):(qap q n 0).isNone=true:=by
 cases hq:qap q n 0 with
 |none=>rfl
 |some j=>
  obtain⟨h1,h2,h3⟩:=qdl _ _ _ _ hq;rw[h j (by omega)]at h3;simp at h3
theorem qHE(l:List SymL)(x:T):0<=wW l x:=by unfold wW;split<;>omega
theorem qHF(l:List SymL)(x:T):wW l x<=(x.kids.length:Int)+1:=by unfold wW;split<;>omega
mutual
theorem qma(l:List SymL):∀t:T,0<=T.sum (wW l) t/\T.sum (wW l) t<=2*(t.inner:Int)+1
 | .node f v ks=>by
  have h1:=qHE l (.node f v ks);have h2:=qHF l (.node f v ks);have h3:=qj3 l ks;simp only[T.sum,T.inner,T.qbb]at*
  omega
theorem qj3(l:List SymL):∀ks:List T,0<=T.sums (wW l) ks/\T.sums (wW l) ks<=2*(T.inners ks:Int)+ks.length
 | []=>by simp[T.sums,T.inners]
 |t::r=>by
  have h1:=qma l t;have h2:=qj3 l r;simp only[T.sums,T.inners,List.length_cons];omega
end
theorem qhp{l:List SymL}{t:T}(h:qa6 l t=true):t.inner<=59/\t.full l/\∀x,x∈t.nodes->x.f= -1->x.kids=[]:=by
 unfold qa6 at h;simp only[Bool.and_eq_true,decide_eq_true_eq]at h;obtain⟨h1,h2⟩:=qpQ l t h.2.2;exact⟨by omega,h1,h2⟩
theorem count_le(t:T)(n:Int):0<=T.sum (wC n) t/\T.sum (wC n) t<=(t.inner:Int)+1:=by
 have h:=qvF t [n] (List.pairwise_singleton _ _);simp only[List.map_cons,List.map_nil,List.sum_cons,List.sum_nil]at h;have h2:=qfC (wC n) t;have h3:=qDq (l:=t.nodes) (w:=wC n) (fun x _=>qHG n x);have h4:=qnN t;omega
theorem qgw(t:T)(n:Int)(h:t.inner<=1099511627776):qdp t n=T.sum (wC n) t:=by
 have:=count_le t n;exact wrap_i64 (by omega) (by omega)
theorem qj4(l:List SymL)(t:T)(h:t.inner<=1099511627776):qcj l t=T.sum (wW l) t:=by
 have:=qma l t;exact wrap_i64 (by omega) (by omega)
theorem qjk(l:List SymL)(a b:T)(ha:a.inner<=1099511627776)(hb:b.inner<=1099511627776):qbd l a b=true↔qa6 l a=true/\qa6 l b=true/\(∀n,n∈qcs b->T.sum (wC n) b<=T.sum (wC n) a)/\
 (T.sum (wW l) b<T.sum (wW l) a\/(T.sum (wW l) a=T.sum (wW l) b/\qcs a=[]/\qcs b=[]/\T.cmp b a<0)):=by
 unfold qbd qry;rw[qj4 l a ha,qj4 l b hb];simp only[Bool.and_eq_true,Bool.or_eq_true,decide_eq_true_eq,beq_iff_eq,List.length_eq_zero_iff];constructor
 ·rintro⟨⟨⟨h1,h2⟩,h3⟩,h4⟩
  refine⟨h1,h2,fun n hn=> ?_,?_⟩
  ·obtain⟨i,hi,rfl⟩:=List.getElem_of_mem hn
   have h5:=qhM _ _ h3 i hi;unfold qcS at h5;rw[<-qcy hi,qgw a _ ha,qgw b _ hb]at h5;simpa using h5
  ·rcases h4 with h4|h4
   ·exact .inl h4
   ·exact .inr ⟨h4.1.1.1,h4.1.1.2,h4.1.2,h4.2⟩
 ·rintro⟨h1,h2,h3,h4⟩
  refine⟨⟨⟨h1,h2⟩,qrG _ _ fun i hi=> ?_⟩,?_⟩
  ·unfold qcS
   rw[<-qcy hi,qgw a _ ha,qgw b _ hb];simpa using h3 _ (List.getElem_mem hi)
  ·rcases h4 with h4|h4
   ·exact .inl h4
   ·exact .inr ⟨⟨⟨h4.1,h4.2.1⟩,h4.2.2.1⟩,h4.2.2.2⟩
theorem qmV(l:List SymL)(a b:T)(ha:qa6 l a=true)(hb:qa6 l b=true)(va:qcs a=[])(vb:qcs b=[]):(qbd l a b||qbd l b a)= !(T.cmp a b==0):=by
 have a1:=(qhp ha).1;have b1:=(qhp hb).1;have g1:=qjk l a b (by omega) (by omega);have g2:=qjk l b a (by omega) (by omega);have hc:=qvK a b
 by_cases h0:T.cmp a b=0
 ·have:a=b:=qzS a b h0
  subst this;have hn:¬qbd l a a=true:=fun hh=>by
   obtain⟨_,_,_,h4⟩:=g1.1 hh;omega
  have hn':qbd l a a=false:=by simpa using hn
  rw[hn',h0];rfl
 ·have e0:(T.cmp a b==0)=false:=by simpa using h0
  rw[e0];rcases Int.lt_trichotomy (T.sum (wW l) a) (T.sum (wW l) b)with hw|hw|hw
  ·have:qbd l b a=true:=g2.2 ⟨hb,ha,fun n hn=>by rw[va]at hn;simp at hn,.inl hw⟩
   rw[this];simp
  ·rcases Int.lt_or_le (T.cmp a b) 0 with hl|hl
   ·have:qbd l b a=true:=g2.2 ⟨hb,ha,fun n hn=>by rw[va]at hn;simp at hn,.inr ⟨hw.symm,vb,va,hl⟩⟩
    rw[this];simp
   ·have:qbd l a b=true:=g1.2 ⟨ha,hb,fun n hn=>by rw[vb]at hn;simp at hn,.inr ⟨hw,va,vb,by omega⟩⟩
    rw[this];simp
  ·have:qbd l a b=true:=g1.2 ⟨ha,hb,fun n hn=>by rw[vb]at hn;simp at hn,.inl hw⟩
   rw[this];simp
end Go.Proofs.Ytfiakfiocdfpbaa.VS
namespace Go.Proofs.Ytfiakfiocdfpbaa.VS
end Go.Proofs.Ytfiakfiocdfpbaa.VS
namespace Go.Proofs.Ytfiakfiocdfpbaa.VS
theorem qiv:∀i,i<qe7.length->(qaz qe7 i).name.size<=1099511627776:=fun i hi=>by have:=qDr.nm 9 (by omega) i hi;omega
theorem qjJ(bs:List Int)(hl:bs.length<=maxLen):∃B,qac XV 364 [.d (.sl .sub (bs.map (.int .u8)))] []=some (.d (.bool true),B):=by
 rw[qas XV _ _ _ qyM rfl qsO rfl];have hbig:=qF8 bs
 by_cases h1:1048576<bs.length
 ·simp only[h1,decide_true]at hbig
  simp[qyM,qo2,qo1,qo0,qoZ,qoY,qvA,qvz,hbig]
 have hls:bs.length<=1099511627776:=by omega
 simp only[h1,decide_false]at hbig;obtain⟨a,b,⟨ha,_⟩,⟨hb,_⟩,d1⟩:=qjv bs hls;have t1:=qc4 qe7 (by decide) qiv a (by omega);have t2:=qc4 qe7 (by decide) qiv b (by omega);have k1:=qc5 a (by omega);have k2:=qc5 b (by omega);have g1:=qff qe7 (by decide) qiv a b (by omega) (by omega);have g2:=qff qe7 (by decide) qiv b a (by omega) (by omega);have g3:=qjS qe7 (by decide) qiv a b (by omega) (by omega);have s1:=same_eq a b (by omega) (by omega);have hT:qa6 qe7 a=true->qa6 qe7 b=true->((qcs a).length==0)=true->((qcs b).length==0)=true->(qbd qe7 a b||qbd qe7 b a)= !(T.cmp a b==0):=fun h1 h2 h3 h4=>
  qmV qe7 a b h1 h2 (by simpa using h3) (by simpa using h4)
 simp only[sg]at t1 t2 g1 g2 g3;generalize hq:qe7.map SymL.enc=sq at*
 have hqc:sq.map DV.clr=sq:=by rw[<-hq];exact qjz _
 generalize qa6 qe7 a=ta at*
 generalize qa6 qe7 b=tb at*
 generalize ((qcs a).length==0)=va at*
 generalize ((qcs b).length==0)=vb at*
 generalize qbd qe7 a b=ga at*
 generalize qbd qe7 b a=gb at*
 generalize (T.cmp a b==0)=cc at*
 obtain⟨af,av,ak⟩:=a;obtain⟨bf,bv,bk⟩:=b;refine⟨[],?_⟩;cases ta<;>cases tb<;>cases va<;>cases vb<;>first
  |(simp[qyM,qo2,qo1,qo0,qoZ,qoY,qvA,qvz,hbig,d1,t1,t2,k1,k2,g1,g2,g3,s1,hqc,splice,qag,qao,qaq,qaL,qaf];done)
  |(cases ga<;>cases gb<;>cases cc<;>first
   |(simp at hT;done)
   |(simp[qyM,qo2,qo1,qo0,qoZ,qoY,qvA,qvz,hbig,d1,t1,t2,k1,k2,g1,g2,g3,s1,hqc,splice,qag,qao,qaq,qaL,qaf];done))
end Go.Proofs.Ytfiakfiocdfpbaa.VS
namespace Go.Proofs.Ytfiakfiocdfpbaa.VS
mutual
def TT.erase:TT->T
 | .node f v g ks=> .node f v (TT.erases ks)
def TT.erases:List TT->List T
 | []=>[]
 |t::r=>t.erase::TT.erases r
end
mutual
theorem TT.qcD:∀t:TT,DV.clrs t.cells=[.int .i64 t.erase.f,.int .i64 t.erase.v,qam .sub t.erase.kids]
 | .node f v g ks=>by
  simp only[TT.cells,DV.clrs,DV.clr,TT.erase,T.qds,T.qfm,T.qbb,qam];rw[TT.qee ks]
theorem TT.qee:∀l:List TT,DV.clrs (TT.encs l)=(TT.erases l).map (T.enc .sub)
 | []=>by simp[TT.encs,DV.clrs,TT.erases]
 |t::r=>by
  simp only[TT.encs,DV.clrs,DV.clr,TT.erases,List.map_cons];rw[TT.qcD t,TT.qee r,T.qc0]
end
theorem TT.qeP(t:TT):t.enc.clr=t.erase.enc .sub:=by
 simp only[TT.enc,DV.clr];rw[TT.qcD,T.qc0]
theorem qrn(hX:XOK XV){k:Nat}{vs:List DV}(h:∃B,qac XV k ((DV.clrs vs).map .d) []=some (.d (.bool true),B)):∃A B,qsg E [] k (vs.map .d) [] Ids.none=some ⟨.d (.bool true),A,B⟩:=by
 obtain⟨B,h⟩:=h;obtain⟨u,A,Bv,h1,h2⟩:=qx2 hX (DV.qcf vs) (DV.qce vs) (d:= .bool true) (by simp[DV.clr]) h;simp only[DV.fit]at h2;subst h2
 exact⟨A,Bv,h1⟩
theorem qJI{P:Program}{a:TypeId}:∀{xs:List (List DV)},qCI P [a] xs->∃x,xs=[x]
 | [x],_=>⟨x,rfl⟩
 | [],h=>h.elim
 |_::_::_,h=>h.2.elim
end Go.Proofs.Ytfiakfiocdfpbaa.VS
namespace Go.Proofs.Ytfiakfiocdfpbaa.VS
structure L where
 p:Bool
 a:T
 b:T
def L.enc(g:Tag)(x:L):DV:= .agg [.bool x.p,.int .i64 x.a.f,.int .i64 x.a.v,qam g x.a.kids,.int .i64 x.b.f,.int .i64 x.b.v,qam g x.b.kids]
def L.ok(x:L):Prop:=x.a.ok/\x.b.ok
@[simp] theorem L.qnt(g:Tag)(x:L):(x.enc g).cells=[.bool x.p,.int .i64 x.a.f,.int .i64 x.a.v,qam g x.a.kids,.int .i64 x.b.f,.int .i64 x.b.v,qam g x.b.kids]:=rfl
@[simp] theorem L.qkN(g:Tag)(x:L):(AV.d (x.enc g)).cells=[.d (.bool x.p),.d (.int .i64 x.a.f),.d (.int .i64 x.a.v),.d (qam g x.a.kids),.d (.int .i64 x.b.f),.d (.int .i64 x.b.v),.d (qam g x.b.kids)]:=rfl
@[simp] theorem L.qkM(g:Tag)(x:L):(x.enc g).isCell=false:=rfl
@[simp] theorem L.qeP(g:Tag)(x:L):(x.enc g).clr=x.enc .sub:=by
 simp only[L.enc,DV.clr,DV.clrs,qam,DV.qav,qcB]
theorem L.agg_enc(g:Tag)(x:L):DV.agg [.bool x.p,.int .i64 x.a.f,.int .i64 x.a.v,qam g x.a.kids,.int .i64 x.b.f,.int .i64 x.b.v,qam g x.b.kids]=x.enc g:=rfl
def L.cmp(x y:L):Int:=if !x.p&&y.p then-1 else if x.p&& !y.p then 1 else if T.cmp x.a y.a≠0 then T.cmp x.a y.a else T.cmp x.b y.b
def L.same(x y:L):Bool:=x.p==y.p&&(T.cmp x.a y.a==0)&&(T.cmp x.b y.b==0)
theorem L.cmp_zero(x y:L):(L.cmp x y==0)=L.same x y:=by
 obtain⟨p,a,b⟩:=x;obtain⟨q,a',b'⟩:=y;unfold L.cmp L.same;cases p<;>cases q<;>by_cases c:T.cmp a a'=0<;>simp[c]
end Go.Proofs.Ytfiakfiocdfpbaa.VS
namespace Go.Proofs.Ytfiakfiocdfpbaa.VS
variable {P:Program}
structure LL where
 p:Bool
 a:TT
 b:TT
def LL.cells(x:LL):List DV:= .bool x.p::(x.a.cells++x.b.cells)
def LL.enc(x:LL):DV:= .agg x.cells
def LL.ok(x:LL):Prop:=x.a.ok/\x.b.ok
def LL.erase(x:LL):L:=⟨x.p,x.a.erase,x.b.erase⟩
theorem LL.qeP(x:LL):x.enc.clr=x.erase.enc .sub:=by
 have ha:=TT.qcD x.a;have hb:=TT.qcD x.b;rw[DV.qav]at ha hb;simp only[LL.enc,LL.cells,DV.clr,DV.qav,List.map_cons,List.map_append,ha,hb,LL.erase,L.enc];rfl
theorem qml{α:Type}(c:α->List DV)(ok:α->Prop){t e:TypeId}{x:List DV}(hu:P.underlying t=some (.slice e))(hE:∀y:List DV,Shape P e y->∃s:α,y=c s/\ok s)(h:Shape P t x):
 ∃(g:Tag) (l:List α),x=[.sl g (l.map fun s=>qbH P e (c s))]/\l.length<=maxLen/\∀s,s∈l->ok s:=by
 obtain⟨g,xs,rfl,q1,q2,q3,q4⟩:=qnW hu h;have key:∀xs:List DV,(∀y:DV,y∈xs->y=qbH P e y.cells)->(∀y:DV,y∈xs->Shape P e y.cells)->∃l:List α,xs=(l.map fun s=>qbH P e (c s))/\∀s,s∈l->ok s:=by
  intro xs
  induction xs with
  |nil=>intro _ _;exact⟨[],rfl,by simp⟩
  |cons y r ih=>
   intro p1 p2;obtain⟨l,rfl,hl⟩:=ih (fun z hz=>p1 z (by simp[hz])) (fun z hz=>p2 z (by simp[hz]));obtain⟨s,hs,hok⟩:=hE _ (p2 y (by simp));refine⟨s::l,?_,by simpa[hok]using hl⟩;have:=p1 y (by simp);rw[hs]at this;rw[List.map_cons,<-this]
 obtain⟨l,rfl,hl⟩:=key xs q3 q4;exact⟨g,l,rfl,by simpa using q1,hl⟩
structure BB where
 v:Int
 t:TT
def BB.cells(x:BB):List DV:= .int .i64 x.v::x.t.cells
def BB.enc(x:BB):DV:= .agg x.cells
def BB.ok(x:BB):Prop:=(-9223372036854775808<=x.v/\x.v<=9223372036854775807)/\x.t.ok
def BB.erase(x:BB):Bd:=⟨x.v,x.t.erase⟩
theorem BB.qeP(x:BB):x.enc.clr=x.erase.enc .sub:=by
 have ha:=TT.qcD x.t;rw[DV.qav]at ha;simp only[BB.enc,BB.cells,DV.clr,DV.qav,List.map_cons,ha,BB.erase,Bd.enc]
def qnj(g:Tag)(l:List Int):DV:= .sl g (l.map (.int .u8))
theorem qr5(g:Tag)(l:List Int):(qnj g l).clr= .sl .sub (l.map (.int .u8)):=by
 simp only[qnj,qzT,List.map_map,Function.comp_def,qoB]
theorem qnX{t e:TypeId}{x:List DV}(hu:P.underlying t=some (.slice e))(he:P.underlying e=some (.int .u8))(h:Shape P t x):∃g l,x=[qnj g l]/\l.length<=maxLen:=by
 obtain⟨g,l,rfl,h1,_⟩:=qml (fun n:Int=>[DV.int .u8 n]) (fun _=>True) hu (fun y hy=>by
  obtain⟨n,rfl,_⟩:=qtD he hy;exact⟨n,rfl,trivial⟩) h
 exact⟨g,l,by simp[qnj,qbH,he],h1⟩
end Go.Proofs.Ytfiakfiocdfpbaa.VS
namespace Go.Proofs.Ytfiakfiocdfpbaa.VS
open Go.RowKit
variable {P:Program} {fid:Nat->FuncId}
theorem qvT{X:XEnv}(hX:XOK X)(hE:EnvOK P fid X.env){f:Nat}{xs:List AV}{B:qaj}{v':AV}{B':qaj}(h:qac X f xs B=some (v',B')){vs:List AV}{Bv:qaj}(hf:AV.fits xs vs)(hb:qaX B Bv)
 (ho:∀ℓ,qaa (qad 0 xs) B (qad 0 vs) Bv ℓ=[]) {g:Gh} {w:World} {us:Array Value} (hus:us.size=vs.length) (hrel:∀(j:Nat) (v:AV) (u:Value),vs[j]?=some v->us[j]?=some u->AVR fid g w v u)
 (hc:Core fid g w Bv Ids.none) (hfr:qhZ g [] 0):Calls P (fid f) us w fun e w'=>∃u g' vv A' Bv',e= .returned u/\v'.fit vv/\qaX B' Bv'/\Post fid (from_ [] 0) g w Ids.none ⟨vv,A',Bv'⟩ u g' w':=by
 obtain⟨n,hn⟩:=qbO.1 h;obtain⟨v,Bv',A',h1,h2,h3,_⟩:=ql6 hX n f _ _ _ _ hn [] vs Bv Ids.none (fun _=>False) hf hb
  ⟨fun ℓ=>by rw[ho];simp,fun ℓ ℓ' a ha=>by rw[ho]at ha;simp at ha,fun ℓ a ha=>by rw[ho]at ha;simp at ha,fun a ha=>by simp at ha⟩ (fun j _=>ho (.reg j)) (fun a ha=>by simp[Ids.none]at ha)
 obtain⟨_,hcc⟩:=qqb hE n [] f vs Bv Ids.none _ h1;exact(hcc g w us hus hrel hc hfr).mono fun e w' ⟨u,g',he,hp⟩=>⟨u,g',v,A',Bv',he,h2,h3,hp⟩
structure IntsAt(w:World)(base:Option Addr)(n c:Nat)(xs:List Int):Prop where
 len:xs.length=n
 cap:n<=c
 lim:(n+1)*8<=140737488355328
 capm:c<=maxLen
 nil:base=none->n=0/\c=0
 cell:∀ad,base=some ad->0<n->ad.spot=none/\∀(j:Nat) (x:Int),xs[j]?=some x->w.cell? ⟨ad.block,ad.off+j,none⟩=some (.int .i64 x)
theorem qCc{w:World}{b o:Nat}{v:Value}(h:w.cell? ⟨b,o,none⟩=some v):b<w.heap.size:=by
 unfold World.cell? at h;split at h
 ·rename_i h1;exact(Array.getElem?_eq_some_iff.1 h1).1
 ·simp at h
theorem IntsAt.lt{w:World}{base:Option Addr}{n c:Nat}{xs:List Int}(h:IntsAt w base n c xs){ad:Addr}(hb:base=some ad)(hn:0<n):ad.block<w.heap.size:=by
 have h0:xs[0]?=some xs[0]!:=by have:=h.len;cases xs with|nil=>simp at this;omega|cons a r=>simp
 exact qCc ((h.cell ad hb hn).2 0 _ h0)
def qg5(base:Option Addr)(n:Nat)(bx:Nat->Option Nat):Gh:=
 {K:=fun b=>match base with|some ad=>if b=ad.block/\0<n then ad.off+n else 0|none=>0,row:=fun _=>none,bx:=bx}
def qtw(base:Option Addr):Tag:=match base with|some _=> .sub|none=> .nil
theorem quG{w:World}{base:Option Addr}{n c:Nat}{xs:List Int}(h:IntsAt w base n c xs)(bx:Nat->Option Nat):VR (qg5 base n bx) w (.sl (qtw base) (xs.map (.int .i64))) (.slice base n c):=by
 cases base with
 |none=>
  obtain⟨rfl,rfl⟩:=h.nil rfl;have:xs=[]:=List.length_eq_zero_iff.1 h.len;subst this;exact .nil
 |some ad=>
  have key:VR (qg5 (some ad) n bx) w (.sl .sub (xs.map (.int .i64))) (.slice (some ad) (xs.map (DV.int .i64)).length c):=by
   refine .row _ _ ad c 1 (fun k=> .int .i64 (xs.getD k 0)) (by simp) (by simpa[h.len]using h.cap) h.capm (fun k hk=> ?_) ?_ (fun i x hx=> ?_) (fun i x j v hi hj=> ?_) (fun a sz ht=>by simp at ht)
   ·have hk':k<xs.length:=by simpa using hk
    obtain⟨h1,h2⟩:=h.cell ad rfl (by have:=h.len;omega);have:ad.add k=⟨ad.block,ad.off+k,none⟩:=by
     obtain⟨bk,o,sp⟩:=ad;simp only at h1;subst h1;unfold Addr.add;split<;>simp_all
    rw[this,h2 k xs[k] (by simp[hk'])];simp[List.getD,hk']
   ·by_cases hn:0<n
    ·right
     simp only[qg5];rw[if_pos ⟨trivial,hn⟩];simp[h.len]
    ·left;have:=h.len;simp;cases xs with|nil=>rfl|cons _ _=>simp at this;omega
   ·simp only[List.getElem?_map,Option.map_eq_some_iff]at hx
    obtain⟨y,_,rfl⟩:=hx;exact⟨rfl,fun v hv=>by simp[DV.cells]at hv;subst hv;rfl⟩
   ·simp only[List.getElem?_map,Option.map_eq_some_iff]at hi
    obtain⟨y,hy,rfl⟩:=hi;cases j with
    |succ j=>simp[DV.cells]at hj
    |zero=>
     simp[DV.cells]at hj;subst hj
     simp only[Nat.mul_one,Nat.add_zero,List.getD,hy,Option.getD_some];exact .int _ _
  rw[List.length_map,h.len]at key;exact key
theorem qpM{w:World}{base:Option Addr}{n c:Nat}{xs:List Int}(h:IntsAt w base n c xs)(bx:Nat->Option Nat)(b:Nat)(hb:w.heap.size<=b):(qg5 base n bx).K b=0:=by
 cases base with
 |none=>rfl
 |some ad=>
  simp only[qg5];rw[if_neg]
  rintro⟨rfl,hn⟩
  have:=h.lt rfl hn;omega
theorem qzH(t:Tag)(xs:List Int):(AV.d (is xs)).fit (.d (.sl t (xs.map (.int .i64)))):=by
 simp only[AV.fit,is,DV.fit];refine⟨_,rfl,_,_,rfl,?_,.inl rfl⟩;rw[DV.qa3];refine⟨rfl,fun i x y hx hy=> ?_⟩;rw[hx]at hy;simp only[Option.some.injEq]at hy;subst hy;simp only[List.getElem?_map,Option.map_eq_some_iff]at hx;obtain⟨z,_,rfl⟩:=hx;simp only[DV.fit]
theorem qzG(t:Tag)(xs:List Int):(AV.d (is xs)).own (.d (.sl t (xs.map (.int .i64))))=[]:=by
 have hs:(.sub:Tag)≠U:=by decide
 simp only[AV.own,is,DV.own,hs,false_and,if_false,List.nil_append];have:∀(l:List Int) (m:List DV),DV.owns (l.map (.int .i64)) m=[]:=by
  intro l
  induction l with
  |nil=>intro m;simp[DV.owns]
  |cons a r ih=>intro m;cases m<;>simp[DV.owns,DV.own,ih]
 exact this xs _
theorem qod{X:XEnv}(hX:XOK X)(hE:EnvOK P fid X.env){k:Nat}(hq:∀(l:List Int) (n:Int),l.length<=140737488355328->qac X k [.d (is l),.d (.int .i64 n)] []=some (.d (.bool (l.contains n)),[]))
 {w:World} {base:Option Addr} {n c:Nat} {xs:List Int} (h:IntsAt w base n c xs) (m:Int):
 Calls P (fid k) #[.slice base n c,.int .i64 m] w fun e w'=>e= .returned (.bool (xs.contains m))/\Below w.heap.size w w':=by
 have hlim:=h.lim;have hown:∀ℓ,qaa (qad 0 [.d (is xs),.d (.int .i64 m)]) [] (qad 0 [.d (.sl (qtw base) (xs.map (.int .i64))),.d (.int .i64 m)]) [] ℓ=[]:=by
  intro ℓ;cases ℓ with
  |box j=>simp[qaa,qbp,qaV]
  |reg t=>
   simp only[qaa,qbL,qad,lk]
   by_cases h0:t=0
   ·subst h0;simp only[if_true];exact qzG _ _
   ·by_cases h1:t=0+1
    ·subst h1;simp[AV.own,DV.own]
    ·simp[h0]
     split<;>simp_all
 refine(qvT (P:=P) (fid:=fid) hX hE (hq xs m (by rw[h.len];omega)) (vs:=[.d (.sl (qtw base) (xs.map (.int .i64))),.d (.int .i64 m)]) (Bv:=[]) ?_ ⟨rfl,by simp⟩ hown (g:=qg5 base n (fun _=>none)) (w:=w) rfl ?_ ?_ (fun q j _=>rfl)).mono ?_
 ·simp only[AV.fits]
  exact⟨_,_,rfl,qzH _ _,_,_,rfl,by simp only[AV.fit,DV.fit];exact⟨_,rfl,rfl⟩,rfl⟩
 ·intro j v u hj hu
  match j with
  |0=>simp at hj hu;subst hj;subst hu;exact .d _ _ (quG h _)
  |1=>simp at hj hu;subst hj;subst hu;exact .d _ _ (.int _ _)
  |j+2=>simp at hj
 ·exact⟨fun i b hb=>by simp[qg5]at hb,fun i j b hb=>by simp[qg5]at hb,fun a ha=>by simp[Ids.none]at ha,fun a a' b x x' ha=>by simp[Ids.none]at ha,qpM h _⟩
 ·rintro e w' ⟨u,g',vv,A',Bv',rfl,hfit,_,hp⟩
  simp only[AV.fit,DV.fit]at hfit;obtain⟨y,rfl,rfl⟩:=hfit;have hu:=qcP hp.val;subst hu;exact⟨rfl,hp.step.os,hp.step.tape,hp.step.output,hp.step.size,fun b hb=>(hp.step.keep b hb (fun i h=>by simp[qg5]at h) (fun a h=>by simp[Ids.none]at h)).1⟩
theorem qlH{X:XEnv}(hX:XOK X)(hE:EnvOK P fid X.env){k kc:Nat}(hq:∀(l:List Int) (n:Int),l.length<=140737488355328->qac X k [.d (is l),.fn kc [.ptr 0 0]] [some [.d (.int .i64 n)]]=some (.d (.int .i64 (qdJ (qap (fun i=>decide (iAt l i>n)) l.length 0))),[some [.d (.int .i64 n)]]))
 {w:World} {base:Option Addr} {n c:Nat} {xs:List Int} (h:IntsAt w base n c xs) (m:Int) (pb:Nat) (ty:TypeId) (hpb:w.heap[pb]?=some (.cells #[.int .i64 m] ty (0,0))) (hne:∀ad,base=some ad->0<n->ad.block≠pb):
 Calls P (fid k) #[.slice base n c,.func (.func (fid kc)) #[] #[.pointer (some ⟨pb,0,none⟩)]] w fun e w'=>e= .returned (.int .i64 (qdJ (qap (fun i=>decide (iAt xs i>m)) xs.length 0)))/\
  w'.os=w.os/\w'.tape=w.tape/\w'.output=w.output/\w.heap.size<=w'.heap.size/\(∀b,b<w.heap.size->b≠pb->w'.heap[b]?=w.heap[b]?)/\w'.cell? ⟨pb,0,none⟩=some (.int .i64 m):=by
 have hlim:=h.lim;have hpl:pb<w.heap.size:=(Array.getElem?_eq_some_iff.1 hpb).1;have hown:∀ℓ,qaa (qad 0 [.d (is xs),.fn kc [.ptr 0 0]]) [some [.d (.int .i64 m)]] (qad 0 [.d (.sl (qtw base) (xs.map (.int .i64))),.fn kc [.ptr 0 0]]) [some [.d (.int .i64 m)]] ℓ=[]:=by
  intro ℓ;cases ℓ with
  |box j=>
   cases j with
   |zero=>simp[qaa,qbp,qaV,AV.owns,AV.own,DV.own]
   |succ j=>simp[qaa,qbp,qaV]
  |reg t=>
   simp only[qaa,qbL,qad,lk]
   by_cases h0:t=0
   ·subst h0;simp only[if_true];exact qzG _ _
   ·by_cases h1:t=0+1
    ·subst h1;simp[AV.own]
    ·simp[h0]
     split<;>simp_all
 have hbx:∀i b,(qg5 base n (fun i=>if i=0 then some pb else none)).bx i=some b->i=0/\b=pb:=by
  intro i b hb;simp only[qg5]at hb;split at hb
  ·rename_i hi;simp at hb;exact⟨hi,hb.symm⟩
  ·simp at hb
 refine(qvT (P:=P) (fid:=fid) hX hE (hq xs m (by rw[h.len];omega)) (vs:=[.d (.sl (qtw base) (xs.map (.int .i64))),.fn kc [.ptr 0 0]]) (Bv:=[some [.d (.int .i64 m)]]) ?_ ?_ hown (g:=qg5 base n (fun i=>if i=0 then some pb else none)) (w:=w) rfl ?_ ?_ (fun q j _=>rfl)).mono ?_
 ·simp only[AV.fits]
  refine⟨_,_,rfl,qzH _ _,_,_,rfl,?_,rfl⟩;simp only[AV.fit,AV.fits];exact⟨_,rfl,⟨_,_,rfl,rfl,rfl⟩,by simp[AV.owns,AV.own]⟩
 ·refine⟨rfl,fun i=> ?_⟩
  cases i with
  |zero=>exact⟨by simp,fun cs hcs=>by simp at hcs;subst hcs;exact⟨_,rfl,AV.qbE (by simp only[AV.fit,DV.fit];exact⟨_,rfl,rfl⟩)⟩⟩
  |succ i=>simp
 ·intro j v u hj hu
  match j with
  |0=>simp at hj hu;subst hj;subst hu;exact .d _ _ (quG h _)
  |1=>
   simp at hj hu;subst hj;subst hu
   exact .fn kc _ _ rfl fun j v u h1 h2=>by
    cases j with
    |zero=>simp at h1 h2;subst h1;subst h2;exact .ptr 0 0 pb rfl
    |succ j=>simp at h1
  |j+2=>simp at hj
 ·refine⟨fun i b hb=> ?_,fun i j b hb hb'=>by rw[(hbx i b hb).1,(hbx j b hb').1],fun a ha=>by simp[Ids.none]at ha,fun a a' b x x' ha=>by simp[Ids.none]at ha,qpM h _⟩
  obtain⟨rfl,rfl⟩:=hbx i b hb;refine⟨[.d (.int .i64 m)],_,ty,rfl,hpb,by simp,fun j v u h1 h2=> ?_,fun v hv=>by simp at hv;subst hv;exact⟨rfl,qaL _ _⟩,?_⟩
  ·cases j with
   |zero=>simp at h1 h2;subst h1;subst h2;exact .d _ _ (.int _ _)
   |succ j=>simp at h1
  ·cases base with
   |none=>rfl
   |some ad=>simp only[qg5];rw[if_neg];rintro⟨he,hn⟩;exact hne ad rfl hn he.symm
 ·rintro e w' ⟨u,g',vv,A',Bv',rfl,hfit,hbf,hp⟩
  simp only[AV.fit,DV.fit]at hfit;obtain⟨y,rfl,rfl⟩:=hfit;have hu:=qbh hp.val;subst hu;refine⟨rfl,hp.step.os,hp.step.tape,hp.step.output,hp.step.size,fun b hb hbp=>(hp.step.keep b hb (fun i h=>hbp (hbx i b h).2) (fun a h=>by simp[Ids.none]at h)).1,?_⟩;have hb0:=hp.boxes.old 0 pb rfl;obtain⟨cs,arr,e',c1,c2,c3,c4,_⟩:=hp.core.box 0 pb hb0;obtain⟨ds,d1,d2⟩:=(hbf.2 0).2 _ rfl;rw[c1]at d1;simp at d1;subst d1
  simp only[AV.fits,AV.fit,DV.fit]at d2;obtain⟨_,_,rfl,⟨_,rfl,rfl⟩,rfl⟩:=d2;have hsz:0<arr.size:=by simp at c3;omega
  have:=qbh (c4 0 _ arr[0] rfl (by simp[hsz]));simp[World.cell?,c2,hsz,this]
theorem qb4(b:Nat):∀(vs:List Value) (o:Nat) (w:World) (arr:Array Value) (t:TypeId),w.heap[b]?=some (.cells arr t (0,0))->∃arr',(w.setCells b o vs).heap[b]?=some (.cells arr' t (0,0))/\arr'.size=arr.size
 | [],o,w,arr,t,h=>⟨arr,h,rfl⟩
 |v::r,o,w,arr,t,h=>by
  obtain⟨arr',h1,h2⟩:=qb4 b r (o+1) (w.setCell ⟨b,o,none⟩ v) _ t (heap_setCell_same w b o arr t v h);exact⟨arr',h1,by rw[h2];simp⟩
theorem qbK(b:Nat):∀(vs:List Value) (o:Nat) (w:World) (k:Nat),k≠b->(w.setCells b o vs).heap[k]?=w.heap[k]?
 | [],o,w,k,h=>rfl
 |v::r,o,w,k,h=>by
  rw[World.setCells,qbK b r (o+1) _ k h];exact heap_setCell_other w _ k v h
theorem qb3(b:Nat):∀(vs:List Value) (o:Nat) (w:World),(w.setCells b o vs).os=w.os/\(w.setCells b o vs).tape=w.tape/\(w.setCells b o vs).output=w.output/\(w.setCells b o vs).heap.size=w.heap.size
 | [],o,w=>⟨rfl,rfl,rfl,rfl⟩
 |v::r,o,w=>by
  obtain⟨h1,h2,h3,h4⟩:=qb3 b r (o+1) (w.setCell ⟨b,o,none⟩ v);exact⟨h1,h2,h3,by rw[World.setCells,h4];simp[World.setCell]⟩
structure InsertSays(P:Program)(f:FuncId)(T:TypeId):Prop where
 shift:∀(b off n c i vb voff m vc:Nat) (cs vs:List Value) (w:World),i<n->0<m->n+m<=c->c<=9223372036854775807->vb≠b->cs.length=n->vs.length=m->
  (∀(j:Nat) (v:Value),cs[j]?=some v->w.cell? ⟨b,off+j,none⟩=some v)->(∀j,j<n+m->(w.cell? ⟨b,off+j,none⟩).isSome=true)->(∀j,j<n+m->w.frozen? ⟨b,off+j,none⟩=false)->
  (∀(j:Nat) (v:Value),vs[j]?=some v->w.cell? ⟨vb,voff+j,none⟩=some v)->(∀v∈cs,v.oneCell'=true)->(∀v∈vs,v.oneCell'=true)->∀(tA tB:TypeId) (kA kB:Nat),w.shape? vb=some (tA,kA)->w.shape? b=some (tB,kB)->kB≠0->
  w.frozen? ⟨vb,voff,none⟩=false->w.frozen? ⟨vb,kA,none⟩=false->Calls P f #[.slice (some ⟨b,off,none⟩) n c,.int .i64 i,.slice (some ⟨vb,voff,none⟩) m vc] w fun e w'=>
   e= .returned (.slice (some ⟨b,off,none⟩) (n+m) c)/\w'=(w.drew.setCells b (off+(i+m)) (cs.drop i)).setCells b (off+i) vs
 room:∀(b off n c vb voff m vc:Nat) (vs:List Value) (w:World),0<m->n+m<=c->c<=9223372036854775807->vs.length=m->(∀j,j<m->(w.cell? ⟨b,off+n+j,none⟩).isSome=true)->(∀j,j<m->w.frozen? ⟨b,off+n+j,none⟩=false)->
  (∀(j:Nat) (v:Value),vs[j]?=some v->w.cell? ⟨vb,voff+j,none⟩=some v)->(∀v∈vs,v.oneCell'=true)->Calls P f #[.slice (some ⟨b,off,none⟩) n c,.int .i64 n,.slice (some ⟨vb,voff,none⟩) m vc] w fun e w'=>
   e= .returned (.slice (some ⟨b,off,none⟩) (n+m) c)/\w'=w.setCells b (off+n) vs
 endGrow:∀(base:Option Addr) (n c vb voff m vc:Nat) (cs vs:List Value) (w:World),0<m->n<=c->c<n+m->(n+m)*8<=140737488355328->cs.length=n->vs.length=m->(base=none->n=0)->
  (∀a,base=some a->∀(j:Nat) (v:Value),cs[j]?=some v->w.cell? (a.add j)=some v)->(∀(j:Nat) (v:Value),vs[j]?=some v->w.cell? ⟨vb,voff+j,none⟩=some v)->(∀v∈vs,v.oneCell'=true)->
  Calls P f #[.slice base n c,.int .i64 n,.slice (some ⟨vb,voff,none⟩) m vc] w fun e w'=>e= .returned (.slice (some ⟨w.heap.size,0,none⟩) (n+m) (grownCap w (n+m) c T))/\
   w'=w.drew.alloc (.cells ((cs++vs).toArray++Builtin.zeroCells (Value.int .i64 0).cells (grownCap w (n+m) c T-(n+m))) T)
 grow:∀(b off n c i vb voff m vc:Nat) (cs vs:List Value) (w:World),i<n->0<m->n<=c->c<n+m->(n+m)*8<=140737488355328->cs.length=n->vs.length=m->(∀(j:Nat) (v:Value),cs[j]?=some v->w.cell? ⟨b,off+j,none⟩=some v)->
  (∀(j:Nat) (v:Value),vs[j]?=some v->w.cell? ⟨vb,voff+j,none⟩=some v)->(∀v∈cs,v.oneCell'=true)->(∀v∈vs,v.oneCell'=true)->Calls P f #[.slice (some ⟨b,off,none⟩) n c,.int .i64 i,.slice (some ⟨vb,voff,none⟩) m vc] w fun e w'=>
   e= .returned (.slice (some ⟨w.heap.size,0,none⟩) (n+m) (grownCap w (n+m) c T))/\
   w'=(((w.alloc (.cells ((cs.take i).toArray++Builtin.zeroCells (Value.int .i64 0).cells (n+m-i)++Builtin.zeroCells (Value.int .i64 0).cells (grownCap w (n+m) c T-(n+m))) T)).drew.setCells w.heap.size i vs).drew).setCells w.heap.size (i+m) (cs.drop i)
theorem qcg{w:World}{b:Nat}{arr:Array Value}{t:TypeId}{z:Nat×Nat}(h:w.heap[b]?=some (.cells arr t z))(k:Nat):w.cell? ⟨b,k,none⟩=arr[k]?:=by simp[World.cell?,h]
theorem qcc(w:World)(o:Obj):(w.alloc o).heap[w.heap.size]?=some o:=by show(w.heap.push o)[w.heap.size]?=some o;simp
theorem qaG(w:World)(o:Obj):(w.alloc o).heap.size=w.heap.size+1:=by show(w.heap.push o).size=_;simp
theorem qkO(n:Nat):(Builtin.zeroCells (Value.int .i64 0).cells n).size=n:=by rw[size_zeroCells];simp[Value.cells]
theorem qhH(l:List Int):∀v∈l.map (Value.int .i64),v.oneCell'=true:=by
 intro v hv;obtain⟨x,_,rfl⟩:=List.mem_map.1 hv;rfl
structure Inserted(w w':World)(e:Ending)(xs:List Int)(g:Option Nat):Prop where
 ret:∃blk cap arr ty,e= .returned (.slice (some ⟨blk,0,none⟩) xs.length cap)/\(g=some blk\/w.heap.size<=blk)/\w'.heap[blk]?=some (.cells arr ty (0,0))/\cap<=arr.size/\xs.length<=cap/\cap<=maxLen/\
  ∀(j:Nat) (x:Int),xs[j]?=some x->arr[j]?=some (.int .i64 x)
 os:w'.os=w.os
 tape:w'.tape=w.tape
 output:w'.output=w.output
 size:w.heap.size<=w'.heap.size
 block:∀b,b<w.heap.size->g≠some b->w'.heap[b]?=w.heap[b]?
theorem qrF{f:FuncId}{T:TypeId}(hi:InsertSays P f T)(w:World)(vb:Nat)(v:Int)(hv:w.cell? ⟨vb,0,none⟩=some (.int .i64 v))(base:Option Addr):
 Calls P f #[.slice base 0 0,.int .i64 (0:Nat),.slice (some ⟨vb,0,none⟩) 1 1] w fun e w'=>Inserted w w' e [v] none:=by
 refine(hi.endGrow base 0 0 vb 0 1 1 [] [.int .i64 v] w (by omega) (by omega) (by omega) (by omega) rfl rfl (fun _=>rfl) (fun a _ j x hx=>by simp at hx) (fun j x hx=>by
  cases j with
  |zero=>simp at hx;subst hx;exact hv
  |succ j=>simp at hx) (fun x hx=>by simp at hx;subst hx;rfl)).mono ?_
 rintro e w' ⟨rfl,rfl⟩
 have hg:=grownCap_ge w (0+1) 0 T;refine⟨⟨w.heap.size,_,_,T,rfl,.inr (Nat.le_refl _),qcc w.drew _,?_,hg,grownCap_le_maxLen w _ _ _ (by unfold maxLen;omega),fun j x hx=> ?_⟩,rfl,rfl,rfl,by rw[qaG];exact Nat.le_succ _,fun b hb _=>Below.heap_alloc w.drew _ b hb⟩
 ·rw[Array.size_append,qkO];simp;omega
 ·cases j with
  |zero=>simp at hx;subst hx;rw[Array.getElem?_append_left (by simp)];rfl
  |succ j=>simp at hx
theorem qkp{f:FuncId}{T:TypeId}(hi:InsertSays P f T)(w:World)(g cap:Nat)(arr:Array Value)(ty:TypeId)(xs:List Int)(i:Nat)(vb:Nat)(ty2:TypeId)(v:Int)(hg:w.heap[g]?=some (.cells arr ty (0,0)))(hcap:cap<=arr.size)(hn:xs.length<=cap)(hm:cap<=maxLen)
 (hxs:∀(j:Nat) (x:Int),xs[j]?=some x->arr[j]?=some (.int .i64 x)) (hlim:(xs.length+1)*8<=140737488355328) (hv:w.heap[vb]?=some (.cells #[.int .i64 v] ty2 (0,0))) (hne:vb≠g) (hile:i<=xs.length):
 Calls P f #[.slice (some ⟨g,0,none⟩) xs.length cap,.int .i64 (i:Nat),.slice (some ⟨vb,0,none⟩) 1 1] w fun e w'=>Inserted w w' e (xs.take i++v::xs.drop i) (some g):=by
 have hgl:g<w.heap.size:=(Array.getElem?_eq_some_iff.1 hg).1;have hcell:∀k,w.cell? ⟨g,k,none⟩=arr[k]?:=qcg hg;have hvc:w.cell? ⟨vb,0,none⟩=some (.int .i64 v):=by rw[qcg hv];rfl
 have hvs:∀(j:Nat) (x:Value),[Value.int .i64 v][j]?=some x->w.cell? ⟨vb,0+j,none⟩=some x:=fun j x hx=>by
  cases j with
  |zero=>simp at hx;subst hx;exact hvc
  |succ j=>simp at hx
 have h1v:∀x∈[Value.int .i64 v],x.oneCell'=true:=fun x hx=>by simp at hx;subst hx;rfl
 have hcs:∀(j:Nat) (x:Value),(xs.map (Value.int .i64))[j]?=some x->w.cell? ⟨g,0+j,none⟩=some x:=fun j x hx=>by
  simp only[List.getElem?_map,Option.map_eq_some_iff]at hx;obtain⟨y,hy,rfl⟩:=hx;rw[Nat.zero_add,hcell];exact hxs j y hy
 have hfz:∀k,w.frozen? ⟨g,k,none⟩=false:=fun k=>by simp[World.frozen?,hg]
 have hsome:∀k,k<arr.size->(w.cell? ⟨g,k,none⟩).isSome=true:=fun k hk=>by rw[hcell];simp[hk]
 have hmx:maxLen=9223372036854775807:=rfl;have hlen:(xs.take i++v::xs.drop i).length=xs.length+1:=by simp;omega
 have hget:∀j,(xs.take i++v::xs.drop i)[j]?=if j<i then xs[j]? else if j=i then some v else xs[j-1]?:=by
  intro j
  by_cases h1:j<i
  ·rw[if_pos h1,List.getElem?_append_left (by simp;omega),List.getElem?_take,if_pos h1]
  ·rw[if_neg h1,List.getElem?_append_right (by simp;omega)]
   have:(xs.take i).length=i:=by simp;omega
   rw[this]
   by_cases h2:j=i
   ·subst h2;simp
   ·rw[if_neg h2,show j-i=(j-i-1)+1 by omega,List.getElem?_cons_succ,List.getElem?_drop]
    congr 1;omega
 by_cases hroom:xs.length+1<=cap
 ·by_cases hend:i=xs.length
  ·subst hend
   refine(hi.room g 0 xs.length cap vb 0 1 1 [.int .i64 v] w (by omega) hroom (by omega) rfl (fun j hj=>hsome _ (by omega)) (fun j _=>hfz _) hvs h1v).mono ?_
   rintro e w' ⟨rfl,rfl⟩
   obtain⟨arr',a1,a2⟩:=qb4 g [.int .i64 v] (0+xs.length) w arr ty hg;obtain⟨r1,r2,r3,r4⟩:=qb3 g [.int .i64 v] (0+xs.length) w;refine⟨⟨g,cap,arr',ty,by rw[hlen],.inl rfl,a1,by omega,by rw[hlen];exact hroom,hm,fun j x hx=> ?_⟩,r1,r2,r3,by omega,fun b hb hb'=>qbK g _ _ w b (fun h=>hb' (by rw[h]))⟩;rw[hget]at hx;rw[<-qcg a1]
   by_cases h1:j<xs.length
   ·rw[if_pos h1]at hx
    rw[World.cell?_setCells_out g _ _ w _ (fun _ _=> .inl (by simpa using h1)),hcell];exact hxs j x hx
   ·rw[if_neg h1]at hx
    by_cases h2:j=xs.length
    ·rw[if_pos h2]at hx;simp at hx;subst hx;subst h2
     have:=World.cell?_setCells_in g [.int .i64 v] (0+xs.length) w (fun j hj=>hsome _ (by simp at hj;omega)) 0 (by simp);simpa using this
    ·rw[if_neg h2]at hx
     have:=(List.getElem?_eq_some_iff.1 hx).1;omega
  ·have hlt:i<xs.length:=by omega
   refine(hi.shift g 0 xs.length cap i vb 0 1 1 (xs.map (.int .i64)) [.int .i64 v] w hlt (by omega) hroom (by omega) hne (by simp) rfl hcs (fun j hj=>by rw[Nat.zero_add];exact hsome _ (by omega)) (fun j _=>hfz _) hvs (qhH xs) h1v ty2 ty 1 arr.size
    (by simp[World.shape?,hv]) (by simp[World.shape?,hg]) (by omega) (by simp[World.frozen?,hv]) (by simp[World.frozen?,hv])).mono ?_
   rintro e w' ⟨rfl,rfl⟩
   obtain⟨arr1,a1,a2⟩:=qb4 g ((xs.map (Value.int .i64)).drop i) (0+(i+1)) w.drew arr ty hg;obtain⟨arr',b1,b2⟩:=qb4 g [.int .i64 v] (0+i) _ arr1 ty a1;obtain⟨r1,r2,r3,r4⟩:=qb3 g ((xs.map (Value.int .i64)).drop i) (0+(i+1)) w.drew;obtain⟨s1,s2,s3,s4⟩:=qb3 g [.int .i64 v] (0+i) (w.drew.setCells g (0+(i+1)) ((xs.map (Value.int .i64)).drop i));refine⟨⟨g,cap,arr',ty,by rw[hlen],.inl rfl,b1,by omega,by rw[hlen];exact hroom,hm,fun j x hx=> ?_⟩,s1.trans r1,s2.trans r2,s3.trans r3,by rw[s4,r4];exact Nat.le_refl _,fun b hb hb'=>by
    rw[qbK g _ _ _ b (fun h=>hb' (by rw[h])),qbK g _ _ _ b (fun h=>hb' (by rw[h]))];rfl⟩
   rw[hget]at hx;rw[<-qcg b1];have hsm:∀(j:Nat),j<((xs.map (Value.int .i64)).drop i).length->(w.drew.cell? ⟨g,0+(i+1)+j,none⟩).isSome=true:=fun j hj=>by
    simp at hj;exact hsome _ (by omega)
   by_cases h1:j<i
   ·rw[if_pos h1]at hx
    rw[World.cell?_setCells_out g _ _ _ _ (fun _ _=> .inl (by simpa using h1)),World.cell?_setCells_out g _ _ _ _ (fun _ _=> .inl (by show j<0+(i+1);omega))];exact(hcell j).trans (hxs j x hx)
   ·rw[if_neg h1]at hx
    by_cases h2:j=i
    ·rw[if_pos h2]at hx;simp at hx;subst hx;subst h2
     have:=World.cell?_setCells_in g [.int .i64 v] (0+j) (w.drew.setCells g (0+(j+1)) ((xs.map (Value.int .i64)).drop j)) (fun k hk=>by rw[qcg a1];simp at hk;simp;omega) 0 (by simp);simpa using this
    ·rw[if_neg h2]at hx
     have hjl:=(List.getElem?_eq_some_iff.1 hx).1;rw[World.cell?_setCells_out g _ _ _ _ (fun _ _=> .inr (by show 0+i+1<=j;omega))];have:=World.cell?_setCells_in g ((xs.map (Value.int .i64)).drop i) (0+(i+1)) w.drew hsm (j-(i+1)) (by simp;omega);rw[show 0+(i+1)+(j-(i+1))=j by omega]at this;rw[this];have hx2:xs[j-1]=x:=(List.getElem?_eq_some_iff.1 hx).2;simp only[List.getElem_drop,List.getElem_map];rw[<-hx2]
     congr 3;omega
 ·by_cases hend:i=xs.length
  ·subst hend
   refine(hi.endGrow (some ⟨g,0,none⟩) xs.length cap vb 0 1 1 (xs.map (.int .i64)) [.int .i64 v] w (by omega) hn (by omega) hlim (by simp) rfl (fun h=>by simp at h) (fun a ha j x hx=>by
    simp only[Option.some.injEq]at ha;subst ha
    have:(⟨g,0,none⟩:Addr).add j=⟨g,0+j,none⟩:=by unfold Addr.add;split<;>simp_all
    rw[this];exact hcs j x hx) hvs h1v).mono ?_
   rintro e w' ⟨rfl,rfl⟩
   have hgc:=grownCap_ge w (xs.length+1) cap T;refine⟨⟨w.heap.size,_,_,T,by rw[hlen],.inr (Nat.le_refl _),qcc w.drew _,?_,by rw[hlen];exact hgc,grownCap_le_maxLen w _ _ _ (by omega),fun j x hx=> ?_⟩,rfl,rfl,rfl,by rw[qaG];exact Nat.le_succ _,fun b hb _=>Below.heap_alloc w.drew _ b hb⟩
   ·rw[Array.size_append,qkO];simp;omega
   ·have hj:=(List.getElem?_eq_some_iff.1 hx).1
    rw[hlen]at hj;rw[List.take_length,List.drop_length]at hx;rw[Array.getElem?_append_left (by simp;omega)];have:(xs.map (Value.int .i64)++[Value.int .i64 v])=(xs++[v]).map (Value.int .i64):=by simp
    rw[this,List.getElem?_toArray,List.getElem?_map,hx];rfl
  ·have hlt:i<xs.length:=by omega
   refine(hi.grow g 0 xs.length cap i vb 0 1 1 (xs.map (.int .i64)) [.int .i64 v] w hlt (by omega) hn (by omega) hlim (by simp) rfl hcs hvs (qhH xs) h1v).mono ?_
   rintro e w' ⟨rfl,rfl⟩
   have hgc:=grownCap_ge w (xs.length+1) cap T;generalize hA:(((xs.map (Value.int .i64)).take i).toArray++Builtin.zeroCells (Value.int .i64 0).cells (xs.length+1-i)++Builtin.zeroCells (Value.int .i64 0).cells (grownCap w (xs.length+1) cap T-(xs.length+1)))=A0;have hA0:A0.size=grownCap w (xs.length+1) cap T:=by
    rw[<-hA,Array.size_append,Array.size_append,qkO,qkO];simp;omega
   obtain⟨arr1,a1,a2⟩:=qb4 w.heap.size [.int .i64 v] i (w.alloc (.cells A0 T)).drew A0 T (qcc w _);obtain⟨arr',b1,b2⟩:=qb4 w.heap.size ((xs.map (Value.int .i64)).drop i) (i+1) (((w.alloc (.cells A0 T)).drew.setCells w.heap.size i [.int .i64 v]).drew) arr1 T a1;obtain⟨r1,r2,r3,r4⟩:=qb3 w.heap.size [.int .i64 v] i (w.alloc (.cells A0 T)).drew;obtain⟨s1,s2,s3,s4⟩:=qb3 w.heap.size ((xs.map (Value.int .i64)).drop i) (i+1) (((w.alloc (.cells A0 T)).drew.setCells w.heap.size i [.int .i64 v]).drew);refine⟨⟨w.heap.size,_,arr',T,by rw[hlen],.inr (Nat.le_refl _),b1,by omega,by rw[hlen];exact hgc,grownCap_le_maxLen w _ _ _ (by omega),fun j x hx=> ?_⟩,s1.trans r1,s2.trans r2,s3.trans r3,by
    rw[s4];show w.heap.size<=((w.alloc (.cells A0 T)).drew.setCells w.heap.size i [.int .i64 v]).heap.size;rw[r4];show w.heap.size<=(w.alloc (.cells A0 T)).heap.size;rw[qaG];exact Nat.le_succ _,fun b hb _=>by
    rw[qbK _ _ _ _ b (by omega)];show((w.alloc (.cells A0 T)).drew.setCells w.heap.size i [.int .i64 v]).heap[b]?=_;rw[qbK _ _ _ _ b (by omega)];exact Below.heap_alloc w _ b hb⟩
   rw[hget]at hx;rw[<-qcg b1];have c1:∀k,(w.alloc (.cells A0 T)).drew.cell? ⟨w.heap.size,k,none⟩=A0[k]?:=qcg (qcc w (.cells A0 T));have c2:∀k,(((w.alloc (.cells A0 T)).drew.setCells w.heap.size i [.int .i64 v]).drew).cell? ⟨w.heap.size,k,none⟩=arr1[k]?:=qcg a1
   by_cases h1:j<i
   ·rw[if_pos h1]at hx
    rw[World.cell?_setCells_out _ _ _ _ _ (fun _ _=> .inl (by show j<i+1;omega))];show((w.alloc (.cells A0 T)).drew.setCells w.heap.size i [.int .i64 v]).cell? ⟨w.heap.size,j,none⟩=_;rw[World.cell?_setCells_out _ _ _ _ _ (fun _ _=> .inl h1),c1,<-hA,Array.append_assoc,Array.getElem?_append_left (by simp;omega)];simp[List.getElem?_take,h1,hx]
   ·rw[if_neg h1]at hx
    by_cases h2:j=i
    ·rw[if_pos h2]at hx;simp at hx;subst hx;subst h2
     rw[World.cell?_setCells_out _ _ _ _ _ (fun _ _=> .inl (by show j<j+1;omega))];have:=World.cell?_setCells_in w.heap.size [.int .i64 v] j (w.alloc (.cells A0 T)).drew (fun k hk=>by rw[c1];simp at hk;simp;omega) 0 (by simp);simpa using this
    ·rw[if_neg h2]at hx
     have hjl:=(List.getElem?_eq_some_iff.1 hx).1;have:=World.cell?_setCells_in w.heap.size ((xs.map (Value.int .i64)).drop i) (i+1) (((w.alloc (.cells A0 T)).drew.setCells w.heap.size i [.int .i64 v]).drew) (fun k hk=>by rw[c2];simp at hk;simp;omega) (j-(i+1)) (by simp;omega);rw[show i+1+(j-(i+1))=j by omega]at this;rw[this];have hx2:xs[j-1]=x:=(List.getElem?_eq_some_iff.1 hx).2;simp only[List.getElem_drop,List.getElem_map];rw[<-hx2]
     congr 3;omega
end Go.Proofs.Ytfiakfiocdfpbaa.VS
