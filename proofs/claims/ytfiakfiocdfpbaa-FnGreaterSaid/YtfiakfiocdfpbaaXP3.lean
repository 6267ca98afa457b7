/- Contracts of the program's functions on the evaluator without names, and plain lemmas: part 3. -/
import Derived.Test.YtfiakfiocdfpbaaXP2
import Derived.Test.YtfiakfiocdfpbaaNat1
import Derived.Test.YtfiakfiocdfpbaaEngC
import Derived.Shelf.Spec.SlicesInsertGrow
import Derived.Laws.AppendOwn
set_option linter.unusedSimpArgs false
set_option linter.unusedVariables false
namespace Go.Proofs.Ytfiakfiocdfpbaa.VS
def qlJ:VCode:= .seq (.ghost (.frzB 3 2 [2]) (.region false 0 [2] qll)) .ret
def qdD:VCode:= .seq (.region false 0 [0,2,3,4,38] qiO) (.block 2 (.seq (.region false 0 [0,2,3,4,38,39] qiN) (.cond (.t 39) (.region false 0 [2,3] quD) (.seq (.region false 0 [0,2,3,4,38,47] qg0) (.cond (.t 47) (.region false 0 [2,3] qod) (.seq (.region false 0 [0,2,3,4,38,55] qiP) (.cond (.t 55) (.regionT 0 [2,3] qln qfK) (.seq (.region false 0 [0,2,3,69] qlm) (.cond (.t 69) (.seq (.region false 0 [2] qoc) .ret) .skip)))))))))
theorem qBk:qC5=⟨1,[.cell 2 true 3],.seq (.region false 1 [0,2] quH) (.seq (.region false 4 [0,2,3] quG) (.seq (.region false 0 [0,2,3,4] quF) (.seq (.seq (.region false 0 [0,2,3,4,5] quE) (.block 0 (.loop [0,2,3,4,5] qjF))) (.seq qdD qlJ))))⟩:=rfl
def qCZ(bs:List Int)(B:qaj)(n:Nat):Prop:=B.length=6/\qcE bs 0 B/\B[1]?=some (some [.d (.int .i64 0),.d (.int .i64 0),.d (.sl U [])])/\
 ∃(c5:List AV) (ds5:List DV) (t':T),B[5]?=some (some c5)/\qdN (AV.frzC (qcw 2 B) 6) c5=some ds5/\ds5.map DV.clr=fcs [t']/\t'.inner<=n/\t'.rng
theorem WS.read5{bs:List Int}{j k:Nat}{B:qaj}{A D:List T}{f v:Int}{ks:List T}{N:Nat}(h:WS bs j k B A D f v ks N)(u:T)(g:Tag)(X:List DV)(hX:X.map DV.clr=u.kids.map (T.enc .sub))(n:Nat)(hn:N+u.inner<=n)(hur:u.rng):
 qCZ bs (B.set j (some (qcG A (.d (.int .i64 u.f)) (.d (.int .i64 u.v)) (.d (.sl g X)) D))) n:=by
 have hj:=h.j2;have hjk:=h.jk;have hlen:=h.len;obtain⟨c5,ds5,t',e1,e2,e3,e4,e5⟩:=h.read (B':=B.set j (some (qcG A (.d (.int .i64 u.f)) (.d (.int .i64 u.v)) (.d (.sl g X)) D))) (by simp[hlen]) (fun i hi=>by rw[qfb (by omega)]) u g X hX (by rw[List.getElem?_set_self (by omega)]);refine⟨by simp[hlen],?_,by rw[qfb (by omega)];exact h.one,c5,ds5,t',e1,e2,e3,by omega,e5 hur⟩;obtain⟨pos,st,hp,hb⟩:=h.seed;exact⟨pos,st,hp,by simp only[qaV];rw[qfb (by omega),qc8 hb]⟩
theorem qjk(ks:List T):(ks.map (T.enc U)).map DV.clr=ks.map (T.enc .sub):=qcB _ _
theorem qso(bs:List Int)(hl:bs.length<=1099511627776){j k:Nat}{B:qaj}{A D:List T}{f v:Int}{ks:List T}{N:Nat}(h:WS bs j k B A D f v ks N)(x5 x22:DV):
 (∃(r':List (Nat×AV)) (B':qaj),qaC XV (XV.lin 161) qdD ⟨[(0,.ptr 0 0),(2,.ptr 1 0),(3,.ptr 5 0),(4,.ptr j (A.length*3)),(5,.d x5),(22,.d x22)],B⟩=some (.normal,⟨r',B'⟩)/\lk r' 2=some (.ptr 1 0)/\lk r' 3=some (.ptr 5 0)/\qCZ bs B' 12)\/
 (∃(t:T) (g:Tag) (B':qaj),qaC XV (XV.lin 161) qdD ⟨[(0,.ptr 0 0),(2,.ptr 1 0),(3,.ptr 5 0),(4,.ptr j (A.length*3)),(5,.d x5),(22,.d x22)],B⟩=some (.ret,⟨[(2,.ptr 1 0)],B'⟩)/\qcE bs 0 B'/\B'.length=6/\B'[1]?=some (some [.d (.int .i64 t.f),.d (.int .i64 t.v),.d (.sl g (t.kids.map (T.enc g)))])/\t.inner<=14/\t.rng):=by
 obtain⟨r,B1,hr,hT1,hc⟩:=qcp bs hl B 0 h.seed 12 (by omega) (by omega);have h1:=h.turn hT1;have hat:=h1.at_;have hjl:j<B1.length:=by have:=h1.jk;rw[h1.len];omega
 have hj2:=h.j2;have hjk:=h.jk;have hsz:=h.siz;have keepT:∀(B':qaj),qcd bs 0 B1 B'->B'[j]?=some (some (qcG A (.d (.int .i64 f)) (.d (.int .i64 v)) (.d (.sl U (ks.map (T.enc U)))) D)):=fun B' hT=>(h1.turn hT).at_
 by_cases c0:r=0
 ·subst c0
  obtain⟨i,hi,B2,hT2,hc2⟩:=qeB bs hl B1 0 h1.seed [-2,-1,0,5,7] (by simp) (by simp);generalize ([-2,-1,0,5,7]:List Int)[i]=x at hc2;have h2:=h1.turn hT2;have hat2:=h2.at_;have hl2:=h2.len;have hB2:∀h:j<B2.length,B2[j]'h=some (qcG A (.d (.int .i64 f)) (.d (.int .i64 v)) (.d (.sl U (ks.map (T.enc U)))) D):=fun h=>(List.getElem?_eq_some_iff.1 hat2).2
  have hrl:=qc4 A (.d (.int .i64 f)) (.d (.int .i64 v)) (.d (.sl U (ks.map (T.enc U)))) D;have hsp:=qBv A (.d (.int .i64 f)) (.d (.int .i64 v)) (.d (.sl U (ks.map (T.enc U)))) (.d (.int .i64 x)) D;have hle:A.length*3+1<=A.length*3+3+D.length*3:=by omega
  have hj6:j<6:=by omega
  have hin:∀a b:Int,(T.node a b ks).inner=(T.node f v ks).inner:=fun a b=>by simp only[T.inner]
  have hres:=h2.read5 (.node x v ks) U (ks.map (T.enc U)) (qjk ks) 12 (by rw[hin];omega) ⟨h.rg.1,h.rg.2⟩;simp only[T.qdq,T.qfk]at hres;refine .inl ⟨[(2,.ptr 1 0),(3,.ptr 5 0)],_,?_,rfl,rfl,hres⟩;simp only[List.map_cons,List.map_nil]at hc2;generalize qcG A (.d (.int .i64 f)) (.d (.int .i64 v)) (.d (.sl U (ks.map (T.enc U)))) D=R at*
  generalize qcG A (.d (.int .i64 x)) (.d (.int .i64 v)) (.d (.sl U (ks.map (T.enc U)))) D=R' at*
  simp[qdD,qiO,qiN,quD,hc,hc2,hl2,hB2,hj6,hrl,hsp,hle,qaK,List.replicate,qad,qan,qaI,qbh]
 by_cases c1:r=1
 ·subst c1
  obtain⟨i,hi,B2,hT2,hc2⟩:=qeB bs hl B1 0 h1.seed [-1,1,99,100] (by simp) (by simp);have hxx:∀y:Int,y∈([-1,1,99,100]:List Int)->-9223372036854775808<=y/\y<=9223372036854775807:=fun y hy=>by
   simp only[List.mem_cons,List.not_mem_nil,or_false]at hy;omega
  have hxr:=hxx _ (List.getElem_mem hi);generalize ([-1,1,99,100]:List Int)[i]=x at hc2 hxr;have h2:=h1.turn hT2;have hat2:=h2.at_;have hl2:=h2.len;have hB2:∀h:j<B2.length,B2[j]'h=some (qcG A (.d (.int .i64 f)) (.d (.int .i64 v)) (.d (.sl U (ks.map (T.enc U)))) D):=fun h=>(List.getElem?_eq_some_iff.1 hat2).2
  have hrl:=qc4 A (.d (.int .i64 f)) (.d (.int .i64 v)) (.d (.sl U (ks.map (T.enc U)))) D;have hsp:=qBu A (.d (.int .i64 f)) (.d (.int .i64 v)) (.d (.sl U (ks.map (T.enc U)))) (.d (.int .i64 x)) D;have hle:A.length*3+1+1<=A.length*3+3+D.length*3:=by omega
  have hj6:j<6:=by omega
  have hin:∀a b:Int,(T.node a b ks).inner=(T.node f v ks).inner:=fun a b=>by simp only[T.inner]
  have hres:=h2.read5 (.node f x ks) U (ks.map (T.enc U)) (qjk ks) 12 (by rw[hin];omega) ⟨hxr,h.rg.2⟩;simp only[T.qdq,T.qfk]at hres;refine .inl ⟨[(2,.ptr 1 0),(3,.ptr 5 0)],_,?_,rfl,rfl,hres⟩;simp only[List.map_cons,List.map_nil]at hc2;generalize qcG A (.d (.int .i64 f)) (.d (.int .i64 v)) (.d (.sl U (ks.map (T.enc U)))) D=R at*
  generalize qcG A (.d (.int .i64 f)) (.d (.int .i64 x)) (.d (.sl U (ks.map (T.enc U)))) D=R' at*
  simp[qdD,qiO,qiN,qg0,qod,hc,hc2,hl2,hB2,hj6,hrl,hsp,hle,qaK,List.replicate,qad,qan,qaI,qbh]
 have n0:(r==0)=false:=by simpa using c0
 have n1:(r==1)=false:=by simpa using c1
 by_cases c2:r=2
 ·subst c2
  have hs:=h1.seed;obtain⟨pos,st,hp,hb0⟩:=hs;obtain⟨t2,g2,B2,hi2,⟨pos2,st2,hp2,rfl⟩,hc2⟩:=qft bs hl 1 (by omega) 2 (by omega) [some (qbi bs pos st)] 0 ⟨pos,st,hp,rfl⟩;simp only[List.set_cons_zero]at hc2;have h2:=h1.turn (B':=B1.set 0 (some (qbi bs pos2 st2))) ⟨pos2,st2,hp2,rfl⟩;have hl1:=h1.len;have hB1:∀h:j<B1.length,B1[j]'h=some (qcG A (.d (.int .i64 f)) (.d (.int .i64 v)) (.d (.sl U (ks.map (T.enc U)))) D):=fun h=>(List.getElem?_eq_some_iff.1 hat).2
  have hX:(ks.map (T.enc U)++[t2.enc g2]).map DV.clr=(T.node f v (ks++[t2])).kids.map (T.enc .sub):=by
   rw[List.map_append,qcB,T.qbb,List.map_append];simp
  have hin:N+(T.node f v (ks++[t2])).inner<=12:=by
   have e1:(T.node f v (ks++[t2])).inner=ks.length+1+(T.inners ks+(t2.inner+0)):=by
    rw[T.qgG,T.qbb,qeY];simp only[List.length_append,List.length_cons,List.length_nil,T.inners]
   have e2:(T.node f v ks).inner=ks.length+T.inners ks:=by rw[T.qgG,T.qbb]
   omega
  have hres:=h2.read5 (.node f v (ks++[t2])) U _ hX 12 hin ⟨h.rg.1,qk2 h.rg.2 ⟨hi2.2,trivial⟩⟩;simp only[T.qdq,T.qfk]at hres;have hj0:(0:Nat)≠j:=by omega
  have hkl:(ks.length+1)*40<=140737488355328:=by
   have e2:(T.node f v ks).inner=ks.length+T.inners ks:=by rw[T.qgG,T.qbb]
   omega
  have ha:qbl 3 40 (.sl U (ks.map (T.enc U))) (.sl .sub [t2.enc g2])=some (.sl U (ks.map (T.enc U)++[t2.enc g2])):=by
   unfold qbl;simp only;rw[if_pos (by simp[qad,qal])];simp only[List.isEmpty_cons,Bool.false_eq_true,if_false];rw[if_pos ⟨by simpa using hkl,trivial,by simp⟩]
  have hrl:=qc4 A (.d (.int .i64 f)) (.d (.int .i64 v)) (.d (.sl .sub (ks.map (T.enc .sub)))) D;have hg2:=qo3 A (.d (.int .i64 f)) (.d (.int .i64 v)) (.d (.sl U (ks.map (T.enc U)))) D;have hsp:=qtX A (.d (.int .i64 f)) (.d (.int .i64 v)) (.d (.sl .sub (ks.map (T.enc .sub)))) (.d (.sl U (ks.map (T.enc U)++[t2.enc g2]))) D;have hRl:A.length*3+2<(qcG A (.d (.int .i64 f)) (.d (.int .i64 v)) (.d (.sl U (ks.map (T.enc U)))) D).length:=by rw[qc4];omega
  have hclr:qb5 B1 j (A.length*3+2) 1=B1.set j (some (qcG A (.d (.int .i64 f)) (.d (.int .i64 v)) (.d (.sl .sub (ks.map (T.enc .sub)))) D)):=by
   unfold qb5;simp only[qaV,hat];rw[List.drop_eq_getElem_cons hRl,(List.getElem?_eq_some_iff.1 hg2).2];simp only[List.take_succ_cons,List.take_zero,AV.clrs,AV.clr,DV.clr,DV.qav,qcB];rw[qtX]
  have hld:qae B1 false 1 j (A.length*3+2)=some (.d (.sl U (ks.map (T.enc U)))):=by
   simp only[qae,qaV,hat,Option.bind_some,Bool.false_eq_true,if_false,hg2]
  have heq:((B1.set j (some (qcG A (.d (.int .i64 f)) (.d (.int .i64 v)) (.d (.sl .sub (ks.map (T.enc .sub)))) D))).set 0 (some (qbi bs pos2 st2))).set j (some (qcG A (.d (.int .i64 f)) (.d (.int .i64 v)) (.d (.sl U (ks.map (T.enc U)++[t2.enc g2]))) D))=(B1.set 0 (some (qbi bs pos2 st2))).set j (some (qcG A (.d (.int .i64 f)) (.d (.int .i64 v)) (.d (.sl U (ks.map (T.enc U)++[t2.enc g2]))) D)):=by
   rw[List.set_comm _ _ (Ne.symm hj0),List.set_set]
  rw[<-heq]at hres;have hle:A.length*3+2+1<=A.length*3+3+D.length*3:=by omega
  have hj6:j<6:=by omega
  have hn6:¬6<=j:=by omega
  have hj0':¬j=0:=by omega
  refine .inl ⟨[(2,.ptr 1 0),(3,.ptr 5 0)],_,?_,rfl,rfl,hres⟩;have g0:(B1.set j (some (qcG A (.d (.int .i64 f)) (.d (.int .i64 v)) (.d (.sl .sub (ks.map (T.enc .sub)))) D)))[0]?=some (some (qbi bs pos st)):=by rw[qfb (Ne.symm hj0),qc8 hb0]
  have gl:(B1.set j (some (qcG A (.d (.int .i64 f)) (.d (.int .i64 v)) (.d (.sl .sub (ks.map (T.enc .sub)))) D))).length=6:=by simp[hl1]
  have gj:((B1.set j (some (qcG A (.d (.int .i64 f)) (.d (.int .i64 v)) (.d (.sl .sub (ks.map (T.enc .sub)))) D))).set 0 (some (qbi bs pos2 st2)))[j]?=some (some (qcG A (.d (.int .i64 f)) (.d (.int .i64 v)) (.d (.sl .sub (ks.map (T.enc .sub)))) D)):=by rw[qfb hj0,List.getElem?_set_self (by omega)]
  clear hres heq hat keepT hB1;generalize hR':qcG A (.d (.int .i64 f)) (.d (.int .i64 v)) (.d (.sl .sub (ks.map (T.enc .sub)))) D=R' at*
  generalize qcG A (.d (.int .i64 f)) (.d (.int .i64 v)) (.d (.sl U (ks.map (T.enc U)++[t2.enc g2]))) D=R'' at*
  generalize hB3:B1.set j (some R')=B3 at*
  have g0':∀h:0<B3.length,B3[0]'h=some (qbi bs pos st):=fun h=>(List.getElem?_eq_some_iff.1 g0).2
  have hsd:=qd8 bs pos st;have hsd1:=qd8 bs pos2 st2;have hcl:=qcS bs pos st;have hcl1:=qcS bs pos2 st2;generalize qbi bs pos st=S0 at*
  generalize qbi bs pos2 st2=S1 at*
  have gj':∀h:j<(B3.set 0 (some S1)).length,(B3.set 0 (some S1))[j]'h=some R':=fun h=>(List.getElem?_eq_some_iff.1 gj).2
  have hc2':qac XV 166 [.ptr 0 0,.d (.int .i64 1),.d (.int .i64 2)] [some S0]=some (.d (t2.enc g2),[some S1]):=hc2;simp[qdD,qiO,qiN,qg0,qiP,qCB,hc,hl1,gl,hn6,hj6,hld,hclr,hc2',g0',hsd,hsd1,hcl,hcl1,ha,hsp,hrl,hle,gj',gj,qaK,List.replicate,qad,qal,qan,qaI,qbh,-qb5,-qae,lk,hj0']
 have n2:(r==2)=false:=by simpa using c2
 by_cases c3:r=3
 ·subst c3
  obtain⟨t2,g2,B2,hi2,hT2,hc2⟩:=qft bs hl 3 (by omega) 3 (by omega) B1 0 h1.seed;have h2:=h1.turn hT2;have hl2:=h2.len;have h21:=h2.one;have hB21:∀h:1<B2.length,B2[1]'h=some [.d (.int .i64 0),.d (.int .i64 0),.d (.sl U [])]:=fun h=>(List.getElem?_eq_some_iff.1 h21).2
  obtain⟨f2,vw2,ks2⟩:=t2;obtain⟨pos2,st2,hp2,hb2⟩:=h2.seed;have hc2':qac XV 166 [.ptr 0 0,.d (.int .i64 3),.d (.int .i64 3)] B1=some (.d ((T.node f2 vw2 ks2).enc g2),B2):=hc2;refine .inr ⟨.node f2 vw2 ks2,g2,B2.set 1 (some [.d (.int .i64 f2),.d (.int .i64 vw2),.d (.sl g2 (ks2.map (T.enc g2)))]),?_,⟨pos2,st2,hp2,by simp only[qaV];rw[qfb (by omega),qc8 hb2]⟩,by simp[hl2],by rw[List.getElem?_set_self (by omega)];simp,by have:=hi2.1;simp at this;omega,hi2.2⟩;simp[qdD,qiO,qiN,qg0,qiP,qlm,qoc,hc,hc2',hl2,hB21,splice,qad,qal,qan,qaI,qbh]
 have n3:(r==3)=false:=by simpa using c3
 have hin:qCZ bs B1 12:=by
  have:=h1.read5 (.node f v ks) U (ks.map (T.enc U)) (qjk ks) 12 (by omega) h.rg;simp only[T.qdq,T.qfk]at this;rwa[show B1.set j (some (qcG A (.d (.int .i64 f)) (.d (.int .i64 v)) (.d (.sl U (ks.map (T.enc U)))) D))=B1 from by
   apply List.ext_getElem?;intro i
   by_cases hij:j=i
   ·subst hij;rw[List.getElem?_set_self',hat];simp
   ·rw[List.getElem?_set_ne hij]]at this
 refine .inl ⟨[(0,.ptr 0 0),(2,.ptr 1 0),(3,.ptr 5 0),(69,.d (.bool false))],B1,?_,rfl,rfl,hin⟩;simp[qdD,qiO,qiN,qg0,qiP,qlm,hc,n0,n1,n2,n3]
end Go.Proofs.Ytfiakfiocdfpbaa.VS
namespace Go.Proofs.Ytfiakfiocdfpbaa.VS
theorem qva(bs:List Int)(hl:bs.length<=1099511627776)(pos st:Int)(hp:0<=pos/\pos<=bs.length):
 ∃(t:T) (g:Tag) (pos' st':Int),(t.inner<=14/\t.rng)/\(0<=pos'/\pos'<=bs.length)/\qac XV 161 [.ptr 0 0] [some (qbi bs pos st)]=some (.d (t.enc g),[some (qbi bs pos' st')]):=by
 have hs0:qcE bs 0 [some (qbi bs pos st),some [.d (.int .i64 0),.d (.int .i64 0),.d (.sl U [])],none,none,none,none]:=⟨pos,st,hp,rfl⟩;obtain⟨t0,B1,hi0,_,⟨pos1,st1,hp1,rfl⟩,hc⟩:=qeJ bs hl 3 (by omega) _ 0 hs0;simp only[List.set_cons_zero]at hc;obtain⟨f,v,ks⟩:=t0;have hW:WS bs 5 0 [some (qbi bs pos1 st1),some [.d (.int .i64 0),.d (.int .i64 0),.d (.sl U [])],none,none,none,some [.d (.int .i64 f),.d (.int .i64 v),.d (.sl U (ks.map (T.enc U)))]] [] [] f v ks 0:=by
  refine⟨rfl,by omega,rfl,⟨pos1,st1,hp1,rfl⟩,rfl,fun i h1 h2=> ?_,rfl,fun rs hr=> ?_,Ctx.base _,by omega,hi0.2⟩
  ·rcases i with _|_|_|_|_|i<;>first|omega|rfl
  ·simp[qgJ rs hr bs pos1 st1,qeq]
 obtain⟨j,k,B2,A,D,f',v',ks',N,hW2,hloop⟩:=qB2 bs hl 3 5 0 _ [] [] f v ks 0 rfl hW ⟨[(0,.ptr 0 0),(2,.ptr 1 0),(3,.ptr 5 0),(4,.ptr 5 0),(5,.d (.int .i64 0))],[some (qbi bs pos1 st1),some [.d (.int .i64 0),.d (.int .i64 0),.d (.sl U [])],none,none,none,some [.d (.int .i64 f),.d (.int .i64 v),.d (.sl U (ks.map (T.enc U)))]]⟩ (by simp[qai,qab]);have hcase:=qso bs hl hW2 (.int .i64 k) (.bool false);have start:∀q:Option (AV×qaj),qDU 1 [.cell 2 true 3] (qaC XV (XV.lin 161) (.seq qdD qlJ) ⟨[(0,.ptr 0 0),(2,.ptr 1 0),(3,.ptr 5 0),(4,.ptr j (A.length*3)),(5,.d (.int .i64 k)),(22,.d (.bool false))],B2⟩)=q->qac XV 161 [.ptr 0 0] [some (qbi bs pos st)]=q:=by
  intro q hq;rw[qAM XV _ _ _ qC5 rfl qs9 rfl (m:=1) rfl rfl,qBk];simp only[qky,qnj,qcS];rw[<-hq];simp only[qu5]at hloop⊢
  generalize VCode.seq qdD qlJ=G;simp[quH,quG,quF,quE,hc,splice,qad,qal,qan,qaI];rw[hloop];simp
 rcases hcase with⟨r',B',e1,e2,e3,hlen,⟨pos2,st2,hp2,hb⟩,hone,c5,ds5,t',q1,q2,q3,q4,q5⟩|⟨t,g,B',e1,⟨pos2,st2,hp2,hb⟩,hlen,hone,hi,hir⟩
 ·obtain⟨C,hf⟩:=qGi B' (some (qbi bs pos2 st2)) none _ _ _ hlen (qc8 hb) hone r' e2 e3 t' c5 ds5 q1 q2 q3
  refine⟨t',.sub,pos2,st2,⟨by omega,q5⟩,hp2,start _ ?_⟩;rw[qeK,e1];simp only[qhp];unfold qlJ;rw[hf];obtain⟨f2,vw2,ks2⟩:=t';simp[qae]
 ·refine⟨t,g,pos2,st2,⟨hi,hir⟩,hp2,start _ ?_⟩
  rw[qeK,e1];simp only[ql9];obtain⟨f2,vw2,ks2⟩:=t
  match B',hlen with
  | [b0,b1,b2,b3,b4,b5],_=>
   have hb0:=qc8 hb;simp at hb0 hone;subst hb0;subst hone
   simp[qae]
end Go.Proofs.Ytfiakfiocdfpbaa.VS
namespace Go.Proofs.Ytfiakfiocdfpbaa.VS
theorem qhf(bs:List Int)(pos st:Int):qaB (qbi bs pos st)=some [.sl .sub (bs.map (.int .u8)),.int .i64 pos,.int .i64 st]:=by simp[qbi]
end Go.Proofs.Ytfiakfiocdfpbaa.VS
namespace Go.Proofs.Ytfiakfiocdfpbaa.VS
end Go.Proofs.Ytfiakfiocdfpbaa.VS
namespace Go.Proofs.Ytfiakfiocdfpbaa.VS
end Go.Proofs.Ytfiakfiocdfpbaa.VS
namespace Go.Proofs.Ytfiakfiocdfpbaa.VS
end Go.Proofs.Ytfiakfiocdfpbaa.VS
namespace Go.Proofs.Ytfiakfiocdfpbaa.VS
end Go.Proofs.Ytfiakfiocdfpbaa.VS
namespace Go.Proofs.Ytfiakfiocdfpbaa.VS
def c00:Option (List AV):=some [.d (.int .i64 0),.d (.int .i64 0),.d (.sl U [])]
theorem qu9(bs:List Int)(hl:bs.length<=1099511627776):∃(a b:T),(a.inner<=14/\a.rng)/\(b.inner<=14/\b.rng)/\qac XV 180 [.d (.sl .sub (bs.map (.int .u8)))] []=some (.d (.tup [.sl U (qfF.map SymL.enc),a.enc .sub,b.enc .sub]),[]):=by
 obtain⟨st,h1⟩:=qyD bs hl [c00,c00];obtain⟨r,B1,hr,⟨p1,s1,hp1,rfl⟩,hc1⟩:=qcp bs hl [c00,c00,some (qbi bs 0 st)] 2 ⟨0,st,⟨Int.le_refl _,by omega⟩,rfl⟩ 3 (by omega) (by omega);obtain⟨a,B2,ha,_,⟨p2,s2,hp2,rfl⟩,hc2⟩:=qeJ bs hl r (by omega) [c00,c00,some (qbi bs p1 s1),none] 2 ⟨p1,s1,hp1,rfl⟩;obtain⟨af,av,ak⟩:=a;obtain⟨b,B3,hb,_,⟨p3,s3,hp3,rfl⟩,hc3⟩:=qeJ bs hl r (by omega) [c00,c00,some (qbi bs p2 s2),some [.d (.int .i64 af),.d (.int .i64 av),.d (qak U ak)],none] 2 ⟨p2,s2,hp2,rfl⟩;obtain⟨bf,bv,bk⟩:=b;obtain⟨q,B4,hq,⟨p4,s4,hp4,rfl⟩,hc4⟩:=qcp bs hl [c00,c00,some (qbi bs p3 s3),some [.d (.int .i64 af),.d (.int .i64 av),.d (qak U ak)],some [.d (.int .i64 bf),.d (.int .i64 bv),.d (qak U bk)]] 2 ⟨p3,s3,hp3,rfl⟩ 8 (by omega) (by omega);have hs:=qpT;generalize hsq:qfF.map SymL.enc=sq at hs⊢
 have hqc:sq.map DV.clr=sq:=by rw[<-hsq];exact qjA _
 simp[c00]at h1 hc1 hc2 hc3 hc4
 by_cases q0:q=0
 ·subst q0
  obtain⟨t,g,p5,s5,ht,hp5,hc5⟩:=qva bs hl p4 s4 hp4;obtain⟨tf,tv,tk⟩:=t;refine⟨.node af av ak,.node tf tv tk,⟨by omega,ha.2⟩,ht,?_⟩;rw[qar XV _ _ _ qw0 rfl qip rfl];simp[qw0,qpj,qpi,qph,qpg,qpf,qpe,qpd,qpc,qpb,qpa,qoE,h1,hc1,hc2,hc3,hc4,hc5,hs,hqc,qhf,qcS,splice,qad,qal,qan,qaI,qae]
 ·by_cases q1:q=1
  ·subst q1
   have hcp:=qgg (.node af av ak) (by omega);refine⟨.node af av ak,.node af av ak,⟨by omega,ha.2⟩,⟨by omega,ha.2⟩,?_⟩;rw[qar XV _ _ _ qw0 rfl qip rfl];simp[qw0,qpj,qpi,qph,qpg,qpf,qpe,qpd,qpc,qpb,qpa,qoE,h1,hc1,hc2,hc3,hc4,hcp,hs,hqc,qhf,qcS,splice,qad,qal,qan,qaI,qae]
  ·refine⟨.node af av ak,.node bf bv bk,⟨by omega,ha.2⟩,⟨by omega,hb.2⟩,?_⟩
   have e0:(q==0)=false:=by simpa using q0
   have e1:(q==1)=false:=by simpa using q1
   rw[qar XV _ _ _ qw0 rfl qip rfl];simp[qw0,qpj,qpi,qph,qpg,qpf,qpe,qpd,qpc,qpb,qpa,qoE,h1,hc1,hc2,hc3,hc4,e0,e1,hs,hqc,qhf,qcS,splice,qad,qal,qan,qaI,qae]
theorem qjW(bs:List Int)(hl:bs.length<=1099511627776):∃(a b:T),(a.inner<=14/\a.rng)/\(b.inner<=14/\b.rng)/\qac XV 177 [.d (.sl .sub (bs.map (.int .u8)))] []=some (.d (.tup [.sl U (qfF.map SymL.enc),a.enc .sub,b.enc .sub]),[]):=by
 obtain⟨a,b,ha,hb,h⟩:=qu9 bs hl;refine⟨a,b,ha,hb,?_⟩;rw[qar XV _ _ _ qC1 rfl qs3 rfl];obtain⟨f,v,ks⟩:=a;obtain⟨f',v',ks'⟩:=b;generalize hsq:qfF.map SymL.enc=sq at h⊢
 have hqc:sq.map DV.clr=sq:=by rw[<-hsq];exact qjA _
 simp[qC1,qzs,qzr,qGI,h,hqc,splice,qad,qal,qan,qaI,qae]
end Go.Proofs.Ytfiakfiocdfpbaa.VS
namespace Go.Proofs.Ytfiakfiocdfpbaa.VS
theorem qm6(q:Nat->Bool)(n:Nat)(h:(qaq q n 0).isNone=true):∀i,i<n->q i=false:=fun i hi=>by
 have:=(qfs q n 0).2 (by simpa using h) i (by omega) (by omega);exact this
end Go.Proofs.Ytfiakfiocdfpbaa.VS
namespace Go.Proofs.Ytfiakfiocdfpbaa.VS
mutual
def T.nodes:T->List T
 | .node f v ks=> .node f v ks::T.nodess ks
def T.nodess:List T->List T
 | []=>[]
 |t::r=>t.nodes++T.nodess r
end
mutual
theorem qfA(w:T->Int):∀t:T,T.sum w t=(t.nodes.map w).sum
 | .node f v ks=>by simp only[T.sum,T.nodes,List.map_cons,List.sum_cons,qj8 w ks]
theorem qj8(w:T->Int):∀l:List T,T.sums w l=((T.nodess l).map w).sum
 | []=>by simp[T.sums,T.nodess]
 |t::r=>by simp only[T.sums,T.nodess,List.map_append,List.sum_append,qfA w t,qj8 w r]
end
theorem qmf{l:List T}{w w':T->Int}(h:∀x,x∈l->w x<=w' x):(l.map w).sum<=(l.map w').sum:=by
 induction l with
 |nil=>simp
 |cons x l ih=>
  simp only[List.map_cons,List.sum_cons];have:=h x (by simp);have:=ih fun y hy=>h y (by simp[hy])
  omega
theorem qIu(n:Int)(x:T):0<=wC n x:=by unfold wC;split<;>omega
theorem qkW{α:Type}:∀l:List α,(l.map fun _=>(0:Int)).sum=0
 | []=>rfl
 |a::l=>by simp only[List.map_cons,List.sum_cons,qkW l];omega
theorem qD7{l:List T}{w:T->Int}(h:∀x,x∈l->0<=w x):0<=(l.map w).sum:=by
 have:=qmf (l:=l) (w:=fun _=>0) (w':=w) h;have e:=qkW l;omega
theorem qwg(t:T)(l:List Int)(hl:l.Pairwise (·<·)):(l.map fun n=>T.sum (wC n) t).sum<=T.sum (fun _=>1) t:=by
 have e:∀l:List Int,(l.map fun n=>T.sum (wC n) t).sum=(t.nodes.map fun x=>(l.map fun n=>wC n x).sum).sum:=by
  intro l
  induction l with
  |nil=>simp only[List.map_nil,List.sum_nil];exact(qkW _).symm
  |cons n l ih=>
   have h:∀N:List T,(N.map (wC n)).sum+(N.map fun x=>(l.map fun n=>wC n x).sum).sum=(N.map fun x=>wC n x+(l.map fun n=>wC n x).sum).sum:=by
    intro N
    induction N with
    |nil=>rfl
    |cons a N ih=>simp only[List.map_cons,List.sum_cons];omega
   simp only[List.map_cons,List.sum_cons,ih];rw[<-h,qfA]
 rw[e,qfA];refine qmf fun x _=> ?_
 have hz:∀l:List Int,x.v∉l->(l.map fun n=>wC n x).sum=0:=by
  intro l
  induction l with
  |nil=>intro _;rfl
  |cons n l ih=>
   intro hx;simp only[List.mem_cons,not_or]at hx;simp only[List.map_cons,List.sum_cons,ih hx.2];unfold wC;rw[if_neg (fun h=>hx.1 h.2)];omega
 induction l with
 |nil=>simp
 |cons n l ih=>
  rw[List.pairwise_cons]at hl;simp only[List.map_cons,List.sum_cons]
  by_cases hv:x.v=n
  ·have hn:x.v∉l:=fun hm=>by have:=hl.1 _ hm;omega
   rw[hz l hn];unfold wC;split<;>omega
  ·have:=ih hl.2
   have e0:wC n x=0:=by unfold wC;rw[if_neg (fun h=>hv h.2)]
   omega
end Go.Proofs.Ytfiakfiocdfpbaa.VS
namespace Go.Proofs.Ytfiakfiocdfpbaa.VS
def qdn(t:T)(n:Int):Int:=IntKind.i64.wrap (T.sum (wC n) t)
def qcj(l:List SymL)(t:T):Int:=IntKind.i64.wrap (T.sum (wW l) t)
def qcR(a b:T)(vs:List Int)(i:Nat):Bool:=decide (qdn a (iAt vs i)<qdn b (iAt vs i))
def qon(l:List SymL)(a b:T):Bool:=decide (qcj l a>qcj l b)||(decide (qcj l a=qcj l b)&&((qc2 a).length==0)&&((qc2 b).length==0)&&decide (T.cmp b a<0))
def qa6(l:List SymL)(a b:T):Bool:=qb7 l a&&qb7 l b&&(qaq (qcR a b (qc2 b)) (qc2 b).length 0).isNone&&qon l a b
theorem qyI(l:List SymL)(hs:l.length<=1099511627776)(f v:Int)(ks:List T)(f' v':Int)(ks':List T)(ha:(T.node f v ks).inner<=1099511627776)(hb:(T.node f' v' ks').inner<=1099511627776):
 qaC XV (XV.lin 178) (.region false 0 [6] qet) ⟨[(4,.ptr 0 0),(5,.ptr 1 0),(9,.d (.int .i64 (qcj l (.node f v ks)))),(10,.d (.int .i64 (qcj l (.node f' v' ks'))))],qah f v ks++qah f' v' ks'⟩=
  some (.normal,⟨[(6,.d (.bool (qon l (.node f v ks) (.node f' v' ks'))))],qah f v ks++qah f' v' ks'⟩):=by
 have g1:=qgk (.node f v ks) ha;have g2:=qgk (.node f' v' ks') hb;have b1:=qgl (.node f' v' ks') (.node f v ks) hb ha;unfold qon qah;generalize hx:qcj l (.node f v ks)=x;generalize hy:qcj l (.node f' v' ks')=y;generalize qc2 (.node f v ks)=va at g1⊢
 generalize qc2 (.node f' v' ks')=vb at g2⊢
 generalize decide (T.cmp (.node f' v' ks') (.node f v ks)<0)=cb at b1⊢
 generalize (va.length==0)=ga at g1⊢
 generalize (vb.length==0)=gb at g2⊢
 by_cases h1:x>y
 ·simp[qet,h1]
 ·by_cases h2:x=y
  ·subst h2
   cases ga<;>cases gb<;>simp[qet,g1,g2,b1]
  ·have h3:(x==y)=false:=by simp[h2]
   simp[qet,h1,h2,h3]
theorem qx2(l:List SymL)(hs:l.length<=1099511627776)(f v:Int)(ks:List T)(f' v':Int)(ks':List T)(ha:(T.node f v ks).inner<=1099511627776)(hb:(T.node f' v' ks').inner<=1099511627776):
 qaC XV (XV.lin 179) (.region false 0 [6] qes) ⟨[(4,.ptr 0 0),(5,.ptr 1 0),(9,.d (.int .i64 (qcj l (.node f v ks)))),(10,.d (.int .i64 (qcj l (.node f' v' ks'))))],qah f v ks++qah f' v' ks'⟩=
  some (.normal,⟨[(6,.d (.bool (qon l (.node f v ks) (.node f' v' ks'))))],qah f v ks++qah f' v' ks'⟩):=by
 have g1:=qfD (.node f v ks) ha;have g2:=qfD (.node f' v' ks') hb;have b1:=qc3 (.node f' v' ks') (.node f v ks) hb ha;unfold qon qah;generalize hx:qcj l (.node f v ks)=x;generalize hy:qcj l (.node f' v' ks')=y;generalize qc2 (.node f v ks)=va at g1⊢
 generalize qc2 (.node f' v' ks')=vb at g2⊢
 generalize decide (T.cmp (.node f' v' ks') (.node f v ks)<0)=cb at b1⊢
 generalize (va.length==0)=ga at g1⊢
 generalize (vb.length==0)=gb at g2⊢
 by_cases h1:x>y
 ·simp[qes,h1]
 ·by_cases h2:x=y
  ·subst h2
   cases ga<;>cases gb<;>simp[qes,g1,g2,b1]
  ·have h3:(x==y)=false:=by simp[h2]
   simp[qes,h1,h2,h3]
theorem qyH(l:List SymL)(f v:Int)(ks:List T)(f' v':Int)(ks':List T)(ha:(T.node f v ks).inner<=1099511627776)(hb:(T.node f' v' ks').inner<=1099511627776)(vs:List Int)(hl:vs.length<=2199023255552):
 qdM XV (XV.lin 178) 2 [0,4,5,22,23,24] qkC ⟨[(0,.d (sg l)),(4,.ptr 0 0),(5,.ptr 1 0),(22,.d (is vs)),(23,.d (.int .i64 vs.length)),(24,.d (.int .i64 0))],qah f v ks++qah f' v' ks'⟩=
  some (match qaq (qcR (.node f v ks) (.node f' v' ks') vs) vs.length 0 with
   |some _=>(.ret,⟨[(6,.d (.bool false))],qah f v ks++qah f' v' ks'⟩)
   |none=>(.exit 0,⟨[(0,.d (sg l)),(4,.ptr 0 0),(5,.ptr 1 0),(22,.d (is vs)),(23,.d (.int .i64 vs.length)),(24,.d (.int .i64 vs.length)),(25,.d (.bool false))],qah f v ks++qah f' v' ks'⟩)):=by
 have h:=qaA (X:=XV) (T:=XV.lin 178) (L:=2) (live:=[0,4,5,22,23,24]) (b:=qkC) (n:=vs.length) (st:=fun(_:Unit) i=>⟨[(0,.d (sg l)),(4,.ptr 0 0),(5,.ptr 1 0),(22,.d (is vs)),(23,.d (.int .i64 vs.length)),(24,.d (.int .i64 i))],qah f v ks++qah f' v' ks'⟩) (step:=qcs (qcR (.node f v ks) (.node f' v' ks') vs))
  (F:=fun _=>(.exit 0,⟨[(0,.d (sg l)),(4,.ptr 0 0),(5,.ptr 1 0),(22,.d (is vs)),(23,.d (.int .i64 vs.length)),(24,.d (.int .i64 vs.length)),(25,.d (.bool false))],qah f v ks++qah f' v' ks'⟩)) (R:=fun(_:Nat)=>(.ret,⟨[(6,.d (.bool false))],qah f v ks++qah f' v' ks'⟩))
  (fun a=>⟨by simp,by simp[qah,qkC,qhB,qhA,qhz,qkd,qpq,qpp,qwd,qpo,qpn,qqd,qet]⟩)
  (fun a i hi=>by
   have hw:=qax (n:=i) (by omega);have c1:=qhL (.node f v ks) ha (iAt vs i);have c2:=qhL (.node f' v' ks') hb (iAt vs i);unfold qcs
   by_cases hq:qcR (.node f v ks) (.node f' v' ks') vs i=true
   ·rw[if_pos hq]
    have hq2:qdn (.node f v ks) (iAt vs i)<qdn (.node f' v' ks') (iAt vs i):=by simpa[qcR]using hq
    unfold qdn at hq2;exact⟨by simp,by simp[qah,qkC,qhB,qhA,qhz,qkd,qpq,qpp,qwd,qpo,qpn,qqd,qet,hi,hw,cut,qcy hi,c1,c2,hq2]⟩
   ·rw[if_neg hq]
    have hq2:¬qdn (.node f v ks) (iAt vs i)<qdn (.node f' v' ks') (iAt vs i):=by simpa[qcR]using hq
    unfold qdn at hq2;exact⟨_,by simp[qah,qkC,qhB,qhA,qhz,qkd,qpq,qpp,qwd,qpo,qpn,qqd,qet,hi,hw,cut,qcy hi,c1,c2,hq2];rfl,by simp[qai,qab,qah]⟩)
  vs.length () 0 ⟨[(0,.d (sg l)),(4,.ptr 0 0),(5,.ptr 1 0),(22,.d (is vs)),(23,.d (.int .i64 vs.length)),(24,.d (.int .i64 0))],qah f v ks++qah f' v' ks'⟩ (by omega) (by simp[qai,qab,qah])
 rw[qo1]at h;rw[h];cases qaq (qcR (.node f v ks) (.node f' v' ks') vs) vs.length 0<;>rfl
theorem qcb(l:List SymL)(hs:l.length<=1099511627776)(hn:∀i,i<l.length->(qaz l i).name.size<=1099511627776)(a b:T)(ha:a.inner<=1099511627776)(hb:b.inner<=1099511627776):qac XV 178 [.d (sg l),.d (a.enc .sub),.d (b.enc .sub)] []=some (.d (.bool (qa6 l a b)),[]):=by
 obtain⟨f,v,ks⟩:=a;obtain⟨f',v',ks'⟩:=b;rw[qar XV _ _ _ qxR rfl qs2 rfl];have o1:=qgj l hs hn (.node f v ks) ha;have o2:=qgj l hs hn (.node f' v' ks') hb;have va:=qgi (.node f' v' ks') hb;have w1:=qd5 l hs (.node f v ks) ha;have w2:=qd5 l hs (.node f' v' ks') hb;have hloop:=qyH l f v ks f' v' ks' ha hb (qc2 (.node f' v' ks')) (by have:=qmc (.node f' v' ks') hb;omega);have hlast:=qyI l hs f v ks f' v' ks' ha hb;unfold qa6;unfold qcj at hlast
 by_cases h1:qb7 l (.node f v ks)=true
 ·rw[h1]at o1⊢
  by_cases h2:qb7 l (.node f' v' ks')=true
  ·rw[h2]at o2⊢
   simp only[qB9,qah,List.cons_append,List.nil_append]at hloop hlast;simp only[qkQ,List.replicate_zero,List.append_nil,List.length_cons,List.length_nil,Nat.zero_add,Nat.reduceAdd]at hlast;cases hq:qaq (qcR (.node f v ks) (.node f' v' ks') (qc2 (.node f' v' ks'))) (qc2 (.node f' v' ks')).length 0 with
   |none=>
    rw[hq]at hloop;simp[qxR,qhB,qhA,qhz,qkd,o1,o2,va];rw[hloop];simp[qqd,w1,w2];rw[hlast];simp
   |some j=>
    rw[hq]at hloop;simp[qxR,qhB,qhA,qhz,qkd,o1,o2,va];rw[hloop];simp
  ·have h2':qb7 l (.node f' v' ks')=false:=by simpa using h2
   rw[h2']at o2⊢
   simp[qxR,qhB,qhA,qhz,o1,o2]
 ·have h1':qb7 l (.node f v ks)=false:=by simpa using h1
  rw[h1']at o1⊢
  simp[qxR,qhB,qhA,qhz,o1]
theorem qx1(l:List SymL)(f v:Int)(ks:List T)(f' v':Int)(ks':List T)(ha:(T.node f v ks).inner<=1099511627776)(hb:(T.node f' v' ks').inner<=1099511627776)(vs:List Int)(hl:vs.length<=2199023255552):
 qdM XV (XV.lin 179) 2 [0,4,5,7,8] qkB ⟨[(0,.d (sg l)),(4,.ptr 0 0),(5,.ptr 1 0),(7,.d (is vs)),(8,.d (.int .i64 0))],qah f v ks++qah f' v' ks'⟩=
  some (match qaq (qcR (.node f v ks) (.node f' v' ks') vs) vs.length 0 with
   |some _=>(.ret,⟨[(6,.d (.bool false))],qah f v ks++qah f' v' ks'⟩)
   |none=>(.exit 0,⟨[(0,.d (sg l)),(4,.ptr 0 0),(5,.ptr 1 0),(7,.d (is vs)),(8,.d (.int .i64 vs.length)),(26,.d (.bool false))],qah f v ks++qah f' v' ks'⟩)):=by
 have h:=qaA (X:=XV) (T:=XV.lin 179) (L:=2) (live:=[0,4,5,7,8]) (b:=qkB) (n:=vs.length) (st:=fun(_:Unit) i=>⟨[(0,.d (sg l)),(4,.ptr 0 0),(5,.ptr 1 0),(7,.d (is vs)),(8,.d (.int .i64 i))],qah f v ks++qah f' v' ks'⟩) (step:=qcs (qcR (.node f v ks) (.node f' v' ks') vs))
  (F:=fun _=>(.exit 0,⟨[(0,.d (sg l)),(4,.ptr 0 0),(5,.ptr 1 0),(7,.d (is vs)),(8,.d (.int .i64 vs.length)),(26,.d (.bool false))],qah f v ks++qah f' v' ks'⟩)) (R:=fun(_:Nat)=>(.ret,⟨[(6,.d (.bool false))],qah f v ks++qah f' v' ks'⟩))
  (fun a=>⟨by simp,by simp[qah,qkB,qhy,qhx,qhw,qkc,qkb,qpm,qwc,qpk,qpl,qqc,qes]⟩)
  (fun a i hi=>by
   have hw:=qax (n:=i) (by omega);have c1:=qen (.node f v ks) ha (iAt vs i);have c2:=qen (.node f' v' ks') hb (iAt vs i);unfold qcs
   by_cases hq:qcR (.node f v ks) (.node f' v' ks') vs i=true
   ·rw[if_pos hq]
    have hq2:qdn (.node f v ks) (iAt vs i)<qdn (.node f' v' ks') (iAt vs i):=by simpa[qcR]using hq
    unfold qdn at hq2;exact⟨by simp,by simp[qah,qkB,qhy,qhx,qhw,qkc,qkb,qpm,qwc,qpk,qpl,qqc,qes,hi,hw,cut,qcy hi,c1,c2,hq2]⟩
   ·rw[if_neg hq]
    have hq2:¬qdn (.node f v ks) (iAt vs i)<qdn (.node f' v' ks') (iAt vs i):=by simpa[qcR]using hq
    unfold qdn at hq2;exact⟨_,by simp[qah,qkB,qhy,qhx,qhw,qkc,qkb,qpm,qwc,qpk,qpl,qqc,qes,hi,hw,cut,qcy hi,c1,c2,hq2];rfl,by simp[qai,qab,qah]⟩)
  vs.length () 0 ⟨[(0,.d (sg l)),(4,.ptr 0 0),(5,.ptr 1 0),(7,.d (is vs)),(8,.d (.int .i64 0))],qah f v ks++qah f' v' ks'⟩ (by omega) (by simp[qai,qab,qah])
 rw[qo1]at h;rw[h];cases qaq (qcR (.node f v ks) (.node f' v' ks') vs) vs.length 0<;>rfl
theorem qdx(l:List SymL)(hs:l.length<=1099511627776)(hn:∀i,i<l.length->(qaz l i).name.size<=1099511627776)(a b:T)(ha:a.inner<=1099511627776)(hb:b.inner<=1099511627776):qac XV 179 [.d (sg l),.d (a.enc .sub),.d (b.enc .sub)] []=some (.d (.bool (qa6 l a b)),[]):=by
 obtain⟨f,v,ks⟩:=a;obtain⟨f',v',ks'⟩:=b;rw[qar XV _ _ _ qxQ rfl qs1 rfl];have o1:=qfC l hs hn (.node f v ks) ha;have o2:=qfC l hs hn (.node f' v' ks') hb;have va:=qfB (.node f' v' ks') hb;have w1:=qdU l hs (.node f v ks) ha;have w2:=qdU l hs (.node f' v' ks') hb;have hloop:=qx1 l f v ks f' v' ks' ha hb (qc2 (.node f' v' ks')) (by have:=qmc (.node f' v' ks') hb;omega);have hlast:=qx2 l hs f v ks f' v' ks' ha hb;unfold qa6;unfold qcj at hlast
 by_cases h1:qb7 l (.node f v ks)=true
 ·rw[h1]at o1⊢
  by_cases h2:qb7 l (.node f' v' ks')=true
  ·rw[h2]at o2⊢
   simp only[qB8,qah,List.cons_append,List.nil_append]at hloop hlast;simp only[qkQ,List.replicate_zero,List.append_nil,List.length_cons,List.length_nil,Nat.zero_add,Nat.reduceAdd]at hlast;cases hq:qaq (qcR (.node f v ks) (.node f' v' ks') (qc2 (.node f' v' ks'))) (qc2 (.node f' v' ks')).length 0 with
   |none=>
    rw[hq]at hloop;simp[qxQ,qhy,qhx,qhw,qkc,qkb,o1,o2,va];rw[hloop];simp[qqc,w1,w2];rw[hlast];simp
   |some j=>
    rw[hq]at hloop;simp[qxQ,qhy,qhx,qhw,qkc,qkb,o1,o2,va];rw[hloop];simp
  ·have h2':qb7 l (.node f' v' ks')=false:=by simpa using h2
   rw[h2']at o2⊢
   simp[qxQ,qhy,qhx,qhw,o1,o2]
 ·have h1':qb7 l (.node f v ks)=false:=by simpa using h1
  rw[h1']at o1⊢
  simp[qxQ,qhy,qhx,qhw,o1]
end Go.Proofs.Ytfiakfiocdfpbaa.VS
namespace Go.Proofs.Ytfiakfiocdfpbaa.VS
end Go.Proofs.Ytfiakfiocdfpbaa.VS
namespace Go.Proofs.Ytfiakfiocdfpbaa.VS
end Go.Proofs.Ytfiakfiocdfpbaa.VS
namespace Go.Proofs.Ytfiakfiocdfpbaa.VS
end Go.Proofs.Ytfiakfiocdfpbaa.VS
namespace Go.Proofs.Ytfiakfiocdfpbaa.VS
theorem qrR(q:Nat->Bool)(n:Nat)(h:∀i,i<n->q i=false):(qaq q n 0).isNone=true:=by
 cases hq:qaq q n 0 with
 |none=>rfl
 |some j=>
  obtain⟨h1,h2,h3⟩:=qdj _ _ _ _ hq;rw[h j (by omega)]at h3;simp at h3
theorem qIs(l:List SymL)(x:T):0<=wW l x:=by unfold wW;split<;>omega
theorem qIt(l:List SymL)(x:T):wW l x<=(x.kids.length:Int)+1:=by unfold wW;split<;>omega
mutual
theorem qmb(l:List SymL):∀t:T,0<=T.sum (wW l) t/\T.sum (wW l) t<=2*(t.inner:Int)+1
 | .node f v ks=>by
  have h1:=qIs l (.node f v ks);have h2:=qIt l (.node f v ks);have h3:=qj4 l ks;simp only[T.sum,T.inner,T.qbb]at*
  omega
theorem qj4(l:List SymL):∀ks:List T,0<=T.sums (wW l) ks/\T.sums (wW l) ks<=2*(T.inners ks:Int)+ks.length
 | []=>by simp[T.sums,T.inners]
 |t::r=>by
  have h1:=qmb l t;have h2:=qj4 l r;simp only[T.sums,T.inners,List.length_cons];omega
end
theorem count_le(t:T)(n:Int):0<=T.sum (wC n) t/\T.sum (wC n) t<=(t.inner:Int)+1:=by
 have h:=qwg t [n] (List.pairwise_singleton _ _);simp only[List.map_cons,List.map_nil,List.sum_cons,List.sum_nil]at h;have h2:=qfA (wC n) t;have h3:=qD7 (l:=t.nodes) (w:=wC n) (fun x _=>qIu n x);have h4:=qnP t;omega
theorem qgx(t:T)(n:Int)(h:t.inner<=1099511627776):qdn t n=T.sum (wC n) t:=by
 have:=count_le t n;exact wrap_i64 (by omega) (by omega)
theorem qj5(l:List SymL)(t:T)(h:t.inner<=1099511627776):qcj l t=T.sum (wW l) t:=by
 have:=qmb l t;exact wrap_i64 (by omega) (by omega)
theorem qor(l:List SymL)(a b:T)(ha:a.inner<=1099511627776)(hb:b.inner<=1099511627776):qa6 l a b=true↔qb7 l a=true/\qb7 l b=true/\(∀n,n∈qc2 b->T.sum (wC n) b<=T.sum (wC n) a)/\
 (T.sum (wW l) b<T.sum (wW l) a\/(T.sum (wW l) a=T.sum (wW l) b/\qc2 a=[]/\qc2 b=[]/\T.cmp b a<0)):=by
 unfold qa6 qon;rw[qj5 l a ha,qj5 l b hb];simp only[Bool.and_eq_true,Bool.or_eq_true,decide_eq_true_eq,beq_iff_eq,List.length_eq_zero_iff];constructor
 ·rintro⟨⟨⟨h1,h2⟩,h3⟩,h4⟩
  refine⟨h1,h2,fun n hn=> ?_,?_⟩
  ·obtain⟨i,hi,rfl⟩:=List.getElem_of_mem hn
   have h5:=qm6 _ _ h3 i hi;unfold qcR at h5;rw[<-qcy hi,qgx a _ ha,qgx b _ hb]at h5;simpa using h5
  ·rcases h4 with h4|h4
   ·exact .inl h4
   ·exact .inr ⟨h4.1.1.1,h4.1.1.2,h4.1.2,h4.2⟩
 ·rintro⟨h1,h2,h3,h4⟩
  refine⟨⟨⟨h1,h2⟩,qrR _ _ fun i hi=> ?_⟩,?_⟩
  ·unfold qcR
   rw[<-qcy hi,qgx a _ ha,qgx b _ hb];simpa using h3 _ (List.getElem_mem hi)
  ·rcases h4 with h4|h4
   ·exact .inl h4
   ·exact .inr ⟨⟨⟨h4.1,h4.2.1⟩,h4.2.2.1⟩,h4.2.2.2⟩
theorem qoq(l:List SymL)(a:T)(ha:a.inner<=1099511627776):qa6 l a a=false:=by
 have:¬qa6 l a a=true:=fun h=>by
  obtain⟨_,_,_,h4⟩:=(qor l a a ha ha).1 h;have:=qlR a a;omega
 simpa using this
end Go.Proofs.Ytfiakfiocdfpbaa.VS
namespace Go.Proofs.Ytfiakfiocdfpbaa.VS
theorem qhM(l:List SymL)(a b:T)(h1:qa6 l a b=true)(h2:qa6 l b a=true):False:=by
 unfold qa6 at h1 h2;simp only[Bool.and_eq_true]at h1 h2;have l1:=h1.2;have l2:=h2.2;unfold qon at l1 l2;have hc:=qlR a b;simp only[Bool.or_eq_true,Bool.and_eq_true,decide_eq_true_eq]at l1 l2;omega
def orT(l:List SymL)(a b:T):T×T×Bool:=if qa6 l b a=true then(b,a,true)else(a,b,qa6 l a b)
theorem qiu(l:List SymL)(hs:l.length<=1099511627776)(hn:∀i,i<l.length->(qaz l i).name.size<=1099511627776)(a b:T)(ha:a.inner<=1099511627776)(hb:b.inner<=1099511627776):qac XV 339 [.d (sg l),.d (a.enc .sub),.d (b.enc .sub)] []=some (.d (.tup [(orT l a b).1.enc U,(orT l a b).2.1.enc U,.bool (orT l a b).2.2]),[]):=by
 rw[qar XV _ _ _ qBh rfl qs0 rfl];have g1:=qdx l hs hn b a hb ha;have g2:=qdx l hs hn a b ha hb;have c1:=qgg a ha;have c2:=qgg b hb;unfold orT;generalize qa6 l a b=q2 at*
 obtain⟨f,v,ks⟩:=a;obtain⟨f',v',ks'⟩:=b;cases hq:qa6 l (.node f' v' ks') (.node f v ks)with
 |true=>
  rw[hq]at g1;simp[qBh,qum,qul,qAr,qAq,g1,g2,c1,c2,splice,qad,qal,qan,qaI,qae]
 |false=>
  rw[hq]at g1;simp[qBh,qum,qul,qAr,qAq,g1,g2,c1,c2,splice,qad,qal,qan,qaI,qae]
theorem qjm(l:List SymL)(hs:l.length<=1099511627776)(hn:∀i,i<l.length->(qaz l i).name.size<=1099511627776)(a b:T)(ha:a.inner<=1099511627776)(hb:b.inner<=1099511627776):qac XV 340 [.d (sg l),.d (a.enc .sub),.d (b.enc .sub)] []=some (.d (.tup [(orT l a b).1.enc U,(orT l a b).2.1.enc U,.bool (orT l a b).2.2]),[]):=by
 rw[qar XV _ _ _ qzj rfl qsZ rfl];have g1:=qcb l hs hn b a hb ha;have g2:=qcb l hs hn a b ha hb;have has:=qhM l a b;have c1:=qfu a ha;have c2:=qfu b hb;unfold orT;generalize qa6 l a b=q2 at*
 obtain⟨f,v,ks⟩:=a;obtain⟨f',v',ks'⟩:=b;cases hq:qa6 l (.node f' v' ks') (.node f v ks)with
 |true=>
  rw[hq]at g1 has;cases q2 with
  |true=>exact(has rfl rfl).elim
  |false=>simp[qzj,qo9,qwb,qo8,qwa,qo7,qv9,qv8,g1,g2,c1,c2,splice,qad,qal,qan,qaI,qae]
 |false=>
  rw[hq]at g1;cases q2 with
  |true=>simp[qzj,qo9,qwb,qo8,qwa,qo7,qv9,qv8,g1,g2,c1,c2,splice,qad,qal,qan,qaI,qae]
  |false=>simp[qzj,qo9,qwb,qo8,qwa,qo7,qv9,qv8,g1,g2,c1,c2,splice,qad,qal,qan,qaI,qae]
end Go.Proofs.Ytfiakfiocdfpbaa.VS
namespace Go.Proofs.Ytfiakfiocdfpbaa.VS
theorem qgO:∀i,i<qfF.length->(qaz qfF i).name.size<=1099511627776:=fun i hi=>by have:=qD8.nm 9 (by omega) i hi;omega
end Go.Proofs.Ytfiakfiocdfpbaa.VS
namespace Go.Proofs.Ytfiakfiocdfpbaa.VS
theorem qmn(t:T)(ht:t.inner<=1099511627776):qac XV 4 [.d (t.enc .sub),.d (t.enc .sub)] []=some (.d (.bool true),[]):=by
 rw[same_eq t t ht ht];have:=qlR t t;have h:T.cmp t t=0:=by omega
 rw[h];rfl
theorem qoP(bs:List Int)(hl:bs.length<=maxLen):∃B,qac XV 363 [.d (.sl .sub (bs.map (.int .u8)))] []=some (.d (.bool true),B):=by
 rw[qar XV _ _ _ qBg rfl qsY rfl];have hbig:=qGS bs
 by_cases h1:1048576<bs.length
 ·simp only[h1,decide_true]at hbig
  simp[qBg,que,qud,quc,qub,qua,qt9,qt8,qt7,qt6,qt5,qoa,qn9,hbig]
 have hls:bs.length<=1099511627776:=by omega
 simp only[h1,decide_false]at hbig;obtain⟨a,b,⟨ha,_⟩,⟨hb,_⟩,d1⟩:=qjW bs hls;have o1:=qjm qfF (by decide) qgO a b (by omega) (by omega);have o2:=qiu qfF (by decide) qgO a b (by omega) (by omega);have g1:=qcb qfF (by decide) qgO a b (by omega) (by omega);have g2:=qcb qfF (by decide) qgO b a (by omega) (by omega);have g3:=qdx qfF (by decide) qgO a b (by omega) (by omega);have g4:=qcb qfF (by decide) qgO a a (by omega) (by omega);rw[qoq qfF a (by omega)]at g4;have s1:=qmn a (by omega);have s2:=qmn b (by omega);have has:=qhM qfF a b;unfold orT at o1 o2;simp only[sg]at g1 g2 g3 g4 o1 o2;generalize hq:qfF.map SymL.enc=sq at*
 have hqc:sq.map DV.clr=sq:=by rw[<-hq];exact qjA _
 generalize qa6 qfF a b=ga at*
 generalize qa6 qfF b a=gb at*
 obtain⟨af,av,ak⟩:=a;obtain⟨bf,bv,bk⟩:=b;refine⟨[],?_⟩;cases ga<;>cases gb<;>first
  |(simp at has;done)
  |(simp at o1 o2;simp[qBg,que,qud,quc,qub,qua,qt9,qt8,qt7,qt6,qt5,qoa,qn9,hbig,d1,g1,g2,g3,g4,o1,o2,s1,s2,hqc,splice,qad,qal,qan,qaI,qae];done)
end Go.Proofs.Ytfiakfiocdfpbaa.VS
namespace Go.Proofs.Ytfiakfiocdfpbaa.VS
mutual
def TT.erase:TT->T
 | .node f v g ks=> .node f v (TT.erases ks)
def TT.erases:List TT->List T
 | []=>[]
 |t::r=>t.erase::TT.erases r
end
mutual
theorem TT.qcD:∀t:TT,DV.clrs t.cells=[.int .i64 t.erase.f,.int .i64 t.erase.v,qak .sub t.erase.kids]
 | .node f v g ks=>by
  simp only[TT.cells,DV.clrs,DV.clr,TT.erase,T.qdq,T.qfk,T.qbb,qak];rw[TT.qed ks]
theorem TT.qed:∀l:List TT,DV.clrs (TT.encs l)=(TT.erases l).map (T.enc .sub)
 | []=>by simp[TT.encs,DV.clrs,TT.erases]
 |t::r=>by
  simp only[TT.encs,DV.clrs,DV.clr,TT.erases,List.map_cons];rw[TT.qcD t,TT.qed r,T.qc0]
end
theorem TT.qeP(t:TT):t.enc.clr=t.erase.enc .sub:=by
 simp only[TT.enc,DV.clr];rw[TT.qcD,T.qc0]
theorem qrz(hX:XOK XV){k:Nat}{vs:List DV}(h:∃B,qac XV k ((DV.clrs vs).map .d) []=some (.d (.bool true),B)):∃A B,qsr E [] k (vs.map .d) [] Ids.none=some ⟨.d (.bool true),A,B⟩:=by
 obtain⟨B,h⟩:=h;obtain⟨u,A,Bv,h1,h2⟩:=qyB hX (DV.qcf vs) (DV.qce vs) (d:= .bool true) (by simp[DV.clr]) h;simp only[DV.fit]at h2;subst h2
 exact⟨A,Bv,h1⟩
theorem qKz{P:Program}{a:TypeId}:∀{xs:List (List DV)},qDp P [a] xs->∃x,xs=[x]
 | [x],_=>⟨x,rfl⟩
 | [],h=>h.elim
 |_::_::_,h=>h.2.elim
end Go.Proofs.Ytfiakfiocdfpbaa.VS
namespace Go.Proofs.Ytfiakfiocdfpbaa.VS
structure L where
 p:Bool
 a:T
 b:T
def L.enc(g:Tag)(x:L):DV:= .agg [.bool x.p,.int .i64 x.a.f,.int .i64 x.a.v,qak g x.a.kids,.int .i64 x.b.f,.int .i64 x.b.v,qak g x.b.kids]
def L.ok(x:L):Prop:=x.a.ok/\x.b.ok
@[simp] theorem L.qnv(g:Tag)(x:L):(x.enc g).cells=[.bool x.p,.int .i64 x.a.f,.int .i64 x.a.v,qak g x.a.kids,.int .i64 x.b.f,.int .i64 x.b.v,qak g x.b.kids]:=rfl
@[simp] theorem L.qkO(g:Tag)(x:L):(AV.d (x.enc g)).cells=[.d (.bool x.p),.d (.int .i64 x.a.f),.d (.int .i64 x.a.v),.d (qak g x.a.kids),.d (.int .i64 x.b.f),.d (.int .i64 x.b.v),.d (qak g x.b.kids)]:=rfl
@[simp] theorem L.qkN(g:Tag)(x:L):(x.enc g).isCell=false:=rfl
@[simp] theorem L.qeP(g:Tag)(x:L):(x.enc g).clr=x.enc .sub:=by
 simp only[L.enc,DV.clr,DV.clrs,qak,DV.qav,qcB]
theorem L.agg_enc(g:Tag)(x:L):DV.agg [.bool x.p,.int .i64 x.a.f,.int .i64 x.a.v,qak g x.a.kids,.int .i64 x.b.f,.int .i64 x.b.v,qak g x.b.kids]=x.enc g:=rfl
def L.cmp(x y:L):Int:=if !x.p&&y.p then-1 else if x.p&& !y.p then 1 else if T.cmp x.a y.a≠0 then T.cmp x.a y.a else T.cmp x.b y.b
def L.same(x y:L):Bool:=x.p==y.p&&(T.cmp x.a y.a==0)&&(T.cmp x.b y.b==0)
theorem L.cmp_zero(x y:L):(L.cmp x y==0)=L.same x y:=by
 obtain⟨p,a,b⟩:=x;obtain⟨q,a',b'⟩:=y;unfold L.cmp L.same;cases p<;>cases q<;>by_cases c:T.cmp a a'=0<;>simp[c]
end Go.Proofs.Ytfiakfiocdfpbaa.VS
namespace Go.Proofs.Ytfiakfiocdfpbaa.VS
variable {P:Program}
structure LL where
 p:Bool
 a:TT
 b:TT
def LL.cells(x:LL):List DV:= .bool x.p::(x.a.cells++x.b.cells)
def LL.enc(x:LL):DV:= .agg x.cells
def LL.ok(x:LL):Prop:=x.a.ok/\x.b.ok
def LL.erase(x:LL):L:=⟨x.p,x.a.erase,x.b.erase⟩
theorem LL.qeP(x:LL):x.enc.clr=x.erase.enc .sub:=by
 have ha:=TT.qcD x.a;have hb:=TT.qcD x.b;rw[DV.qav]at ha hb;simp only[LL.enc,LL.cells,DV.clr,DV.qav,List.map_cons,List.map_append,ha,hb,LL.erase,L.enc];rfl
theorem qmm{α:Type}(c:α->List DV)(ok:α->Prop){t e:TypeId}{x:List DV}(hu:P.underlying t=some (.slice e))(hE:∀y:List DV,Shape P e y->∃s:α,y=c s/\ok s)(h:Shape P t x):
 ∃(g:Tag) (l:List α),x=[.sl g (l.map fun s=>qbI P e (c s))]/\l.length<=maxLen/\∀s,s∈l->ok s:=by
 obtain⟨g,xs,rfl,q1,q2,q3,q4⟩:=qnY hu h;have key:∀xs:List DV,(∀y:DV,y∈xs->y=qbI P e y.cells)->(∀y:DV,y∈xs->Shape P e y.cells)->∃l:List α,xs=(l.map fun s=>qbI P e (c s))/\∀s,s∈l->ok s:=by
  intro xs
  induction xs with
  |nil=>intro _ _;exact⟨[],rfl,by simp⟩
  |cons y r ih=>
   intro p1 p2;obtain⟨l,rfl,hl⟩:=ih (fun z hz=>p1 z (by simp[hz])) (fun z hz=>p2 z (by simp[hz]));obtain⟨s,hs,hok⟩:=hE _ (p2 y (by simp));refine⟨s::l,?_,by simpa[hok]using hl⟩;have:=p1 y (by simp);rw[hs]at this;rw[List.map_cons,<-this]
 obtain⟨l,rfl,hl⟩:=key xs q3 q4;exact⟨g,l,rfl,by simpa using q1,hl⟩
structure BB where
 v:Int
 t:TT
def BB.cells(x:BB):List DV:= .int .i64 x.v::x.t.cells
def BB.enc(x:BB):DV:= .agg x.cells
def BB.ok(x:BB):Prop:=(-9223372036854775808<=x.v/\x.v<=9223372036854775807)/\x.t.ok
def BB.erase(x:BB):Bd:=⟨x.v,x.t.erase⟩
theorem BB.qeP(x:BB):x.enc.clr=x.erase.enc .sub:=by
 have ha:=TT.qcD x.t;rw[DV.qav]at ha;simp only[BB.enc,BB.cells,DV.clr,DV.qav,List.map_cons,ha,BB.erase,Bd.enc]
def qnl(g:Tag)(l:List Int):DV:= .sl g (l.map (.int .u8))
theorem qsg(g:Tag)(l:List Int):(qnl g l).clr= .sl .sub (l.map (.int .u8)):=by
 simp only[qnl,qAv,List.map_map,Function.comp_def,qoJ]
theorem qnZ{t e:TypeId}{x:List DV}(hu:P.underlying t=some (.slice e))(he:P.underlying e=some (.int .u8))(h:Shape P t x):∃g l,x=[qnl g l]/\l.length<=maxLen:=by
 obtain⟨g,l,rfl,h1,_⟩:=qmm (fun n:Int=>[DV.int .u8 n]) (fun _=>True) hu (fun y hy=>by
  obtain⟨n,rfl,_⟩:=qtS he hy;exact⟨n,rfl,trivial⟩) h
 exact⟨g,l,by simp[qnl,qbI,he],h1⟩
end Go.Proofs.Ytfiakfiocdfpbaa.VS
namespace Go.Proofs.Ytfiakfiocdfpbaa.VS
open Go.RowKit
variable {P:Program} {fid:Nat->FuncId}
theorem qws{X:XEnv}(hX:XOK X)(hE:EnvOK P fid X.env){f:Nat}{xs:List AV}{B:qaj}{v':AV}{B':qaj}(h:qac X f xs B=some (v',B')){vs:List AV}{Bv:qaj}(hf:AV.fits xs vs)(hb:qaX B Bv)
 (ho:∀ℓ,qaa (qaf 0 xs) B (qaf 0 vs) Bv ℓ=[]) {g:Gh} {w:World} {us:Array Value} (hus:us.size=vs.length) (hrel:∀(j:Nat) (v:AV) (u:Value),vs[j]?=some v->us[j]?=some u->AVR fid g w v u)
 (hc:Core fid g w Bv Ids.none) (hfr:qh0 g [] 0):Calls P (fid f) us w fun e w'=>∃u g' vv A' Bv',e= .returned u/\v'.fit vv/\qaX B' Bv'/\Post fid (from_ [] 0) g w Ids.none ⟨vv,A',Bv'⟩ u g' w':=by
 obtain⟨n,hn⟩:=qbP.1 h;obtain⟨v,Bv',A',h1,h2,h3,_⟩:=ql7 hX n f _ _ _ _ hn [] vs Bv Ids.none (fun _=>False) hf hb
  ⟨fun ℓ=>by rw[ho];simp,fun ℓ ℓ' a ha=>by rw[ho]at ha;simp at ha,fun ℓ a ha=>by rw[ho]at ha;simp at ha,fun a ha=>by simp at ha⟩ (fun j _=>ho (.reg j)) (fun a ha=>by simp[Ids.none]at ha)
 obtain⟨_,hcc⟩:=qqk hE n [] f vs Bv Ids.none _ h1;exact(hcc g w us hus hrel hc hfr).mono fun e w' ⟨u,g',he,hp⟩=>⟨u,g',v,A',Bv',he,h2,h3,hp⟩
structure IntsAt(w:World)(base:Option Addr)(n c:Nat)(xs:List Int):Prop where
 len:xs.length=n
 cap:n<=c
 lim:(n+1)*8<=140737488355328
 capm:c<=maxLen
 nil:base=none->n=0/\c=0
 cell:∀ad,base=some ad->0<n->ad.spot=none/\∀(j:Nat) (x:Int),xs[j]?=some x->w.cell? ⟨ad.block,ad.off+j,none⟩=some (.int .i64 x)
theorem qCR{w:World}{b o:Nat}{v:Value}(h:w.cell? ⟨b,o,none⟩=some v):b<w.heap.size:=by
 unfold World.cell? at h;split at h
 ·rename_i h1;exact(Array.getElem?_eq_some_iff.1 h1).1
 ·simp at h
theorem IntsAt.lt{w:World}{base:Option Addr}{n c:Nat}{xs:List Int}(h:IntsAt w base n c xs){ad:Addr}(hb:base=some ad)(hn:0<n):ad.block<w.heap.size:=by
 have h0:xs[0]?=some xs[0]!:=by have:=h.len;cases xs with|nil=>simp at this;omega|cons a r=>simp
 exact qCR ((h.cell ad hb hn).2 0 _ h0)
def qg7(base:Option Addr)(n:Nat)(bx:Nat->Option Nat):Gh:=
 {K:=fun b=>match base with|some ad=>if b=ad.block/\0<n then ad.off+n else 0|none=>0,row:=fun _=>none,bx:=bx}
def qtL(base:Option Addr):Tag:=match base with|some _=> .sub|none=> .nil
theorem qvf{w:World}{base:Option Addr}{n c:Nat}{xs:List Int}(h:IntsAt w base n c xs)(bx:Nat->Option Nat):VR (qg7 base n bx) w (.sl (qtL base) (xs.map (.int .i64))) (.slice base n c):=by
 cases base with
 |none=>
  obtain⟨rfl,rfl⟩:=h.nil rfl;have:xs=[]:=List.length_eq_zero_iff.1 h.len;subst this;exact .nil
 |some ad=>
  have key:VR (qg7 (some ad) n bx) w (.sl .sub (xs.map (.int .i64))) (.slice (some ad) (xs.map (DV.int .i64)).length c):=by
   refine .row _ _ ad c 1 (fun k=> .int .i64 (xs.getD k 0)) (by simp) (by simpa[h.len]using h.cap) h.capm (fun k hk=> ?_) ?_ (fun i x hx=> ?_) (fun i x j v hi hj=> ?_) (fun a sz ht=>by simp at ht)
   ·have hk':k<xs.length:=by simpa using hk
    obtain⟨h1,h2⟩:=h.cell ad rfl (by have:=h.len;omega);have:ad.add k=⟨ad.block,ad.off+k,none⟩:=by
     obtain⟨bk,o,sp⟩:=ad;simp only at h1;subst h1;unfold Addr.add;split<;>simp_all
    rw[this,h2 k xs[k] (by simp[hk'])];simp[List.getD,hk']
   ·by_cases hn:0<n
    ·right
     simp only[qg7];rw[if_pos ⟨trivial,hn⟩];simp[h.len]
    ·left;have:=h.len;simp;cases xs with|nil=>rfl|cons _ _=>simp at this;omega
   ·simp only[List.getElem?_map,Option.map_eq_some_iff]at hx
    obtain⟨y,_,rfl⟩:=hx;exact⟨rfl,fun v hv=>by simp[DV.cells]at hv;subst hv;rfl⟩
   ·simp only[List.getElem?_map,Option.map_eq_some_iff]at hi
    obtain⟨y,hy,rfl⟩:=hi;cases j with
    |succ j=>simp[DV.cells]at hj
    |zero=>
     simp[DV.cells]at hj;subst hj
     simp only[Nat.mul_one,Nat.add_zero,List.getD,hy,Option.getD_some];exact .int _ _
  rw[List.length_map,h.len]at key;exact key
theorem qpW{w:World}{base:Option Addr}{n c:Nat}{xs:List Int}(h:IntsAt w base n c xs)(bx:Nat->Option Nat)(b:Nat)(hb:w.heap.size<=b):(qg7 base n bx).K b=0:=by
 cases base with
 |none=>rfl
 |some ad=>
  simp only[qg7];rw[if_neg]
  rintro⟨rfl,hn⟩
  have:=h.lt rfl hn;omega
theorem qAi(t:Tag)(xs:List Int):(AV.d (is xs)).fit (.d (.sl t (xs.map (.int .i64)))):=by
 simp only[AV.fit,is,DV.fit];refine⟨_,rfl,_,_,rfl,?_,.inl rfl⟩;rw[DV.qa3];refine⟨rfl,fun i x y hx hy=> ?_⟩;rw[hx]at hy;simp only[Option.some.injEq]at hy;subst hy;simp only[List.getElem?_map,Option.map_eq_some_iff]at hx;obtain⟨z,_,rfl⟩:=hx;simp only[DV.fit]
theorem qAh(t:Tag)(xs:List Int):(AV.d (is xs)).own (.d (.sl t (xs.map (.int .i64))))=[]:=by
 have hs:(.sub:Tag)≠U:=by decide
 simp only[AV.own,is,DV.own,hs,false_and,if_false,List.nil_append];have:∀(l:List Int) (m:List DV),DV.owns (l.map (.int .i64)) m=[]:=by
  intro l
  induction l with
  |nil=>intro m;simp[DV.owns]
  |cons a r ih=>intro m;cases m<;>simp[DV.owns,DV.own,ih]
 exact this xs _
theorem qoh{X:XEnv}(hX:XOK X)(hE:EnvOK P fid X.env){k:Nat}(hq:∀(l:List Int) (n:Int),l.length<=140737488355328->qac X k [.d (is l),.d (.int .i64 n)] []=some (.d (.bool (l.contains n)),[]))
 {w:World} {base:Option Addr} {n c:Nat} {xs:List Int} (h:IntsAt w base n c xs) (m:Int):
 Calls P (fid k) #[.slice base n c,.int .i64 m] w fun e w'=>e= .returned (.bool (xs.contains m))/\Below w.heap.size w w':=by
 have hlim:=h.lim;have hown:∀ℓ,qaa (qaf 0 [.d (is xs),.d (.int .i64 m)]) [] (qaf 0 [.d (.sl (qtL base) (xs.map (.int .i64))),.d (.int .i64 m)]) [] ℓ=[]:=by
  intro ℓ;cases ℓ with
  |box j=>simp[qaa,qbo,qaV]
  |reg t=>
   simp only[qaa,qbM,qaf,lk]
   by_cases h0:t=0
   ·subst h0;simp only[if_true];exact qAh _ _
   ·by_cases h1:t=0+1
    ·subst h1;simp[AV.own,DV.own]
    ·simp[h0]
     split<;>simp_all
 refine(qws (P:=P) (fid:=fid) hX hE (hq xs m (by rw[h.len];omega)) (vs:=[.d (.sl (qtL base) (xs.map (.int .i64))),.d (.int .i64 m)]) (Bv:=[]) ?_ ⟨rfl,by simp⟩ hown (g:=qg7 base n (fun _=>none)) (w:=w) rfl ?_ ?_ (fun q j _=>rfl)).mono ?_
 ·simp only[AV.fits]
  exact⟨_,_,rfl,qAi _ _,_,_,rfl,by simp only[AV.fit,DV.fit];exact⟨_,rfl,rfl⟩,rfl⟩
 ·intro j v u hj hu
  match j with
  |0=>simp at hj hu;subst hj;subst hu;exact .d _ _ (qvf h _)
  |1=>simp at hj hu;subst hj;subst hu;exact .d _ _ (.int _ _)
  |j+2=>simp at hj
 ·exact⟨fun i b hb=>by simp[qg7]at hb,fun i j b hb=>by simp[qg7]at hb,fun a ha=>by simp[Ids.none]at ha,fun a a' b x x' ha=>by simp[Ids.none]at ha,qpW h _⟩
 ·rintro e w' ⟨u,g',vv,A',Bv',rfl,hfit,_,hp⟩
  simp only[AV.fit,DV.fit]at hfit;obtain⟨y,rfl,rfl⟩:=hfit;have hu:=qcO hp.val;subst hu;exact⟨rfl,hp.step.os,hp.step.tape,hp.step.output,hp.step.size,fun b hb=>(hp.step.keep b hb (fun i h=>by simp[qg7]at h) (fun a h=>by simp[Ids.none]at h)).1⟩
theorem qlI{X:XEnv}(hX:XOK X)(hE:EnvOK P fid X.env){k kc:Nat}(hq:∀(l:List Int) (n:Int),l.length<=140737488355328->qac X k [.d (is l),.fn kc [.ptr 0 0]] [some [.d (.int .i64 n)]]=some (.d (.int .i64 (qdK (qaq (fun i=>decide (iAt l i>n)) l.length 0))),[some [.d (.int .i64 n)]]))
 {w:World} {base:Option Addr} {n c:Nat} {xs:List Int} (h:IntsAt w base n c xs) (m:Int) (pb:Nat) (ty:TypeId) (hpb:w.heap[pb]?=some (.cells #[.int .i64 m] ty (0,0))) (hne:∀ad,base=some ad->0<n->ad.block≠pb):
 Calls P (fid k) #[.slice base n c,.func (.func (fid kc)) #[] #[.pointer (some ⟨pb,0,none⟩)]] w fun e w'=>e= .returned (.int .i64 (qdK (qaq (fun i=>decide (iAt xs i>m)) xs.length 0)))/\
  w'.os=w.os/\w'.tape=w.tape/\w'.output=w.output/\w.heap.size<=w'.heap.size/\(∀b,b<w.heap.size->b≠pb->w'.heap[b]?=w.heap[b]?)/\w'.cell? ⟨pb,0,none⟩=some (.int .i64 m):=by
 have hlim:=h.lim;have hpl:pb<w.heap.size:=(Array.getElem?_eq_some_iff.1 hpb).1;have hown:∀ℓ,qaa (qaf 0 [.d (is xs),.fn kc [.ptr 0 0]]) [some [.d (.int .i64 m)]] (qaf 0 [.d (.sl (qtL base) (xs.map (.int .i64))),.fn kc [.ptr 0 0]]) [some [.d (.int .i64 m)]] ℓ=[]:=by
  intro ℓ;cases ℓ with
  |box j=>
   cases j with
   |zero=>simp[qaa,qbo,qaV,AV.owns,AV.own,DV.own]
   |succ j=>simp[qaa,qbo,qaV]
  |reg t=>
   simp only[qaa,qbM,qaf,lk]
   by_cases h0:t=0
   ·subst h0;simp only[if_true];exact qAh _ _
   ·by_cases h1:t=0+1
    ·subst h1;simp[AV.own]
    ·simp[h0]
     split<;>simp_all
 have hbx:∀i b,(qg7 base n (fun i=>if i=0 then some pb else none)).bx i=some b->i=0/\b=pb:=by
  intro i b hb;simp only[qg7]at hb;split at hb
  ·rename_i hi;simp at hb;exact⟨hi,hb.symm⟩
  ·simp at hb
 refine(qws (P:=P) (fid:=fid) hX hE (hq xs m (by rw[h.len];omega)) (vs:=[.d (.sl (qtL base) (xs.map (.int .i64))),.fn kc [.ptr 0 0]]) (Bv:=[some [.d (.int .i64 m)]]) ?_ ?_ hown (g:=qg7 base n (fun i=>if i=0 then some pb else none)) (w:=w) rfl ?_ ?_ (fun q j _=>rfl)).mono ?_
 ·simp only[AV.fits]
  refine⟨_,_,rfl,qAi _ _,_,_,rfl,?_,rfl⟩;simp only[AV.fit,AV.fits];exact⟨_,rfl,⟨_,_,rfl,rfl,rfl⟩,by simp[AV.owns,AV.own]⟩
 ·refine⟨rfl,fun i=> ?_⟩
  cases i with
  |zero=>exact⟨by simp,fun cs hcs=>by simp at hcs;subst hcs;exact⟨_,rfl,AV.qbE (by simp only[AV.fit,DV.fit];exact⟨_,rfl,rfl⟩)⟩⟩
  |succ i=>simp
 ·intro j v u hj hu
  match j with
  |0=>simp at hj hu;subst hj;subst hu;exact .d _ _ (qvf h _)
  |1=>
   simp at hj hu;subst hj;subst hu
   exact .fn kc _ _ rfl fun j v u h1 h2=>by
    cases j with
    |zero=>simp at h1 h2;subst h1;subst h2;exact .ptr 0 0 pb rfl
    |succ j=>simp at h1
  |j+2=>simp at hj
 ·refine⟨fun i b hb=> ?_,fun i j b hb hb'=>by rw[(hbx i b hb).1,(hbx j b hb').1],fun a ha=>by simp[Ids.none]at ha,fun a a' b x x' ha=>by simp[Ids.none]at ha,qpW h _⟩
  obtain⟨rfl,rfl⟩:=hbx i b hb;refine⟨[.d (.int .i64 m)],_,ty,rfl,hpb,by simp,fun j v u h1 h2=> ?_,fun v hv=>by simp at hv;subst hv;exact⟨rfl,qaI _ _⟩,?_⟩
  ·cases j with
   |zero=>simp at h1 h2;subst h1;subst h2;exact .d _ _ (.int _ _)
   |succ j=>simp at h1
  ·cases base with
   |none=>rfl
   |some ad=>simp only[qg7];rw[if_neg];rintro⟨he,hn⟩;exact hne ad rfl hn he.symm
 ·rintro e w' ⟨u,g',vv,A',Bv',rfl,hfit,hbf,hp⟩
  simp only[AV.fit,DV.fit]at hfit;obtain⟨y,rfl,rfl⟩:=hfit;have hu:=qbg hp.val;subst hu;refine⟨rfl,hp.step.os,hp.step.tape,hp.step.output,hp.step.size,fun b hb hbp=>(hp.step.keep b hb (fun i h=>hbp (hbx i b h).2) (fun a h=>by simp[Ids.none]at h)).1,?_⟩;have hb0:=hp.boxes.old 0 pb rfl;obtain⟨cs,arr,e',c1,c2,c3,c4,_⟩:=hp.core.box 0 pb hb0;obtain⟨ds,d1,d2⟩:=(hbf.2 0).2 _ rfl;rw[c1]at d1;simp at d1;subst d1
  simp only[AV.fits,AV.fit,DV.fit]at d2;obtain⟨_,_,rfl,⟨_,rfl,rfl⟩,rfl⟩:=d2;have hsz:0<arr.size:=by simp at c3;omega
  have:=qbg (c4 0 _ arr[0] rfl (by simp[hsz]));simp[World.cell?,c2,hsz,this]
theorem qb4(b:Nat):∀(vs:List Value) (o:Nat) (w:World) (arr:Array Value) (t:TypeId),w.heap[b]?=some (.cells arr t (0,0))->∃arr',(w.setCells b o vs).heap[b]?=some (.cells arr' t (0,0))/\arr'.size=arr.size
 | [],o,w,arr,t,h=>⟨arr,h,rfl⟩
 |v::r,o,w,arr,t,h=>by
  obtain⟨arr',h1,h2⟩:=qb4 b r (o+1) (w.setCell ⟨b,o,none⟩ v) _ t (heap_setCell_same w b o arr t v h);exact⟨arr',h1,by rw[h2];simp⟩
theorem qbL(b:Nat):∀(vs:List Value) (o:Nat) (w:World) (k:Nat),k≠b->(w.setCells b o vs).heap[k]?=w.heap[k]?
 | [],o,w,k,h=>rfl
 |v::r,o,w,k,h=>by
  rw[World.setCells,qbL b r (o+1) _ k h];exact heap_setCell_other w _ k v h
theorem qb3(b:Nat):∀(vs:List Value) (o:Nat) (w:World),(w.setCells b o vs).os=w.os/\(w.setCells b o vs).tape=w.tape/\(w.setCells b o vs).output=w.output/\(w.setCells b o vs).heap.size=w.heap.size
 | [],o,w=>⟨rfl,rfl,rfl,rfl⟩
 |v::r,o,w=>by
  obtain⟨h1,h2,h3,h4⟩:=qb3 b r (o+1) (w.setCell ⟨b,o,none⟩ v);exact⟨h1,h2,h3,by rw[World.setCells,h4];simp[World.setCell]⟩
structure InsertSays(P:Program)(f:FuncId)(T:TypeId):Prop where
 shift:∀(b off n c i vb voff m vc:Nat) (cs vs:List Value) (w:World),i<n->0<m->n+m<=c->c<=9223372036854775807->vb≠b->cs.length=n->vs.length=m->
  (∀(j:Nat) (v:Value),cs[j]?=some v->w.cell? ⟨b,off+j,none⟩=some v)->(∀j,j<n+m->(w.cell? ⟨b,off+j,none⟩).isSome=true)->(∀j,j<n+m->w.frozen? ⟨b,off+j,none⟩=false)->
  (∀(j:Nat) (v:Value),vs[j]?=some v->w.cell? ⟨vb,voff+j,none⟩=some v)->(∀v∈cs,v.oneCell'=true)->(∀v∈vs,v.oneCell'=true)->∀(tA tB:TypeId) (kA kB:Nat),w.shape? vb=some (tA,kA)->w.shape? b=some (tB,kB)->kB≠0->
  w.frozen? ⟨vb,voff,none⟩=false->w.frozen? ⟨vb,kA,none⟩=false->Calls P f #[.slice (some ⟨b,off,none⟩) n c,.int .i64 i,.slice (some ⟨vb,voff,none⟩) m vc] w fun e w'=>
   e= .returned (.slice (some ⟨b,off,none⟩) (n+m) c)/\w'=(w.drew.setCells b (off+(i+m)) (cs.drop i)).setCells b (off+i) vs
 room:∀(b off n c vb voff m vc:Nat) (vs:List Value) (w:World),0<m->n+m<=c->c<=9223372036854775807->vs.length=m->(∀j,j<m->(w.cell? ⟨b,off+n+j,none⟩).isSome=true)->(∀j,j<m->w.frozen? ⟨b,off+n+j,none⟩=false)->
  (∀(j:Nat) (v:Value),vs[j]?=some v->w.cell? ⟨vb,voff+j,none⟩=some v)->(∀v∈vs,v.oneCell'=true)->Calls P f #[.slice (some ⟨b,off,none⟩) n c,.int .i64 n,.slice (some ⟨vb,voff,none⟩) m vc] w fun e w'=>
   e= .returned (.slice (some ⟨b,off,none⟩) (n+m) c)/\w'=w.setCells b (off+n) vs
 endGrow:∀(base:Option Addr) (n c vb voff m vc:Nat) (cs vs:List Value) (w:World),0<m->n<=c->c<n+m->(n+m)*8<=140737488355328->cs.length=n->vs.length=m->(base=none->n=0)->
  (∀a,base=some a->∀(j:Nat) (v:Value),cs[j]?=some v->w.cell? (a.add j)=some v)->(∀(j:Nat) (v:Value),vs[j]?=some v->w.cell? ⟨vb,voff+j,none⟩=some v)->(∀v∈vs,v.oneCell'=true)->
  Calls P f #[.slice base n c,.int .i64 n,.slice (some ⟨vb,voff,none⟩) m vc] w fun e w'=>e= .returned (.slice (some ⟨w.heap.size,0,none⟩) (n+m) (grownCap w (n+m) c T))/\
   w'=w.drew.alloc (.cells ((cs++vs).toArray++Builtin.zeroCells (Value.int .i64 0).cells (grownCap w (n+m) c T-(n+m))) T)
 grow:∀(b off n c i vb voff m vc:Nat) (cs vs:List Value) (w:World),i<n->0<m->n<=c->c<n+m->(n+m)*8<=140737488355328->cs.length=n->vs.length=m->(∀(j:Nat) (v:Value),cs[j]?=some v->w.cell? ⟨b,off+j,none⟩=some v)->
  (∀(j:Nat) (v:Value),vs[j]?=some v->w.cell? ⟨vb,voff+j,none⟩=some v)->(∀v∈cs,v.oneCell'=true)->(∀v∈vs,v.oneCell'=true)->Calls P f #[.slice (some ⟨b,off,none⟩) n c,.int .i64 i,.slice (some ⟨vb,voff,none⟩) m vc] w fun e w'=>
   e= .returned (.slice (some ⟨w.heap.size,0,none⟩) (n+m) (grownCap w (n+m) c T))/\
   w'=(((w.alloc (.cells ((cs.take i).toArray++Builtin.zeroCells (Value.int .i64 0).cells (n+m-i)++Builtin.zeroCells (Value.int .i64 0).cells (grownCap w (n+m) c T-(n+m))) T)).drew.setCells w.heap.size i vs).drew).setCells w.heap.size (i+m) (cs.drop i)
theorem qcg{w:World}{b:Nat}{arr:Array Value}{t:TypeId}{z:Nat×Nat}(h:w.heap[b]?=some (.cells arr t z))(k:Nat):w.cell? ⟨b,k,none⟩=arr[k]?:=by simp[World.cell?,h]
theorem qcc(w:World)(o:Obj):(w.alloc o).heap[w.heap.size]?=some o:=by show(w.heap.push o)[w.heap.size]?=some o;simp
theorem qaH(w:World)(o:Obj):(w.alloc o).heap.size=w.heap.size+1:=by show(w.heap.push o).size=_;simp
theorem qkP(n:Nat):(Builtin.zeroCells (Value.int .i64 0).cells n).size=n:=by rw[size_zeroCells];simp[Value.cells]
theorem qhI(l:List Int):∀v∈l.map (Value.int .i64),v.oneCell'=true:=by
 intro v hv;obtain⟨x,_,rfl⟩:=List.mem_map.1 hv;rfl
structure Inserted(w w':World)(e:Ending)(xs:List Int)(g:Option Nat):Prop where
 ret:∃blk cap arr ty,e= .returned (.slice (some ⟨blk,0,none⟩) xs.length cap)/\(g=some blk\/w.heap.size<=blk)/\w'.heap[blk]?=some (.cells arr ty (0,0))/\cap<=arr.size/\xs.length<=cap/\cap<=maxLen/\
  ∀(j:Nat) (x:Int),xs[j]?=some x->arr[j]?=some (.int .i64 x)
 os:w'.os=w.os
 tape:w'.tape=w.tape
 output:w'.output=w.output
 size:w.heap.size<=w'.heap.size
 block:∀b,b<w.heap.size->g≠some b->w'.heap[b]?=w.heap[b]?
theorem qrQ{f:FuncId}{T:TypeId}(hi:InsertSays P f T)(w:World)(vb:Nat)(v:Int)(hv:w.cell? ⟨vb,0,none⟩=some (.int .i64 v))(base:Option Addr):
 Calls P f #[.slice base 0 0,.int .i64 (0:Nat),.slice (some ⟨vb,0,none⟩) 1 1] w fun e w'=>Inserted w w' e [v] none:=by
 refine(hi.endGrow base 0 0 vb 0 1 1 [] [.int .i64 v] w (by omega) (by omega) (by omega) (by omega) rfl rfl (fun _=>rfl) (fun a _ j x hx=>by simp at hx) (fun j x hx=>by
  cases j with
  |zero=>simp at hx;subst hx;exact hv
  |succ j=>simp at hx) (fun x hx=>by simp at hx;subst hx;rfl)).mono ?_
 rintro e w' ⟨rfl,rfl⟩
 have hg:=grownCap_ge w (0+1) 0 T;refine⟨⟨w.heap.size,_,_,T,rfl,.inr (Nat.le_refl _),qcc w.drew _,?_,hg,grownCap_le_maxLen w _ _ _ (by unfold maxLen;omega),fun j x hx=> ?_⟩,rfl,rfl,rfl,by rw[qaH];exact Nat.le_succ _,fun b hb _=>Below.heap_alloc w.drew _ b hb⟩
 ·rw[Array.size_append,qkP];simp;omega
 ·cases j with
  |zero=>simp at hx;subst hx;rw[Array.getElem?_append_left (by simp)];rfl
  |succ j=>simp at hx
theorem qkq{f:FuncId}{T:TypeId}(hi:InsertSays P f T)(w:World)(g cap:Nat)(arr:Array Value)(ty:TypeId)(xs:List Int)(i:Nat)(vb:Nat)(ty2:TypeId)(v:Int)(hg:w.heap[g]?=some (.cells arr ty (0,0)))(hcap:cap<=arr.size)(hn:xs.length<=cap)(hm:cap<=maxLen)
 (hxs:∀(j:Nat) (x:Int),xs[j]?=some x->arr[j]?=some (.int .i64 x)) (hlim:(xs.length+1)*8<=140737488355328) (hv:w.heap[vb]?=some (.cells #[.int .i64 v] ty2 (0,0))) (hne:vb≠g) (hile:i<=xs.length):
 Calls P f #[.slice (some ⟨g,0,none⟩) xs.length cap,.int .i64 (i:Nat),.slice (some ⟨vb,0,none⟩) 1 1] w fun e w'=>Inserted w w' e (xs.take i++v::xs.drop i) (some g):=by
 have hgl:g<w.heap.size:=(Array.getElem?_eq_some_iff.1 hg).1;have hcell:∀k,w.cell? ⟨g,k,none⟩=arr[k]?:=qcg hg;have hvc:w.cell? ⟨vb,0,none⟩=some (.int .i64 v):=by rw[qcg hv];rfl
 have hvs:∀(j:Nat) (x:Value),[Value.int .i64 v][j]?=some x->w.cell? ⟨vb,0+j,none⟩=some x:=fun j x hx=>by
  cases j with
  |zero=>simp at hx;subst hx;exact hvc
  |succ j=>simp at hx
 have h1v:∀x∈[Value.int .i64 v],x.oneCell'=true:=fun x hx=>by simp at hx;subst hx;rfl
 have hcs:∀(j:Nat) (x:Value),(xs.map (Value.int .i64))[j]?=some x->w.cell? ⟨g,0+j,none⟩=some x:=fun j x hx=>by
  simp only[List.getElem?_map,Option.map_eq_some_iff]at hx;obtain⟨y,hy,rfl⟩:=hx;rw[Nat.zero_add,hcell];exact hxs j y hy
 have hfz:∀k,w.frozen? ⟨g,k,none⟩=false:=fun k=>by simp[World.frozen?,hg]
 have hsome:∀k,k<arr.size->(w.cell? ⟨g,k,none⟩).isSome=true:=fun k hk=>by rw[hcell];simp[hk]
 have hmx:maxLen=9223372036854775807:=rfl;have hlen:(xs.take i++v::xs.drop i).length=xs.length+1:=by simp;omega
 have hget:∀j,(xs.take i++v::xs.drop i)[j]?=if j<i then xs[j]? else if j=i then some v else xs[j-1]?:=by
  intro j
  by_cases h1:j<i
  ·rw[if_pos h1,List.getElem?_append_left (by simp;omega),List.getElem?_take,if_pos h1]
  ·rw[if_neg h1,List.getElem?_append_right (by simp;omega)]
   have:(xs.take i).length=i:=by simp;omega
   rw[this]
   by_cases h2:j=i
   ·subst h2;simp
   ·rw[if_neg h2,show j-i=(j-i-1)+1 by omega,List.getElem?_cons_succ,List.getElem?_drop]
    congr 1;omega
 by_cases hroom:xs.length+1<=cap
 ·by_cases hend:i=xs.length
  ·subst hend
   refine(hi.room g 0 xs.length cap vb 0 1 1 [.int .i64 v] w (by omega) hroom (by omega) rfl (fun j hj=>hsome _ (by omega)) (fun j _=>hfz _) hvs h1v).mono ?_
   rintro e w' ⟨rfl,rfl⟩
   obtain⟨arr',a1,a2⟩:=qb4 g [.int .i64 v] (0+xs.length) w arr ty hg;obtain⟨r1,r2,r3,r4⟩:=qb3 g [.int .i64 v] (0+xs.length) w;refine⟨⟨g,cap,arr',ty,by rw[hlen],.inl rfl,a1,by omega,by rw[hlen];exact hroom,hm,fun j x hx=> ?_⟩,r1,r2,r3,by omega,fun b hb hb'=>qbL g _ _ w b (fun h=>hb' (by rw[h]))⟩;rw[hget]at hx;rw[<-qcg a1]
   by_cases h1:j<xs.length
   ·rw[if_pos h1]at hx
    rw[World.cell?_setCells_out g _ _ w _ (fun _ _=> .inl (by simpa using h1)),hcell];exact hxs j x hx
   ·rw[if_neg h1]at hx
    by_cases h2:j=xs.length
    ·rw[if_pos h2]at hx;simp at hx;subst hx;subst h2
     have:=World.cell?_setCells_in g [.int .i64 v] (0+xs.length) w (fun j hj=>hsome _ (by simp at hj;omega)) 0 (by simp);simpa using this
    ·rw[if_neg h2]at hx
     have:=(List.getElem?_eq_some_iff.1 hx).1;omega
  ·have hlt:i<xs.length:=by omega
   refine(hi.shift g 0 xs.length cap i vb 0 1 1 (xs.map (.int .i64)) [.int .i64 v] w hlt (by omega) hroom (by omega) hne (by simp) rfl hcs (fun j hj=>by rw[Nat.zero_add];exact hsome _ (by omega)) (fun j _=>hfz _) hvs (qhI xs) h1v ty2 ty 1 arr.size
    (by simp[World.shape?,hv]) (by simp[World.shape?,hg]) (by omega) (by simp[World.frozen?,hv]) (by simp[World.frozen?,hv])).mono ?_
   rintro e w' ⟨rfl,rfl⟩
   obtain⟨arr1,a1,a2⟩:=qb4 g ((xs.map (Value.int .i64)).drop i) (0+(i+1)) w.drew arr ty hg;obtain⟨arr',b1,b2⟩:=qb4 g [.int .i64 v] (0+i) _ arr1 ty a1;obtain⟨r1,r2,r3,r4⟩:=qb3 g ((xs.map (Value.int .i64)).drop i) (0+(i+1)) w.drew;obtain⟨s1,s2,s3,s4⟩:=qb3 g [.int .i64 v] (0+i) (w.drew.setCells g (0+(i+1)) ((xs.map (Value.int .i64)).drop i));refine⟨⟨g,cap,arr',ty,by rw[hlen],.inl rfl,b1,by omega,by rw[hlen];exact hroom,hm,fun j x hx=> ?_⟩,s1.trans r1,s2.trans r2,s3.trans r3,by rw[s4,r4];exact Nat.le_refl _,fun b hb hb'=>by
    rw[qbL g _ _ _ b (fun h=>hb' (by rw[h])),qbL g _ _ _ b (fun h=>hb' (by rw[h]))];rfl⟩
   rw[hget]at hx;rw[<-qcg b1];have hsm:∀(j:Nat),j<((xs.map (Value.int .i64)).drop i).length->(w.drew.cell? ⟨g,0+(i+1)+j,none⟩).isSome=true:=fun j hj=>by
    simp at hj;exact hsome _ (by omega)
   by_cases h1:j<i
   ·rw[if_pos h1]at hx
    rw[World.cell?_setCells_out g _ _ _ _ (fun _ _=> .inl (by simpa using h1)),World.cell?_setCells_out g _ _ _ _ (fun _ _=> .inl (by show j<0+(i+1);omega))];exact(hcell j).trans (hxs j x hx)
   ·rw[if_neg h1]at hx
    by_cases h2:j=i
    ·rw[if_pos h2]at hx;simp at hx;subst hx;subst h2
     have:=World.cell?_setCells_in g [.int .i64 v] (0+j) (w.drew.setCells g (0+(j+1)) ((xs.map (Value.int .i64)).drop j)) (fun k hk=>by rw[qcg a1];simp at hk;simp;omega) 0 (by simp);simpa using this
    ·rw[if_neg h2]at hx
     have hjl:=(List.getElem?_eq_some_iff.1 hx).1;rw[World.cell?_setCells_out g _ _ _ _ (fun _ _=> .inr (by show 0+i+1<=j;omega))];have:=World.cell?_setCells_in g ((xs.map (Value.int .i64)).drop i) (0+(i+1)) w.drew hsm (j-(i+1)) (by simp;omega);rw[show 0+(i+1)+(j-(i+1))=j by omega]at this;rw[this];have hx2:xs[j-1]=x:=(List.getElem?_eq_some_iff.1 hx).2;simp only[List.getElem_drop,List.getElem_map];rw[<-hx2]
     congr 3;omega
 ·by_cases hend:i=xs.length
  ·subst hend
   refine(hi.endGrow (some ⟨g,0,none⟩) xs.length cap vb 0 1 1 (xs.map (.int .i64)) [.int .i64 v] w (by omega) hn (by omega) hlim (by simp) rfl (fun h=>by simp at h) (fun a ha j x hx=>by
    simp only[Option.some.injEq]at ha;subst ha
    have:(⟨g,0,none⟩:Addr).add j=⟨g,0+j,none⟩:=by unfold Addr.add;split<;>simp_all
    rw[this];exact hcs j x hx) hvs h1v).mono ?_
   rintro e w' ⟨rfl,rfl⟩
   have hgc:=grownCap_ge w (xs.length+1) cap T;refine⟨⟨w.heap.size,_,_,T,by rw[hlen],.inr (Nat.le_refl _),qcc w.drew _,?_,by rw[hlen];exact hgc,grownCap_le_maxLen w _ _ _ (by omega),fun j x hx=> ?_⟩,rfl,rfl,rfl,by rw[qaH];exact Nat.le_succ _,fun b hb _=>Below.heap_alloc w.drew _ b hb⟩
   ·rw[Array.size_append,qkP];simp;omega
   ·have hj:=(List.getElem?_eq_some_iff.1 hx).1
    rw[hlen]at hj;rw[List.take_length,List.drop_length]at hx;rw[Array.getElem?_append_left (by simp;omega)];have:(xs.map (Value.int .i64)++[Value.int .i64 v])=(xs++[v]).map (Value.int .i64):=by simp
    rw[this,List.getElem?_toArray,List.getElem?_map,hx];rfl
  ·have hlt:i<xs.length:=by omega
   refine(hi.grow g 0 xs.length cap i vb 0 1 1 (xs.map (.int .i64)) [.int .i64 v] w hlt (by omega) hn (by omega) hlim (by simp) rfl hcs hvs (qhI xs) h1v).mono ?_
   rintro e w' ⟨rfl,rfl⟩
   have hgc:=grownCap_ge w (xs.length+1) cap T;generalize hA:(((xs.map (Value.int .i64)).take i).toArray++Builtin.zeroCells (Value.int .i64 0).cells (xs.length+1-i)++Builtin.zeroCells (Value.int .i64 0).cells (grownCap w (xs.length+1) cap T-(xs.length+1)))=A0;have hA0:A0.size=grownCap w (xs.length+1) cap T:=by
    rw[<-hA,Array.size_append,Array.size_append,qkP,qkP];simp;omega
   obtain⟨arr1,a1,a2⟩:=qb4 w.heap.size [.int .i64 v] i (w.alloc (.cells A0 T)).drew A0 T (qcc w _);obtain⟨arr',b1,b2⟩:=qb4 w.heap.size ((xs.map (Value.int .i64)).drop i) (i+1) (((w.alloc (.cells A0 T)).drew.setCells w.heap.size i [.int .i64 v]).drew) arr1 T a1;obtain⟨r1,r2,r3,r4⟩:=qb3 w.heap.size [.int .i64 v] i (w.alloc (.cells A0 T)).drew;obtain⟨s1,s2,s3,s4⟩:=qb3 w.heap.size ((xs.map (Value.int .i64)).drop i) (i+1) (((w.alloc (.cells A0 T)).drew.setCells w.heap.size i [.int .i64 v]).drew);refine⟨⟨w.heap.size,_,arr',T,by rw[hlen],.inr (Nat.le_refl _),b1,by omega,by rw[hlen];exact hgc,grownCap_le_maxLen w _ _ _ (by omega),fun j x hx=> ?_⟩,s1.trans r1,s2.trans r2,s3.trans r3,by
    rw[s4];show w.heap.size<=((w.alloc (.cells A0 T)).drew.setCells w.heap.size i [.int .i64 v]).heap.size;rw[r4];show w.heap.size<=(w.alloc (.cells A0 T)).heap.size;rw[qaH];exact Nat.le_succ _,fun b hb _=>by
    rw[qbL _ _ _ _ b (by omega)];show((w.alloc (.cells A0 T)).drew.setCells w.heap.size i [.int .i64 v]).heap[b]?=_;rw[qbL _ _ _ _ b (by omega)];exact Below.heap_alloc w _ b hb⟩
   rw[hget]at hx;rw[<-qcg b1];have c1:∀k,(w.alloc (.cells A0 T)).drew.cell? ⟨w.heap.size,k,none⟩=A0[k]?:=qcg (qcc w (.cells A0 T));have c2:∀k,(((w.alloc (.cells A0 T)).drew.setCells w.heap.size i [.int .i64 v]).drew).cell? ⟨w.heap.size,k,none⟩=arr1[k]?:=qcg a1
   by_cases h1:j<i
   ·rw[if_pos h1]at hx
    rw[World.cell?_setCells_out _ _ _ _ _ (fun _ _=> .inl (by show j<i+1;omega))];show((w.alloc (.cells A0 T)).drew.setCells w.heap.size i [.int .i64 v]).cell? ⟨w.heap.size,j,none⟩=_;rw[World.cell?_setCells_out _ _ _ _ _ (fun _ _=> .inl h1),c1,<-hA,Array.append_assoc,Array.getElem?_append_left (by simp;omega)];simp[List.getElem?_take,h1,hx]
   ·rw[if_neg h1]at hx
    by_cases h2:j=i
    ·rw[if_pos h2]at hx;simp at hx;subst hx;subst h2
     rw[World.cell?_setCells_out _ _ _ _ _ (fun _ _=> .inl (by show j<j+1;omega))];have:=World.cell?_setCells_in w.heap.size [.int .i64 v] j (w.alloc (.cells A0 T)).drew (fun k hk=>by rw[c1];simp at hk;simp;omega) 0 (by simp);simpa using this
    ·rw[if_neg h2]at hx
     have hjl:=(List.getElem?_eq_some_iff.1 hx).1;have:=World.cell?_setCells_in w.heap.size ((xs.map (Value.int .i64)).drop i) (i+1) (((w.alloc (.cells A0 T)).drew.setCells w.heap.size i [.int .i64 v]).drew) (fun k hk=>by rw[c2];simp at hk;simp;omega) (j-(i+1)) (by simp;omega);rw[show i+1+(j-(i+1))=j by omega]at this;rw[this];have hx2:xs[j-1]=x:=(List.getElem?_eq_some_iff.1 hx).2;simp only[List.getElem_drop,List.getElem_map];rw[<-hx2]
     congr 3;omega
end Go.Proofs.Ytfiakfiocdfpbaa.VS
