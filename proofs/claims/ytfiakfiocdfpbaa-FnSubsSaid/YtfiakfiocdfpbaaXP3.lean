/- Contracts of the program's functions on the evaluator without names, and plain lemmas: part 3. -/
import Derived.Test.YtfiakfiocdfpbaaXP2
set_option linter.unusedSimpArgs false
set_option linter.unusedVariables false
namespace Go.Proofs.Ytfiakfiocdfpbaa.VS
def qoz:VCode:= .seq (.ghost (.frzB 3 2 [2]) (.region false 0 [2] qob)) .ret
def qez:VCode:= .seq (.region false 0 [0,2,3,4,38] qkZ) (.block 2 (.seq (.region false 0 [0,2,3,4,38,39] qkY) (.cond (.t 39) (.region false 0 [2,3] qAs) (.seq (.region false 0 [0,2,3,4,38,47] qii) (.cond (.t 47) (.region false 0 [2,3] qsr) (.seq (.region false 0 [0,2,3,4,38,55] qk0) (.cond (.t 55) (.regionT 0 [2,3] qod qhf) (.seq (.region false 0 [0,2,3,69] qoc) (.cond (.t 69) (.seq (.region false 0 [2] qsq) .ret) .skip)))))))))
theorem qIq:qKJ=⟨1,[.cell 2 true 3],.seq (.region false 1 [0,2] qAw) (.seq (.region false 4 [0,2,3] qAv) (.seq (.region false 0 [0,2,3,4] qAu) (.seq (.seq (.region false 0 [0,2,3,4,5] qAt) (.block 0 (.loop [0,2,3,4,5] ql6))) (.seq qez qoz))))⟩:=rfl
def qKB(bs:List Int)(B:qan)(n:Nat):Prop:=B.length=6/\qcB bs 0 B/\B[1]?=some (some [.d (.int .i64 0),.d (.int .i64 0),.d (.sl U [])])/\
 ∃(c5:List AV) (ds5:List DV) (t':T),B[5]?=some (some c5)/\qem (AV.frzC (qcu 2 B) 6) c5=some ds5/\ds5.map DV.clr=fcs [t']/\t'.inner<=n/\t'.rng
theorem WS.read5{bs:List Int}{j k:Nat}{B:qan}{A D:List T}{f v:Int}{ks:List T}{N:Nat}(h:WS bs j k B A D f v ks N)(u:T)(g:Tag)(X:List DV)(hX:X.map DV.clr=u.kids.map (T.enc .sub))(n:Nat)(hn:N+u.inner<=n)(hur:u.rng):
 qKB bs (B.set j (some (qdh A (.d (.int .i64 u.f)) (.d (.int .i64 u.v)) (.d (.sl g X)) D))) n:=by
 have hj:=h.j2;have hjk:=h.jk;have hlen:=h.len;obtain⟨c5,ds5,t',e1,e2,e3,e4,e5⟩:=h.read (B':=B.set j (some (qdh A (.d (.int .i64 u.f)) (.d (.int .i64 u.v)) (.d (.sl g X)) D))) (by simp[hlen]) (fun i hi=>by rw[qgt (by omega)]) u g X hX (by rw[List.getElem?_set_self (by omega)]);refine⟨by simp[hlen],?_,by rw[qgt (by omega)];exact h.one,c5,ds5,t',e1,e2,e3,by omega,e5 hur⟩;obtain⟨pos,st,hp,hb⟩:=h.seed;exact⟨pos,st,hp,by simp only[qa6];rw[qgt (by omega),qda hb]⟩
theorem qlB(ks:List T):(ks.map (T.enc U)).map DV.clr=ks.map (T.enc .sub):=qbz _ _
theorem qxj(bs:List Int)(hl:bs.length<=1099511627776){j k:Nat}{B:qan}{A D:List T}{f v:Int}{ks:List T}{N:Nat}(h:WS bs j k B A D f v ks N)(x5 x22:DV):
 (∃(r':List (Nat×AV)) (B':qan),qau XV (XV.lin 161) qez ⟨[(0,.ptr 0 0),(2,.ptr 1 0),(3,.ptr 5 0),(4,.ptr j (A.length*3)),(5,.d x5),(22,.d x22)],B⟩=some (.normal,⟨r',B'⟩)/\lk r' 2=some (.ptr 1 0)/\lk r' 3=some (.ptr 5 0)/\qKB bs B' 12)\/
 (∃(t:T) (g:Tag) (B':qan),qau XV (XV.lin 161) qez ⟨[(0,.ptr 0 0),(2,.ptr 1 0),(3,.ptr 5 0),(4,.ptr j (A.length*3)),(5,.d x5),(22,.d x22)],B⟩=some (.ret,⟨[(2,.ptr 1 0)],B'⟩)/\qcB bs 0 B'/\B'.length=6/\B'[1]?=some (some [.d (.int .i64 t.f),.d (.int .i64 t.v),.d (.sl g (t.kids.map (T.enc g)))])/\t.inner<=14/\t.rng):=by
 obtain⟨r,B1,hr,hT1,hc⟩:=qcv bs hl B 0 h.seed 12 (by omega) (by omega);have h1:=h.turn hT1;have hat:=h1.at_;have hjl:j<B1.length:=by have:=h1.jk;rw[h1.len];omega
 have hj2:=h.j2;have hjk:=h.jk;have hsz:=h.siz;have keepT:∀(B':qan),qch bs 0 B1 B'->B'[j]?=some (some (qdh A (.d (.int .i64 f)) (.d (.int .i64 v)) (.d (.sl U (ks.map (T.enc U)))) D)):=fun B' hT=>(h1.turn hT).at_
 by_cases c0:r=0
 ·subst c0
  obtain⟨i,hi,B2,hT2,hc2⟩:=qdt bs hl B1 0 h1.seed [-2,-1,0,5,7] (by simp) (by simp);generalize ([-2,-1,0,5,7]:List Int)[i]=x at hc2;have h2:=h1.turn hT2;have hat2:=h2.at_;have hl2:=h2.len;have hB2:∀h:j<B2.length,B2[j]'h=some (qdh A (.d (.int .i64 f)) (.d (.int .i64 v)) (.d (.sl U (ks.map (T.enc U)))) D):=fun h=>(List.getElem?_eq_some_iff.1 hat2).2
  have hrl:=qdE A (.d (.int .i64 f)) (.d (.int .i64 v)) (.d (.sl U (ks.map (T.enc U)))) D;have hsp:=qIL A (.d (.int .i64 f)) (.d (.int .i64 v)) (.d (.sl U (ks.map (T.enc U)))) (.d (.int .i64 x)) D;have hle:A.length*3+1<=A.length*3+3+D.length*3:=by omega
  have hj6:j<6:=by omega
  have hin:∀a b:Int,(T.node a b ks).inner=(T.node f v ks).inner:=fun a b=>by simp only[T.inner]
  have hres:=h2.read5 (.node x v ks) U (ks.map (T.enc U)) (qlB ks) 12 (by rw[hin];omega) ⟨h.rg.1,h.rg.2⟩;simp only[T.qcj,T.qcV]at hres;refine .inl ⟨[(2,.ptr 1 0),(3,.ptr 5 0)],_,?_,rfl,rfl,hres⟩;simp only[List.map_cons,List.map_nil]at hc2;generalize qdh A (.d (.int .i64 f)) (.d (.int .i64 v)) (.d (.sl U (ks.map (T.enc U)))) D=R at*
  generalize qdh A (.d (.int .i64 x)) (.d (.int .i64 v)) (.d (.sl U (ks.map (T.enc U)))) D=R' at*
  simp[qez,qkZ,qkY,qAs,hc,hc2,hl2,hB2,hj6,hrl,hsp,hle,qay,List.replicate,qaa,qac,qai,qbx]
 by_cases c1:r=1
 ·subst c1
  obtain⟨i,hi,B2,hT2,hc2⟩:=qdt bs hl B1 0 h1.seed [-1,1,99,100] (by simp) (by simp);have hxx:∀y:Int,y∈([-1,1,99,100]:List Int)->-9223372036854775808<=y/\y<=9223372036854775807:=fun y hy=>by
   simp only[List.mem_cons,List.not_mem_nil,or_false]at hy;omega
  have hxr:=hxx _ (List.getElem_mem hi);generalize ([-1,1,99,100]:List Int)[i]=x at hc2 hxr;have h2:=h1.turn hT2;have hat2:=h2.at_;have hl2:=h2.len;have hB2:∀h:j<B2.length,B2[j]'h=some (qdh A (.d (.int .i64 f)) (.d (.int .i64 v)) (.d (.sl U (ks.map (T.enc U)))) D):=fun h=>(List.getElem?_eq_some_iff.1 hat2).2
  have hrl:=qdE A (.d (.int .i64 f)) (.d (.int .i64 v)) (.d (.sl U (ks.map (T.enc U)))) D;have hsp:=qIK A (.d (.int .i64 f)) (.d (.int .i64 v)) (.d (.sl U (ks.map (T.enc U)))) (.d (.int .i64 x)) D;have hle:A.length*3+1+1<=A.length*3+3+D.length*3:=by omega
  have hj6:j<6:=by omega
  have hin:∀a b:Int,(T.node a b ks).inner=(T.node f v ks).inner:=fun a b=>by simp only[T.inner]
  have hres:=h2.read5 (.node f x ks) U (ks.map (T.enc U)) (qlB ks) 12 (by rw[hin];omega) ⟨hxr,h.rg.2⟩;simp only[T.qcj,T.qcV]at hres;refine .inl ⟨[(2,.ptr 1 0),(3,.ptr 5 0)],_,?_,rfl,rfl,hres⟩;simp only[List.map_cons,List.map_nil]at hc2;generalize qdh A (.d (.int .i64 f)) (.d (.int .i64 v)) (.d (.sl U (ks.map (T.enc U)))) D=R at*
  generalize qdh A (.d (.int .i64 f)) (.d (.int .i64 x)) (.d (.sl U (ks.map (T.enc U)))) D=R' at*
  simp[qez,qkZ,qkY,qii,qsr,hc,hc2,hl2,hB2,hj6,hrl,hsp,hle,qay,List.replicate,qaa,qac,qai,qbx]
 have n0:(r==0)=false:=by simpa using c0
 have n1:(r==1)=false:=by simpa using c1
 by_cases c2:r=2
 ·subst c2
  have hs:=h1.seed;obtain⟨pos,st,hp,hb0⟩:=hs;obtain⟨t2,g2,B2,hi2,⟨pos2,st2,hp2,rfl⟩,hc2⟩:=qgU bs hl 1 (by omega) 2 (by omega) [some (qbb bs pos st)] 0 ⟨pos,st,hp,rfl⟩;simp only[List.set_cons_zero]at hc2;have h2:=h1.turn (B':=B1.set 0 (some (qbb bs pos2 st2))) ⟨pos2,st2,hp2,rfl⟩;have hl1:=h1.len;have hB1:∀h:j<B1.length,B1[j]'h=some (qdh A (.d (.int .i64 f)) (.d (.int .i64 v)) (.d (.sl U (ks.map (T.enc U)))) D):=fun h=>(List.getElem?_eq_some_iff.1 hat).2
  have hX:(ks.map (T.enc U)++[t2.enc g2]).map DV.clr=(T.node f v (ks++[t2])).kids.map (T.enc .sub):=by
   rw[List.map_append,qbz,T.qaQ,List.map_append];simp
  have hin:N+(T.node f v (ks++[t2])).inner<=12:=by
   have e1:(T.node f v (ks++[t2])).inner=ks.length+1+(T.inners ks+(t2.inner+0)):=by
    rw[T.qhX,T.qaQ,qgh];simp only[List.length_append,List.length_cons,List.length_nil,T.inners]
   have e2:(T.node f v ks).inner=ks.length+T.inners ks:=by rw[T.qhX,T.qaQ]
   omega
  have hres:=h2.read5 (.node f v (ks++[t2])) U _ hX 12 hin ⟨h.rg.1,qnL h.rg.2 ⟨hi2.2,trivial⟩⟩;simp only[T.qcj,T.qcV]at hres;have hj0:(0:Nat)≠j:=by omega
  have hkl:(ks.length+1)*40<=140737488355328:=by
   have e2:(T.node f v ks).inner=ks.length+T.inners ks:=by rw[T.qhX,T.qaQ]
   omega
  have ha:qaS 3 40 (.sl U (ks.map (T.enc U))) (.sl .sub [t2.enc g2])=some (.sl U (ks.map (T.enc U)++[t2.enc g2])):=by
   unfold qaS;simp only;rw[if_pos (by simp[qaa,qab])];simp only[List.isEmpty_cons,Bool.false_eq_true,if_false];rw[if_pos ⟨by simpa using hkl,trivial,by simp⟩]
  have hrl:=qdE A (.d (.int .i64 f)) (.d (.int .i64 v)) (.d (.sl .sub (ks.map (T.enc .sub)))) D;have hg2:=qtz A (.d (.int .i64 f)) (.d (.int .i64 v)) (.d (.sl U (ks.map (T.enc U)))) D;have hsp:=qzi A (.d (.int .i64 f)) (.d (.int .i64 v)) (.d (.sl .sub (ks.map (T.enc .sub)))) (.d (.sl U (ks.map (T.enc U)++[t2.enc g2]))) D;have hRl:A.length*3+2<(qdh A (.d (.int .i64 f)) (.d (.int .i64 v)) (.d (.sl U (ks.map (T.enc U)))) D).length:=by rw[qdE];omega
  have hclr:qcy B1 j (A.length*3+2) 1=B1.set j (some (qdh A (.d (.int .i64 f)) (.d (.int .i64 v)) (.d (.sl .sub (ks.map (T.enc .sub)))) D)):=by
   unfold qcy;simp only[qa6,hat];rw[List.drop_eq_getElem_cons hRl,(List.getElem?_eq_some_iff.1 hg2).2];simp only[List.take_succ_cons,List.take_zero,AV.clrs,AV.clr,DV.clr,DV.qam,qbz];rw[qzi]
  have hld:qae B1 false 1 j (A.length*3+2)=some (.d (.sl U (ks.map (T.enc U)))):=by
   simp only[qae,qa6,hat,Option.bind_some,Bool.false_eq_true,if_false,hg2]
  have heq:((B1.set j (some (qdh A (.d (.int .i64 f)) (.d (.int .i64 v)) (.d (.sl .sub (ks.map (T.enc .sub)))) D))).set 0 (some (qbb bs pos2 st2))).set j (some (qdh A (.d (.int .i64 f)) (.d (.int .i64 v)) (.d (.sl U (ks.map (T.enc U)++[t2.enc g2]))) D))=(B1.set 0 (some (qbb bs pos2 st2))).set j (some (qdh A (.d (.int .i64 f)) (.d (.int .i64 v)) (.d (.sl U (ks.map (T.enc U)++[t2.enc g2]))) D)):=by
   rw[List.set_comm _ _ (Ne.symm hj0),List.set_set]
  rw[<-heq]at hres;have hle:A.length*3+2+1<=A.length*3+3+D.length*3:=by omega
  have hj6:j<6:=by omega
  have hn6:¬6<=j:=by omega
  have hj0':¬j=0:=by omega
  refine .inl ⟨[(2,.ptr 1 0),(3,.ptr 5 0)],_,?_,rfl,rfl,hres⟩;have g0:(B1.set j (some (qdh A (.d (.int .i64 f)) (.d (.int .i64 v)) (.d (.sl .sub (ks.map (T.enc .sub)))) D)))[0]?=some (some (qbb bs pos st)):=by rw[qgt (Ne.symm hj0),qda hb0]
  have gl:(B1.set j (some (qdh A (.d (.int .i64 f)) (.d (.int .i64 v)) (.d (.sl .sub (ks.map (T.enc .sub)))) D))).length=6:=by simp[hl1]
  have gj:((B1.set j (some (qdh A (.d (.int .i64 f)) (.d (.int .i64 v)) (.d (.sl .sub (ks.map (T.enc .sub)))) D))).set 0 (some (qbb bs pos2 st2)))[j]?=some (some (qdh A (.d (.int .i64 f)) (.d (.int .i64 v)) (.d (.sl .sub (ks.map (T.enc .sub)))) D)):=by rw[qgt hj0,List.getElem?_set_self (by omega)]
  clear hres heq hat keepT hB1;generalize hR':qdh A (.d (.int .i64 f)) (.d (.int .i64 v)) (.d (.sl .sub (ks.map (T.enc .sub)))) D=R' at*
  generalize qdh A (.d (.int .i64 f)) (.d (.int .i64 v)) (.d (.sl U (ks.map (T.enc U)++[t2.enc g2]))) D=R'' at*
  generalize hB3:B1.set j (some R')=B3 at*
  have g0':∀h:0<B3.length,B3[0]'h=some (qbb bs pos st):=fun h=>(List.getElem?_eq_some_iff.1 g0).2
  have hsd:=qfh bs pos st;have hsd1:=qfh bs pos2 st2;have hcl:=qbh bs pos st;have hcl1:=qbh bs pos2 st2;generalize qbb bs pos st=S0 at*
  generalize qbb bs pos2 st2=S1 at*
  have gj':∀h:j<(B3.set 0 (some S1)).length,(B3.set 0 (some S1))[j]'h=some R':=fun h=>(List.getElem?_eq_some_iff.1 gj).2
  have hc2':qaf XV 166 [.ptr 0 0,.d (.int .i64 1),.d (.int .i64 2)] [some S0]=some (.d (t2.enc g2),[some S1]):=hc2;simp[qez,qkZ,qkY,qii,qk0,qKe,hc,hl1,gl,hn6,hj6,hld,hclr,hc2',g0',hsd,hsd1,hcl,hcl1,ha,hsp,hrl,hle,gj',gj,qay,List.replicate,qaa,qab,qac,qai,qbx,-qcy,-qae,lk,hj0']
 have n2:(r==2)=false:=by simpa using c2
 by_cases c3:r=3
 ·subst c3
  obtain⟨t2,g2,B2,hi2,hT2,hc2⟩:=qgU bs hl 3 (by omega) 3 (by omega) B1 0 h1.seed;have h2:=h1.turn hT2;have hl2:=h2.len;have h21:=h2.one;have hB21:∀h:1<B2.length,B2[1]'h=some [.d (.int .i64 0),.d (.int .i64 0),.d (.sl U [])]:=fun h=>(List.getElem?_eq_some_iff.1 h21).2
  obtain⟨f2,vw2,ks2⟩:=t2;obtain⟨pos2,st2,hp2,hb2⟩:=h2.seed;have hc2':qaf XV 166 [.ptr 0 0,.d (.int .i64 3),.d (.int .i64 3)] B1=some (.d ((T.node f2 vw2 ks2).enc g2),B2):=hc2;refine .inr ⟨.node f2 vw2 ks2,g2,B2.set 1 (some [.d (.int .i64 f2),.d (.int .i64 vw2),.d (.sl g2 (ks2.map (T.enc g2)))]),?_,⟨pos2,st2,hp2,by simp only[qa6];rw[qgt (by omega),qda hb2]⟩,by simp[hl2],by rw[List.getElem?_set_self (by omega)];simp,by have:=hi2.1;simp at this;omega,hi2.2⟩;simp[qez,qkZ,qkY,qii,qk0,qoc,qsq,hc,hc2',hl2,hB21,splice,qaa,qab,qac,qai,qbx]
 have n3:(r==3)=false:=by simpa using c3
 have hin:qKB bs B1 12:=by
  have:=h1.read5 (.node f v ks) U (ks.map (T.enc U)) (qlB ks) 12 (by omega) h.rg;simp only[T.qcj,T.qcV]at this;rwa[show B1.set j (some (qdh A (.d (.int .i64 f)) (.d (.int .i64 v)) (.d (.sl U (ks.map (T.enc U)))) D))=B1 from by
   apply List.ext_getElem?;intro i
   by_cases hij:j=i
   ·subst hij;rw[List.getElem?_set_self',hat];simp
   ·rw[List.getElem?_set_ne hij]]at this
 refine .inl ⟨[(0,.ptr 0 0),(2,.ptr 1 0),(3,.ptr 5 0),(69,.d (.bool false))],B1,?_,rfl,rfl,hin⟩;simp[qez,qkZ,qkY,qii,qk0,qoc,hc,n0,n1,n2,n3]
end Go.Proofs.Ytfiakfiocdfpbaa.VS
namespace Go.Proofs.Ytfiakfiocdfpbaa.VS
theorem qly(bs:List Int)(hl:bs.length<=1099511627776)(pos st:Int)(hp:0<=pos/\pos<=bs.length):
 ∃(t:T) (g:Tag) (pos' st':Int),(t.inner<=14/\t.rng)/\(0<=pos'/\pos'<=bs.length)/\qaf XV 161 [.ptr 0 0] [some (qbb bs pos st)]=some (.d (t.enc g),[some (qbb bs pos' st')]):=by
 have hs0:qcB bs 0 [some (qbb bs pos st),some [.d (.int .i64 0),.d (.int .i64 0),.d (.sl U [])],none,none,none,none]:=⟨pos,st,hp,rfl⟩;obtain⟨t0,B1,hi0,_,⟨pos1,st1,hp1,rfl⟩,hc⟩:=qf0 bs hl 3 (by omega) _ 0 hs0;simp only[List.set_cons_zero]at hc;obtain⟨f,v,ks⟩:=t0;have hW:WS bs 5 0 [some (qbb bs pos1 st1),some [.d (.int .i64 0),.d (.int .i64 0),.d (.sl U [])],none,none,none,some [.d (.int .i64 f),.d (.int .i64 v),.d (.sl U (ks.map (T.enc U)))]] [] [] f v ks 0:=by
  refine⟨rfl,by omega,rfl,⟨pos1,st1,hp1,rfl⟩,rfl,fun i h1 h2=> ?_,rfl,fun rs hr=> ?_,Ctx.base _,by omega,hi0.2⟩
  ·rcases i with _|_|_|_|_|i<;>first|omega|rfl
  ·simp[qf8 rs hr bs pos1 st1,qc2]
 obtain⟨j,k,B2,A,D,f',v',ks',N,hW2,hloop⟩:=qJp bs hl 3 5 0 _ [] [] f v ks 0 rfl hW ⟨[(0,.ptr 0 0),(2,.ptr 1 0),(3,.ptr 5 0),(4,.ptr 5 0),(5,.d (.int .i64 0))],[some (qbb bs pos1 st1),some [.d (.int .i64 0),.d (.int .i64 0),.d (.sl U [])],none,none,none,some [.d (.int .i64 f),.d (.int .i64 v),.d (.sl U (ks.map (T.enc U)))]]⟩ (by simp[qag,qad]);have hcase:=qxj bs hl hW2 (.int .i64 k) (.bool false);have start:∀q:Option (AV×qan),qLC 1 [.cell 2 true 3] (qau XV (XV.lin 161) (.seq qez qoz) ⟨[(0,.ptr 0 0),(2,.ptr 1 0),(3,.ptr 5 0),(4,.ptr j (A.length*3)),(5,.d (.int .i64 k)),(22,.d (.bool false))],B2⟩)=q->qaf XV 161 [.ptr 0 0] [some (qbb bs pos st)]=q:=by
  intro q hq;rw[qxK XV _ _ _ qKJ rfl qyc rfl (m:=1) rfl rfl,qIq];simp only[qiz,qlY,qbh];rw[<-hq];simp only[qA2]at hloop⊢
  generalize VCode.seq qez qoz=G;simp[qAw,qAv,qAu,qAt,hc,splice,qaa,qab,qac,qai];rw[hloop];simp
 rcases hcase with⟨r',B',e1,e2,e3,hlen,⟨pos2,st2,hp2,hb⟩,hone,c5,ds5,t',q1,q2,q3,q4,q5⟩|⟨t,g,B',e1,⟨pos2,st2,hp2,hb⟩,hlen,hone,hi,hir⟩
 ·obtain⟨C,hf⟩:=qOc B' (some (qbb bs pos2 st2)) none _ _ _ hlen (qda hb) hone r' e2 e3 t' c5 ds5 q1 q2 q3
  refine⟨t',.sub,pos2,st2,⟨by omega,q5⟩,hp2,start _ ?_⟩;rw[qd1,e1];simp only[qiI];unfold qoz;rw[hf];obtain⟨f2,vw2,ks2⟩:=t';simp[qae]
 ·refine⟨t,g,pos2,st2,⟨hi,hir⟩,hp2,start _ ?_⟩
  rw[qd1,e1];simp only[qo5];obtain⟨f2,vw2,ks2⟩:=t
  match B',hlen with
  | [b0,b1,b2,b3,b4,b5],_=>
   have hb0:=qda hb;simp at hb0 hone;subst hb0;subst hone
   simp[qae]
end Go.Proofs.Ytfiakfiocdfpbaa.VS
namespace Go.Proofs.Ytfiakfiocdfpbaa.VS
theorem qcc(bs:List Int)(pos st:Int):qaC (qbb bs pos st)=some [.sl .sub (bs.map (.int .u8)),.int .i64 pos,.int .i64 st]:=by simp[qbb]
end Go.Proofs.Ytfiakfiocdfpbaa.VS
namespace Go.Proofs.Ytfiakfiocdfpbaa.VS
end Go.Proofs.Ytfiakfiocdfpbaa.VS
namespace Go.Proofs.Ytfiakfiocdfpbaa.VS
end Go.Proofs.Ytfiakfiocdfpbaa.VS
namespace Go.Proofs.Ytfiakfiocdfpbaa.VS
end Go.Proofs.Ytfiakfiocdfpbaa.VS
namespace Go.Proofs.Ytfiakfiocdfpbaa.VS
end Go.Proofs.Ytfiakfiocdfpbaa.VS
namespace Go.Proofs.Ytfiakfiocdfpbaa.VS
def c00:Option (List AV):=some [.d (.int .i64 0),.d (.int .i64 0),.d (.sl U [])]
end Go.Proofs.Ytfiakfiocdfpbaa.VS
namespace Go.Proofs.Ytfiakfiocdfpbaa.VS
end Go.Proofs.Ytfiakfiocdfpbaa.VS
namespace Go.Proofs.Ytfiakfiocdfpbaa.VS
def e3(t:T):List AV:=[.d (.int .i64 t.f),.d (.int .i64 t.v),.d (qaj U t.kids)]
def e3'(t:T):List AV:=[.d (.int .i64 t.f),.d (.int .i64 t.v),.d (qaj .sub t.kids)]
def kc(l:List T):List AV:=(l.map e3).flatten
def qK8(cs:List (List AV)):Prop:=∀c,c∈cs->c.length=3
theorem qoP(l:List T):qK8 (l.map e3):=fun c hc=>by
 obtain⟨t,_,rfl⟩:=List.mem_map.1 hc;rfl
theorem qoO{cs:List (List AV)}(h:qK8 cs)(p:Nat)(x:List AV)(hx:x.length=3):qK8 (cs.set p x):=fun c hc=>by
 rcases List.mem_or_eq_of_mem_set hc with h1|h1
 ·exact h c h1
 ·rw[h1,hx]
theorem qfT:∀{cs:List (List AV)},qK8 cs->cs.flatten.length=cs.length*3
 | [],_=>rfl
 |c::r,h=>by
  have:=qfT (cs:=r) (fun x hx=>h x (by simp[hx]));have hc:=h c (by simp);simp only[List.flatten_cons,List.length_append,List.length_cons,this,hc];omega
theorem qhC:∀{cs:List (List AV)} (_:qK8 cs) (p:Nat) (hp:p<cs.length),(cs.flatten.drop (p*3)).take 3=cs[p]
 |c::r,h,0,hp=>by
  have hc:=h c (by simp);simp only[Nat.zero_mul,List.drop_zero,List.flatten_cons,List.getElem_cons_zero];rw[List.take_append_of_le_length (by omega),List.take_of_length_le (by omega)]
 |c::r,h,p+1,hp=>by
  have hc:=h c (by simp);have:=qhC (cs:=r) (fun x hx=>h x (by simp[hx])) p (by simpa using hp);simp only[List.flatten_cons,List.getElem_cons_succ];rw[List.drop_append,List.drop_of_length_le (by omega),List.nil_append,show(p+1)*3-c.length=p*3 by omega];exact this
theorem qdu:∀{cs:List (List AV)} (_:qK8 cs) (p:Nat) (hp:p<cs.length) (x:List AV) (hx:x.length=3),splice cs.flatten (p*3) x=(cs.set p x).flatten
 |c::r,h,0,hp,x,hx=>by
  have hc:=h c (by simp);unfold splice;simp only[Nat.zero_mul,List.take_zero,List.nil_append,Nat.zero_add,List.flatten_cons,List.set_cons_zero];rw[hx,List.drop_append,List.drop_of_length_le (by omega),List.nil_append,show 3-c.length=0 by omega,List.drop_zero]
 |c::r,h,p+1,hp,x,hx=>by
  have hc:=h c (by simp);have:=qdu (cs:=r) (fun y hy=>h y (by simp[hy])) p (by simpa using hp) x hx;unfold splice at this⊢
  simp only[List.flatten_cons,List.set_cons_succ];rw[List.take_append,List.take_of_length_le (l:=c) (by omega),List.drop_append,List.drop_of_length_le (l:=c) (by omega),List.nil_append,show(p+1)*3-c.length=p*3 by omega,show(p+1)*3+x.length-c.length=p*3+x.length by omega,<-this];simp only[List.append_assoc]
theorem qht(l:List T):(kc l).length=l.length*3:=by unfold kc;rw[qfT (qoP l),List.length_map]
theorem qBb:∀l:List T,kc l=qnK (l.map (T.enc U))
 | []=>rfl
 |t::r=>by
  have h:=qBb r;unfold qnK kc at h⊢
  simp[e3,flat]at h⊢
  exact h
def swp(l:List T)(p q:Nat):List T:=(l.set q (tAt l p)).set p (tAt l q)
theorem qga(l:List T)(p q:Nat)(hp:p<l.length)(hq:q<l.length)(hpq:p≠q):∃c1 c2 c3:List AV,c1.length=l.length*3/\c2.length=l.length*3/\c3.length=l.length*3/\
 ((kc l).drop (p*3)).take 3=e3 (tAt l p)/\splice (kc l) (p*3) (e3' (tAt l p))=c1/\(c1.drop (q*3)).take 3=e3 (tAt l q)/\splice c1 (q*3) (e3' (tAt l q))=c2/\splice c2 (q*3) (e3 (tAt l p))=c3/\splice c3 (p*3) (e3 (tAt l q))=kc (swp l p q):=by
 have h0:=qoP l;have h1:=qoO h0 p (e3' (tAt l p)) rfl;have h2:=qoO h1 q (e3' (tAt l q)) rfl;have h3:=qoO h2 q (e3 (tAt l p)) rfl;refine⟨_,_,_,?_,?_,?_,?_,qdu h0 p (by simpa using hp) _ rfl,?_,qdu h1 q (by simpa using hq) _ rfl,qdu h2 q (by simpa using hq) _ rfl,?_⟩
 ·rw[qfT h1];simp
 ·rw[qfT h2];simp
 ·rw[qfT h3];simp
 ·unfold kc;rw[qhC h0 p (by simpa using hp)];simp[qaF hp]
 ·rw[qhC h1 q (by simpa using hq),List.getElem_set_ne hpq];simp[qaF hq]
 ·rw[qdu h3 p (by simpa using hp) _ rfl]
  unfold kc swp
  congr 1
  rw[List.map_set,List.map_set];apply List.ext_getElem (by simp);intro k k1 k2;simp only[List.getElem_set,List.getElem_map]
  by_cases e1:p=k
  ·subst e1;simp
  ·by_cases e2:q=k
   ·subst e2;simp[e1]
   ·simp[e1,e2]
theorem qjr(t:T):e3 t=[.d (.int .i64 t.f),.d (.int .i64 t.v),.d (qaj U t.kids)]:=rfl
theorem qoD(t:T):e3' t=[.d (.int .i64 t.f),.d (.int .i64 t.v),.d (qaj .sub t.kids)]:=rfl
theorem qIw(l:List T)(i:Nat)(hn:l.length<=1099511627776)(hl:i+1<l.length)(x1 x2 x3 x8:AV)(h1:x1.clr=x1)(h2:x2.clr=x2):
 qau XV [46,50] (.region true 0 [0,1,2,3,8,9] qtL) ⟨[(0,.tsl true 0 3 l.length),(1,x1),(2,x2),(3,x3),(8,x8),(9,.d (.int .i64 ((i+1:Nat):Int))),(34,.d (.bool true))],[some (kc l)]⟩=some (.normal,⟨[(0,.tsl true 0 3 l.length),(1,x1),(2,x2),(3,x3),(8,x8),(9,.d (.int .i64 ((i+1:Nat):Int)))],[some (kc (swp l i (i+1)))]⟩):=by
 have hw:IntKind.i64.wrap (((i+1:Nat):Int)-1)=(i:Int):=by rw[show((i+1:Nat):Int)-1=(i:Int)by omega];exact wrap_i64 (by omega) (by omega)
 obtain⟨c1,c2,c3,l1,l2,l3,f1,f2,f3,f4,f5,f6⟩:=qga l i (i+1) (by omega) hl (by omega);have l0:=qht l;generalize kc (swp l i (i+1))=c4 at f6⊢
 generalize kc l=c0 at f1 f2 l0⊢
 generalize hn':l.length=n at*
 have hj0:(0:Int)<=((i+1:Nat):Int)/\((i+1:Nat):Int)<n:=⟨by omega,by omega⟩;have hjn:((i+1:Nat):Int).toNat=i+1:=rfl;have hi0:(i:Int)<n:=by omega
 have le0:i*3+3<=n*3:=by omega
 have le1:(i+1)*3+3<=n*3:=by omega
 generalize ((i+1:Nat):Int)=J at hw hj0 hjn⊢
 simp only[qjr,qoD,qaj]at f1 f2 f3 f4 f5 f6;have hcls:∀x y z:AV,AV.clrs [x,y,z]=[x.clr,y.clr,z.clr]:=fun x y z=>by simp only[AV.clrs]
 simp[qHy,hw,hj0,hjn,hi0,l0,l1,l2,l3,f1,f2,f3,f4,f5,f6,le0,le1,hcls,qac,qaa,qab,qai]
end Go.Proofs.Ytfiakfiocdfpbaa.VS
namespace Go.Proofs.Ytfiakfiocdfpbaa.VS
theorem qs6(a b c d e f:Int)(B:qan)(hB:B.length=3):
 qbj XV [] 3 [2,3,26,27,28] qxv ⟨[(2,.ptr 1 0),(3,.ptr 2 0),(26,.d (.sl .sub (qw8 a b c d e f))),(27,.d (.int .i64 3)),(28,.d (.int .i64 0))],B⟩=
  some (match runN (qkm a b c d e f) 3 () 0 with
   | .inl _=>(.exit 0,⟨[(2,.ptr 1 0),(3,.ptr 2 0),(26,.d (.sl .sub (qw8 a b c d e f))),(27,.d (.int .i64 3)),(28,.d (.int .i64 3)),(29,.d (.bool false))],B⟩)
   | .inr r=>(.ret,⟨[(4,.d (.int .i64 r.1))],B++[some [.d (.int .i64 r.2.1),.d (.int .i64 r.2.2)]]⟩)):=by
 obtain⟨z,x0,x1,rfl⟩:∃z x0 x1,B=[z,x0,x1]:=by
  match B,hB with
  | [z,x0,x1],_=>exact⟨z,x0,x1,rfl⟩
 have key:=qat (X:=XV) (T:=[]) (L:=3) (live:=[2,3,26,27,28]) (b:=qxv) (n:=3) (γ:=Int×(Int×Int)) (st:=fun(_:Unit) i=>⟨[(2,.ptr 1 0),(3,.ptr 2 0),(26,.d (.sl .sub (qw8 a b c d e f))),(27,.d (.int .i64 3)),(28,.d (.int .i64 i))],[z,x0,x1]⟩) (step:=qkm a b c d e f)
  (F:=fun _=>(.exit 0,⟨[(2,.ptr 1 0),(3,.ptr 2 0),(26,.d (.sl .sub (qw8 a b c d e f))),(27,.d (.int .i64 3)),(28,.d (.int .i64 3)),(29,.d (.bool false))],[z,x0,x1]⟩)) (R:=fun r=>(.ret,⟨[(4,.d (.int .i64 r.1))],[z,x0,x1]++[some [.d (.int .i64 r.2.1),.d (.int .i64 r.2.2)]]⟩))
  (fun _=>⟨by simp,by simp[qxv,qEL]⟩)
  (fun _ i hi=>by
   have hw:=qao (n:=i) (by omega);have hi':(i:Int)<3:=by omega
   have hb:=qu1 a b c d e f i hi;unfold qkm;generalize qfK a b c d e f i=q at hb;obtain⟨x,y⟩:=q;simp only at hb⊢
   by_cases h1:x<y
   ·rw[if_pos h1]
    refine⟨by simp,?_⟩;simp[qxv,qEL,qI0,qIZ,qIY,hi',hb,cut,h1,qaa,splice,qae,qac,qai]
   ·rw[if_neg h1]
    by_cases h2:x>y
    ·rw[if_pos h2]
     refine⟨by simp,?_⟩;simp[qxv,qEL,qI0,qIZ,qIY,qMc,qMb,hi',hb,cut,h1,h2,qaa,splice,qae,qac,qai]
    ·rw[if_neg h2]
     refine⟨_,by simp[qxv,qEL,qI0,qIZ,qIY,qMc,qMb,qQt,hi',hb,cut,h1,h2,hw,qaa,splice,qae,qac,qai];rfl,?_⟩;simp[qag,qad])
  3 () 0 ⟨[(2,.ptr 1 0),(3,.ptr 2 0),(26,.d (.sl .sub (qw8 a b c d e f))),(27,.d (.int .i64 3)),(28,.d (.int .i64 0))],[z,x0,x1]⟩ (by omega) (by simp[qag,qad])
 rw[key];cases runN (qkm a b c d e f) 3 () 0<;>rfl
theorem qs5(z:Option (List AV))(f v:Int)(ks:List T)(f' v':Int)(ks':List T)(hl:ks.length<=1099511627776)(hlen:ks.length=ks'.length)
 (hrec:∀s s',s∈ks->s'∈ks'->qaf XV 6 [.d (s.enc .sub),.d (s'.enc .sub)] []=some (.d (.int .i64 (T.cmp s s')),[])):
 qbj XV [] 3 [2,3,47,48] qCI ⟨[(2,.ptr 1 0),(3,.ptr 2 0),(47,.d (.int .i64 ks.length)),(48,.d (.int .i64 0))],z::qeS f v ks f' v' ks'⟩=
  some (if T.cmps ks ks'=0 then(.exit 3,⟨[(2,.ptr 1 0),(3,.ptr 2 0),(47,.d (.int .i64 ks.length)),(48,.d (.int .i64 ks.length)),(49,.d (.bool false))],z::qeS f v ks f' v' ks'⟩)else(.ret,⟨[(4,.d (.int .i64 (T.cmps ks ks')))],z::qeS f v ks f' v' ks'⟩)):=by
 have h:=qat (X:=XV) (T:=[]) (L:=3) (live:=[2,3,47,48]) (b:=qCI) (n:=ks.length) (γ:=Int) (st:=fun(_:Unit) i=>⟨[(2,.ptr 1 0),(3,.ptr 2 0),(47,.d (.int .i64 ks.length)),(48,.d (.int .i64 i))],z::qeS f v ks f' v' ks'⟩) (step:=qml ks ks')
  (F:=fun _=>(.exit 3,⟨[(2,.ptr 1 0),(3,.ptr 2 0),(47,.d (.int .i64 ks.length)),(48,.d (.int .i64 ks.length)),(49,.d (.bool false))],z::qeS f v ks f' v' ks'⟩)) (R:=fun r=>(.ret,⟨[(4,.d (.int .i64 r))],z::qeS f v ks f' v' ks'⟩))
  (fun _=>⟨by simp,by simp[qCI,qr9]⟩)
  (fun _ i hi=>by
   have hw:=qao (n:=i) (by omega);have hi2:i<ks'.length:=by omega
   have hc:=hrec _ _ (qaH hi) (qaH hi2);unfold qml qeS
   by_cases h0:T.cmp (tAt ks i) (tAt ks' i)=0
   ·rw[h0]at hc⊢
    simp only[ne_eq,not_true_eq_false,if_false];refine⟨_,by simp[qCI,qr9,qzE,qFu,qzD,qzC,qzB,hi,hi2,hw,cut,qaF hi,qaF hi2,hc,qae];rfl,?_⟩;simp[qag,qad]
   ·simp only[ne_eq,h0,not_false_eq_true,if_true]
    have h0':(T.cmp (tAt ks i) (tAt ks' i) !=0)=true:=by simp[h0]
    refine⟨by simp,?_⟩;simp[qCI,qr9,qzE,qFu,qzD,qzC,qzB,hi,hi2,hw,cut,qaF hi,qaF hi2,hc,qae,h0'])
  ks.length () 0 ⟨[(2,.ptr 1 0),(3,.ptr 2 0),(47,.d (.int .i64 ks.length)),(48,.d (.int .i64 0))],z::qeS f v ks f' v' ks'⟩ (by omega) (by simp[qag,qad,qeS])
 rw[qLU ks ks' hlen _ _ (by omega)]at h;simp only[List.drop_zero]at h;rw[h]
 by_cases h0:T.cmps ks ks'=0<;>simp[h0]
theorem qs4(z:Option (List AV))(f v:Int)(ks:List T)(f' v':Int)(ks':List T)(hl:ks.length<=1099511627776)(hl':ks'.length<=1099511627776)
 (hrec:∀s s',s∈ks->s'∈ks'->qaf XV 6 [.d (s.enc .sub),.d (s'.enc .sub)] []=some (.d (.int .i64 (T.cmp s s')),[])):
 qaf XV 6 [.d ((T.node f v ks).enc .sub),.d ((T.node f' v' ks').enc .sub)] [z]=some (.d (.int .i64 (T.cmp (.node f v ks) (.node f' v' ks'))),[z]):=by
 rw[qap XV _ _ _ v6 rfl qx2 rfl];have h1:=qs6 f f' v v' ks.length ks'.length (z::qeS f v ks f' v' ks') rfl;simp[v6,qQv,qQu,qaa,qab,qac,qai,splice,qae,qay,List.replicate];simp only[qw8,qeS]at h1;rw[h1,qj7];rcases qSZ f f' v v' ks.length ks'.length with⟨h3,e1,e2,e3⟩|⟨r,h3,h4⟩
 ·rw[h3]
  have hlen:ks.length=ks'.length:=by omega
  have h2:=qs5 z f v ks f' v' ks' hl hlen hrec;simp only[qeS]at h2;subst e1;subst e2
  simp[qQs,qae];rw[h2];have h5:qq4 f f v v ks.length ks'.length (T.cmps ks ks')=T.cmps ks ks':=by simp[qq4,hlen]
  rw[h5]
  by_cases c7:T.cmps ks ks'=0
  ·simp[c7,qI1]
  ·simp[c7]
 ·rw[h3,h4];simp
theorem qfl(z:Option (List AV))(a b:T)(ha:a.inner<=1099511627776)(hb:b.inner<=1099511627776):qaf XV 6 [.d (a.enc .sub),.d (b.enc .sub)] [z]=some (.d (.int .i64 (T.cmp a b)),[z]):=by
 obtain⟨f,v,ks⟩:=a;obtain⟨f',v',ks'⟩:=b;simp only[T.inner]at ha hb;exact qs4 z f v ks f' v' ks' (by omega) (by omega) (fun s s' hs hs'=>qgl s s' (by have:=T.qaG hs;omega) (by have:=T.qaG hs';omega))
end Go.Proofs.Ytfiakfiocdfpbaa.VS
namespace Go.Proofs.Ytfiakfiocdfpbaa.VS
theorem qrL(A Z:List T)(x:T):tAt (A++x::Z) A.length=x:=by simp[tAt]
theorem qnB(A M Z:List T)(x y:T)(q:Nat)(hq:q=A.length+1+M.length):swp (A++x::(M++y::Z)) A.length q=A++y::(M++x::Z):=by
 subst hq;have h1:tAt (A++x::(M++y::Z)) (A.length+1+M.length)=y:=by
  have:=qrL (A++x::M) Z y;simp only[List.length_append,List.length_cons,List.append_assoc,List.cons_append]at this;rw[show A.length+1+M.length=A.length+(M.length+1)by omega];exact this
 have h2:=qrL A (M++y::Z) x;unfold swp;rw[h1,h2];have s1:(A++x::(M++y::Z)).set (A.length+1+M.length) x=A++x::(M++x::Z):=by
  have:=List.set_append_right (s:=A++x::M) (t:=y::Z) (A.length+1+M.length) x (by simp;omega);simp only[List.append_assoc,List.cons_append,List.length_append,List.length_cons]at this;rw[this,show A.length+1+M.length-(A.length+(M.length+1))=0 by omega];rfl
 rw[s1,List.set_append_right _ _ (Nat.le_refl _),Nat.sub_self];rfl
theorem qtt(l:List T)(p q:Nat)(h:p≠q):swp l p q=swp l q p:=by
 unfold swp;rw[List.set_comm _ _ h]
theorem qIv(l:List T)(a b i:Nat)(n:Int)(hn:l.length<=1099511627776)(ha:a+i<l.length)(hb:b+i<l.length)(hab:b≠a):
 qau XV [29,35] (.region true 0 [0,1,2,3,10] qtE) ⟨[(0,.tsl true 0 3 l.length),(1,.d (.int .i64 a)),(2,.d (.int .i64 b)),(3,.d (.int .i64 n)),(10,.d (.int .i64 i)),(13,.d (.bool true))],[some (kc l)]⟩=some (.normal,⟨[(0,.tsl true 0 3 l.length),(1,.d (.int .i64 a)),(2,.d (.int .i64 b)),(3,.d (.int .i64 n)),(10,.d (.int .i64 i))],[some (kc (swp l (b+i) (a+i)))]⟩):=by
 have hwa:IntKind.i64.wrap ((a:Int)+i)=((a+i:Nat):Int):=by rw[wrap_i64 (by omega) (by omega)];omega
 have hwb:IntKind.i64.wrap ((b:Int)+i)=((b+i:Nat):Int):=by rw[wrap_i64 (by omega) (by omega)];omega
 obtain⟨c1,c2,c3,l1,l2,l3,f1,f2,f3,f4,f5,f6⟩:=qga l (b+i) (a+i) hb ha (by omega);have l0:=qht l;generalize kc (swp l (b+i) (a+i))=c4 at f6⊢
 generalize kc l=c0 at f1 f2 l0⊢
 generalize hn':l.length=m at*
 have hj0:(0:Int)<=((a+i:Nat):Int)/\((a+i:Nat):Int)<m:=⟨by omega,by omega⟩;have hk0:(0:Int)<=((b+i:Nat):Int)/\((b+i:Nat):Int)<m:=⟨by omega,by omega⟩;have hjn:((a+i:Nat):Int).toNat=a+i:=rfl;have hkn:((b+i:Nat):Int).toNat=b+i:=rfl;have le0:(a+i)*3+3<=m*3:=by omega
 have le1:(b+i)*3+3<=m*3:=by omega
 generalize ((a+i:Nat):Int)=J at hwa hj0 hjn⊢
 generalize ((b+i:Nat):Int)=K at hwb hk0 hkn⊢
 simp only[qjr,qoD,qaj]at f1 f2 f3 f4 f5 f6;have hcls:∀x y z:AV,AV.clrs [x,y,z]=[x.clr,y.clr,z.clr]:=fun x y z=>by simp only[AV.clrs]
 simp[qOB,hwa,hwb,hj0,hjn,hk0,hkn,l0,l1,l2,l3,f1,f2,f3,f4,f5,f6,le0,le1,hcls,qac,qaa,qab,qai]
def srS(A P Q R Z:List T)(i:Nat):List T:=A++R.take i++P.drop i++Q++P.take i++R.drop i++Z
theorem qIz(A P Q R Z:List T)(i:Nat)(h:P.length=R.length):(srS A P Q R Z i).length=(A++P++Q++R++Z).length:=by simp[srS];omega
theorem qEg(A P Q R Z:List T)(i:Nat)(h:P.length=R.length)(hi:i<P.length):swp (srS A P Q R Z i) (A.length+P.length+Q.length+i) (A.length+i)=srS A P Q R Z (i+1):=by
 have hi2:i<R.length:=by omega
 have e0:srS A P Q R Z i=(A++R.take i)++P[i]::((P.drop (i+1)++Q++P.take i)++R[i]::(R.drop (i+1)++Z)):=by
  unfold srS;rw[List.drop_eq_getElem_cons hi,List.drop_eq_getElem_cons hi2];simp only[List.append_assoc,List.cons_append,List.nil_append]
 have e1:srS A P Q R Z (i+1)=(A++R.take i)++R[i]::((P.drop (i+1)++Q++P.take i)++P[i]::(R.drop (i+1)++Z)):=by
  unfold srS;rw[<-List.take_append_getElem hi,<-List.take_append_getElem hi2];simp only[List.append_assoc,List.cons_append,List.nil_append]
 have hl:(A++R.take i).length=A.length+i:=by simp;omega
 rw[e0,e1,qtt _ _ _ (by omega),<-hl];exact qnB _ _ _ _ _ _ (by simp;omega)
theorem qpc(A P Q R Z:List T)(h:P.length=R.length)(hn:(A++P++Q++R++Z).length<=1099511627776)(f:AV)(hf:f.clr=f):
 qaf XV 175 [.tsl true 0 3 (A++P++Q++R++Z).length,.d (.int .i64 A.length),.d (.int .i64 (A.length+P.length+Q.length:Nat)),.d (.int .i64 P.length),f] [some (kc (A++P++Q++R++Z))]=some (.d (.tup []),[some (kc (A++R++Q++P++Z))]):=by
 rw[qap XV _ _ _ qKD rfl qx3 rfl];have hlen:∀i,(srS A P Q R Z i).length=(A++P++Q++R++Z).length:=fun i=>qIz A P Q R Z i h
 have e0:srS A P Q R Z 0=A++P++Q++R++Z:=by simp[srS]
 have e1:srS A P Q R Z P.length=A++R++Q++P++Z:=by
  unfold srS;rw[List.drop_of_length_le (l:=R) (by omega),List.take_of_length_le (l:=R) (by omega)];simp
 rw[<-e0,<-e1];generalize hN:(A++P++Q++R++Z).length=N at hn hlen;have hN2:N=A.length+P.length+Q.length+R.length+Z.length:=by rw[<-hN];simp;omega
 rw[hlen 0];have hloop:=qat (X:=XV) (T:=[29,35]) (L:=1) (live:=[0,1,2,3,10]) (b:=qu7) (n:=P.length) (γ:=Unit) (st:=fun(_:Unit) i=>⟨[(0,.tsl true 0 3 N),(1,.d (.int .i64 A.length)),(2,.d (.int .i64 (A.length+P.length+Q.length:Nat))),(3,.d (.int .i64 P.length)),(10,.d (.int .i64 i))],[some (kc (srS A P Q R Z i))]⟩) (step:=fun _ _=> .inl ())
  (F:=fun _=>(.exit 0,⟨[(0,.tsl true 0 3 N),(1,.d (.int .i64 A.length)),(2,.d (.int .i64 (A.length+P.length+Q.length:Nat))),(3,.d (.int .i64 P.length)),(10,.d (.int .i64 P.length)),(13,.d (.bool false))],[some (kc (srS A P Q R Z P.length))]⟩)) (R:=fun _=>(.ret,⟨[],[]⟩))
  (fun _=>⟨by simp,by simp[qu7,qzO]⟩)
  (fun _ i hi=>by
   have hw:=qao (n:=i) (by omega);have hs:=qIv (srS A P Q R Z i) A.length (A.length+P.length+Q.length) i P.length (by rw[hlen];exact hn) (by rw[hlen];omega) (by rw[hlen];omega) (by omega);rw[qEg A P Q R Z i h hi,hlen]at hs;have hi':(i:Int)<P.length:=by omega
   generalize hc2:kc (srS A P Q R Z (i+1))=c2 at hs;generalize kc (srS A P Q R Z i)=c1 at hs⊢
   exact⟨⟨[(0,.tsl true 0 3 N),(1,.d (.int .i64 A.length)),(2,.d (.int .i64 (A.length+P.length+Q.length:Nat))),(3,.d (.int .i64 P.length)),(10,.d (.int .i64 (i+1:Nat)))],[some c2]⟩,by
    simp[qu7,qzO,qGi,hi];simp only[Int.natCast_add]at hs;rw[hs];simp[hw],by simp[qag,qad,qaW,hc2]⟩)
  P.length () 0 ⟨[(0,.tsl true 0 3 N),(1,.d (.int .i64 A.length)),(2,.d (.int .i64 (A.length+P.length+Q.length:Nat))),(3,.d (.int .i64 P.length)),(10,.d (.int .i64 0))],[some (kc (srS A P Q R Z 0))]⟩ (by omega) (by simp[qag,qad,qaW])
 rw[qg7]at hloop;generalize kc (srS A P Q R Z P.length)=c2 at hloop⊢
 generalize kc (srS A P Q R Z 0)=c1 at hloop⊢
 generalize ((A.length+P.length+Q.length:Nat):Int)=K at hloop⊢
 simp[qKD,qGj,hf];rw[hloop];simp
end Go.Proofs.Ytfiakfiocdfpbaa.VS
namespace Go.Proofs.Ytfiakfiocdfpbaa.VS
theorem qfz(A P Q R Z:List T)(a b n N:Nat)(ha:a=A.length)(hb:b=A.length+P.length+Q.length)(hn':n=P.length)(hr:n=R.length)(hN:N=(A++P++Q++R++Z).length)(hn:N<=1099511627776)(f:AV)(hf:f.clr=f):
 qaf XV 175 [.tsl true 0 3 N,.d (.int .i64 a),.d (.int .i64 b),.d (.int .i64 n),f] [some (kc (A++P++Q++R++Z))]=some (.d (.tup []),[some (kc (A++R++Q++P++Z))]):=by
 subst ha;subst hb;subst hn';subst hN
 exact qpc A P Q R Z hr hn f hf
theorem qEv(G:List T)(m N:Nat)(hN:N<=1099511627776)(f:AV)(hf:f.clr=f)(hfs:f.safe 1=true):∀(k:Nat) (A X Y Z:List T),X.length+Y.length<=k->0<X.length->0<Y.length->A.length+X.length=m->(A++X++Y++Z).length=N->G=A++Y++X++Z->
 ∃(A2 X2 Y2 Z2:List T),X2.length=Y2.length/\A2.length+X2.length=m/\(A2++X2++Y2++Z2).length=N/\G=A2++Y2++X2++Z2/\
  qbj XV [] 1 [0,2,4,10,11] qrb ⟨[(0,.tsl true 0 3 N),(2,.d (.int .i64 m)),(4,f),(10,.d (.int .i64 X.length)),(11,.d (.int .i64 Y.length))],[some (kc (A++X++Y++Z))]⟩=some (.exit 0,⟨[(0,.tsl true 0 3 N),(2,.d (.int .i64 m)),(4,f),(10,.d (.int .i64 X2.length)),(11,.d (.int .i64 X2.length)),(20,.d (.bool false))],[some (kc (A2++X2++Y2++Z2))]⟩):=by
 intro k
 induction k with
 |zero=>intro A X Y Z h1 h2;omega
 |succ k ih=>
  intro A X Y Z hk hx hy hm hl hG;have hl2:A.length+X.length+Y.length+Z.length=N:=by rw[<-hl];simp;omega
  have head:∀(x y:Nat) (c:List AV),qag 1 [0,2,4,10,11] ⟨[(0,.tsl true 0 3 N),(2,.d (.int .i64 m)),(4,f),(10,.d (.int .i64 x)),(11,.d (.int .i64 y))],[some c]⟩=some ⟨[(0,.tsl true 0 3 N),(2,.d (.int .i64 m)),(4,f),(10,.d (.int .i64 x)),(11,.d (.int .i64 y))],[some c]⟩:=fun x y c=>by
   simp[qag,qad,qaW,hfs]
  rcases Nat.lt_trichotomy X.length Y.length with hlt|heq|hgt
  ·
   have hq:(Y.take (Y.length-X.length)).length=Y.length-X.length:=by simp
   have hr:(Y.drop (Y.length-X.length)).length=X.length:=by simp;omega
   generalize hQ:Y.take (Y.length-X.length)=Q at hq;generalize hR:Y.drop (Y.length-X.length)=R at hr;have hY:Y=Q++R:=by rw[<-hQ,<-hR,List.take_append_drop]
   have hs:=qfz A X Q R Z A.length (m+Y.length-X.length) X.length N rfl (by omega) rfl hr.symm (by simp;omega) hN f hf;obtain⟨A2,X2,Y2,Z2,r1,r2,r3,r4,r5⟩:=ih A R Q (X++Z) (by omega) (by omega) (by omega) (by omega) (by simp;omega) (by rw[hG,hY];simp);refine⟨A2,X2,Y2,Z2,r1,r2,r3,r4,?_⟩;rw[<-r5,hr,hq];have e1:A++X++Y++Z=A++X++Q++R++Z:=by rw[hY];simp
   have e2:A++R++Q++(X++Z)=A++R++Q++X++Z:=by simp
   rw[e1,e2];have w1:IntKind.i64.wrap ((m:Int)-X.length)=(A.length:Int):=by rw[wrap_i64 (by omega) (by omega)];omega
   have w2:IntKind.i64.wrap ((m:Int)+Y.length)=((m+Y.length:Nat):Int):=by rw[wrap_i64 (by omega) (by omega)];omega
   have w3:IntKind.i64.wrap (((m+Y.length:Nat):Int)-X.length)=((m+Y.length-X.length:Nat):Int):=by rw[wrap_i64 (by omega) (by omega)];omega
   have w4:IntKind.i64.wrap ((Y.length:Int)-X.length)=((Y.length-X.length:Nat):Int):=by rw[wrap_i64 (by omega) (by omega)];omega
   refine qa7 (head _ _ _) ?_;have n1:((X.length:Int) !=(Y.length:Int))=true:=by simp;omega
   have n2:¬((Y.length:Int)<X.length):=by omega
   generalize kc (A++X++Q++R++Z)=c1 at hs⊢
   generalize kc (A++R++Q++X++Z)=c2 at hs⊢
   generalize ((m+Y.length-X.length:Nat):Int)=gv1 at*
   generalize ((m+Y.length:Nat):Int)=gv2 at*
   generalize ((Y.length-X.length:Nat):Int)=gv3 at*
   generalize (X.length:Int)=vx at*
   generalize (Y.length:Int)=vy at*
   simp[qrb,qtI,qtH,qtG,qzT,qzS,qzR,qzQ,qzP,qtF,n1,n2,w1,w2,w3,w4,hs,hf]
  ·
   refine⟨A,X,Y,Z,heq,hm,hl,hG,?_⟩;rw[<-heq];refine qaL (head _ _ _) ?_ (by simp);simp[qrb,qtG]
  ·have hp:(X.take Y.length).length=Y.length:=by simp;omega
   have hq:(X.drop Y.length).length=X.length-Y.length:=by simp
   generalize hP:X.take Y.length=P at hp;generalize hQ:X.drop Y.length=Q at hq;have hX:X=P++Q:=by rw[<-hP,<-hQ,List.take_append_drop]
   have hs:=qfz A P Q Y Z A.length m Y.length N rfl (by omega) hp.symm rfl (by simp;omega) hN f hf;obtain⟨A2,X2,Y2,Z2,r1,r2,r3,r4,r5⟩:=ih (A++Y) Q P Z (by omega) (by omega) (by omega) (by simp;omega) (by simp;omega) (by rw[hG,hX];simp);refine⟨A2,X2,Y2,Z2,r1,r2,r3,r4,?_⟩;rw[<-r5,hp,hq];have e1:A++X++Y++Z=A++P++Q++Y++Z:=by rw[hX];simp
   rw[e1];have w1:IntKind.i64.wrap ((m:Int)-X.length)=(A.length:Int):=by rw[wrap_i64 (by omega) (by omega)];omega
   have w4:IntKind.i64.wrap ((X.length:Int)-Y.length)=((X.length-Y.length:Nat):Int):=by rw[wrap_i64 (by omega) (by omega)];omega
   refine qa7 (head _ _ _) ?_;have n1:((X.length:Int) !=(Y.length:Int))=true:=by simp;omega
   have n2:((Y.length:Int)<X.length):=by omega
   generalize kc (A++P++Q++Y++Z)=c1 at hs⊢
   generalize kc (A++Y++Q++P++Z)=c2 at hs⊢
   generalize ((X.length-Y.length:Nat):Int)=gv3 at*
   generalize (X.length:Int)=vx at*
   generalize (Y.length:Int)=vy at*
   simp[qrb,qtI,qtH,qtG,qzT,qzS,qzR,qzQ,qzP,qtF,n1,n2,w1,w4,hs,hf]
theorem qzj(A X Y Z:List T)(a m b N:Nat)(ha:a=A.length)(hm:m=A.length+X.length)(hb:b=A.length+X.length+Y.length)(hN:N=(A++X++Y++Z).length)(hn:N<=1099511627776)(hx:0<X.length)(hy:0<Y.length)(f:AV)(hf:f.clr=f)(hfs:f.safe 1=true):
 qaf XV 174 [.tsl true 0 3 N,.d (.int .i64 a),.d (.int .i64 m),.d (.int .i64 b),f] [some (kc (A++X++Y++Z))]=some (.d (.tup []),[some (kc (A++Y++X++Z))]):=by
 have hl:A.length+X.length+Y.length+Z.length=N:=by rw[hN];simp;omega
 obtain⟨A2,X2,Y2,Z2,r1,r2,r3,r4,r5⟩:=qEv (A++Y++X++Z) m N hn f hf hfs (X.length+Y.length) A X Y Z (Nat.le_refl _) hx hy hm.symm hN.symm rfl;have hl2:A2.length+X2.length+Y2.length+Z2.length=N:=by rw[<-r3];simp;omega
 have hs:=qfz A2 X2 [] Y2 Z2 A2.length m X2.length N rfl (by simp;omega) rfl r1 (by simp;omega) hn f hf;simp only[List.append_nil]at hs;rw[qap XV _ _ _ qKE rfl qx4 rfl,r4];have w1:IntKind.i64.wrap ((m:Int)-a)=(X.length:Int):=by rw[wrap_i64 (by omega) (by omega)];omega
 have w2:IntKind.i64.wrap ((b:Int)-m)=(Y.length:Int):=by rw[wrap_i64 (by omega) (by omega)];omega
 have w3:IntKind.i64.wrap ((m:Int)-X2.length)=(A2.length:Int):=by rw[wrap_i64 (by omega) (by omega)];omega
 generalize kc (A++X++Y++Z)=c1 at*
 generalize kc (A2++X2++Y2++Z2)=c2 at*
 generalize kc (A2++Y2++X2++Z2)=c3 at*
 simp[qKE,qtI,qtH,w1,w2,hf];rw[r5];simp[qtF,w3,hf,hs]
end Go.Proofs.Ytfiakfiocdfpbaa.VS
namespace Go.Proofs.Ytfiakfiocdfpbaa.VS
theorem qqt(l:List T)(i:Nat)(hi:i<l.length):((kc l).drop (i*3)).take 3=e3 (tAt l i):=by
 unfold kc;rw[qhC (qoP l) i (by simpa using hi)];simp[qaF hi]
theorem qiE(f v:Int)(ks:List T):DV.agg [.int .i64 f,.int .i64 v,.sl .sub (ks.map (T.enc .sub))]=(T.node f v ks).enc .sub:=(T.qbF .sub (.node f v ks)).symm
theorem qOK(l:List T)(a:Nat)(j:Nat)(hn:l.length<=1099511627776)(hl:j+1<l.length)(ha:a<j+1)(hb:∀t,t∈l->t.inner<=1099511627776)(x2 x8:AV):
 qau XV [46,50] (.region true 0 [0,1,2,3,8,9,34] qtM) ⟨[(0,.tsl true 0 3 l.length),(1,.d (.int .i64 a)),(2,x2),(3,.fn 6 []),(8,x8),(9,.d (.int .i64 ((j+1:Nat):Int)))],[some (kc l)]⟩=some (.normal,⟨[(0,.tsl true 0 3 l.length),(1,.d (.int .i64 a)),(2,x2),(3,.fn 6 []),(8,x8),(9,.d (.int .i64 ((j+1:Nat):Int))),(34,.d (.bool (decide (T.cmp (tAt l (j+1)) (tAt l j)<0))))],[some (kc l)]⟩):=by
 have hw:IntKind.i64.wrap (((j+1:Nat):Int)-1)=(j:Int):=by rw[show((j+1:Nat):Int)-1=(j:Int)by omega];exact wrap_i64 (by omega) (by omega)
 have hc:=qfl (some (kc l)) (tAt l (j+1)) (tAt l j) (hb _ (qaH hl)) (hb _ (qaH (by omega)));have f1:=qqt l j (by omega);have f2:=qqt l (j+1) hl;have l0:=qht l;generalize T.cmp (tAt l (j+1)) (tAt l j)=r at hc⊢
 generalize kc l=c0 at f1 f2 l0 hc⊢
 generalize hn':l.length=n at*
 have hj0:(0:Int)<=((j+1:Nat):Int)/\((j+1:Nat):Int)<n:=⟨by omega,by omega⟩;have hjn:((j+1:Nat):Int).toNat=j+1:=rfl;have hi0:(j:Int)<n:=by omega
 have le0:j*3+3<=n*3:=by omega
 have le1:(j+1)*3+3<=n*3:=by omega
 have hja:((a:Int)<((j+1:Nat):Int)):=by omega
 generalize ((j+1:Nat):Int)=J at hw hj0 hjn hja⊢
 obtain⟨fa,va,ka⟩:=tAt l (j+1);obtain⟨fb,vb,kb⟩:=tAt l j;simp only[qjr,qaj,T.qcj,T.qcV,T.qaQ]at f1 f2;simp[qHz,hw,hj0,hjn,hi0,hja,l0,f1,f2,le0,le1,hc,qac,qaa,qab,qai,qiE]
theorem quB(A Z:List T)(x:T)(i:Nat)(h:i=A.length):tAt (A++x::Z) i=x:=by subst h;exact qrL A Z x
theorem qsI(N a:Nat)(hn:N<=1099511627776)(x2 x8:Int)(x:T):∀(k:Nat) (A S T1:List T),S.length=k->A.length=a->(A++S++x::T1).length=N->(∀t,t∈A++S++x::T1->t.inner<=1099511627776)->
 ∃S1 S2:List T,S=S1++S2/\(∀s,s∈S2->T.cmp x s<0)/\(∀s,S1.getLast?=some s->¬T.cmp x s<0)/\
  ∀(s0:XS),s0.r=[(0,.tsl true 0 3 N),(1,.d (.int .i64 a)),(2,.d (.int .i64 x2)),(3,.fn 6 []),(8,.d (.int .i64 x8)),(9,.d (.int .i64 (a+S.length:Nat)))]->s0.B=[some (kc (A++S++x::T1))]->
  ∃w,qbj XV [46,50] 1 [0,1,2,3,8,9] qre s0=some (.exit 2,⟨[(0,.tsl true 0 3 N),(1,.d (.int .i64 a)),(2,.d (.int .i64 x2)),(3,.fn 6 []),(8,.d (.int .i64 x8)),(9,.d (.int .i64 (a+S1.length:Nat))),(34,w)],[some (kc (A++S1++x::(S2++T1)))]⟩):=by
 have head:∀(y:Int) (c:List AV) (s0:XS),s0.r=[(0,.tsl true 0 3 N),(1,.d (.int .i64 a)),(2,.d (.int .i64 x2)),(3,.fn 6 []),(8,.d (.int .i64 x8)),(9,.d (.int .i64 y))]->s0.B=[some c]->qag 1 [0,1,2,3,8,9] s0=some ⟨[(0,.tsl true 0 3 N),(1,.d (.int .i64 a)),(2,.d (.int .i64 x2)),(3,.fn 6 []),(8,.d (.int .i64 x8)),(9,.d (.int .i64 y))],[some c]⟩:=fun y c s0 h1 h2=>by
  obtain⟨r,B⟩:=s0;simp only at h1 h2;subst h1;subst h2
  simp[qag,qad,qaW,qc1,qbg]
 intro k
 induction k with
 |zero=>
  intro A S T1 hS hA hN hb;have:S=[]:=List.length_eq_zero_iff.1 hS;subst this;refine⟨[],[],rfl,by simp,by simp,fun s0 h1 h2=>⟨.d (.bool false),?_⟩⟩;refine qaL (head _ _ s0 h1 h2) ?_ (by simp);simp[qre,qpG,qmP,qz8,qHz,qHy,qz7,qz9]
 |succ k ih=>
  intro A S T1 hS hA hN hb;have hne:S≠[]:=by intro h;simp[h]at hS
  obtain⟨S',s,rfl⟩:∃S' s,S=S'++[s]:=⟨S.dropLast,S.getLast hne,(List.dropLast_concat_getLast hne).symm⟩;have hS':S'.length=k:=by simpa using hS
  have hl0:A++(S'++[s])++x::T1=(A++S')++s::([]++x::T1):=by simp
  have hl1:A++S'++x::(s::T1)=(A++S')++x::([]++s::T1):=by simp
  have hNl:A.length+S'.length+T1.length+2=N:=by rw[<-hN];simp;omega
  have hja:a+(S'++[s]).length=(a+S'.length)+1:=by simp;omega
  have t0:tAt (A++(S'++[s])++x::T1) (a+S'.length)=s:=by rw[hl0];exact quB _ _ _ _ (by simp[hA])
  have t1:tAt (A++(S'++[s])++x::T1) (a+S'.length+1)=x:=quB _ _ _ _ (by simp;omega);have hc:=qOK (A++(S'++[s])++x::T1) a (a+S'.length) (by rw[hN];exact hn) (by rw[hN];omega) (by omega) hb (.d (.int .i64 x2)) (.d (.int .i64 x8));rw[t0,t1,hN]at hc
  by_cases hq:T.cmp x s<0
  ·have hsw:=qIw (A++(S'++[s])++x::T1) (a+S'.length) (by rw[hN];exact hn) (by rw[hN];omega) (.d (.int .i64 a)) (.d (.int .i64 x2)) (.fn 6 []) (.d (.int .i64 x8)) (by simp) (by simp)
   have hsp:swp (A++(S'++[s])++x::T1) (a+S'.length) (a+S'.length+1)=A++S'++x::(s::T1):=by
    rw[hl0,hl1,show a+S'.length=(A++S').length by simp[hA]];exact qnB _ [] _ _ _ _ (by simp)
   rw[hsp,hN]at hsw;obtain⟨S1,S2,e1,e2,e3,e4⟩:=ih A S' (s::T1) hS' hA (by simp;omega) (fun t ht=>hb t (by
    simp only[List.mem_append,List.mem_cons]at ht;rcases ht with(h|h)|h|h|h<;>simp[h]))
   refine⟨S1,S2++[s],by rw[e1];simp,fun y hy=> ?_,e3,fun s0 h1 h2=> ?_⟩
   ·rcases List.mem_append.1 hy with h|h
    ·exact e2 y h
    ·simp at h;subst h;exact hq
   ·rw[hja]at h1
    have hw:=wrap_i64 (n:=((a+S'.length:Nat):Int)) (by omega) (by omega);obtain⟨w,hlo⟩:=e4 ⟨[(0,.tsl true 0 3 N),(1,.d (.int .i64 a)),(2,.d (.int .i64 x2)),(3,.fn 6 []),(8,.d (.int .i64 x8)),(9,.d (.int .i64 (a+S'.length:Nat)))],[some (kc (A++S'++x::(s::T1)))]⟩ rfl rfl;refine⟨w,?_⟩;have hap:S2++[s]++T1=S2++(s::T1):=by simp
    rw[hap,<-hlo];refine qa7 (head _ _ s0 h1 h2) ?_;have hw1:IntKind.i64.wrap (((a+S'.length+1:Nat):Int)-1)=((a+S'.length:Nat):Int):=by rw[show((a+S'.length+1:Nat):Int)-1=((a+S'.length:Nat):Int)by omega];exact hw
    simp only[hq,decide_true]at hc;generalize kc (A++S'++x::(s::T1))=c2 at hsw⊢
    generalize kc (A++(S'++[s])++x::T1)=c1 at hc hsw⊢
    generalize ((a+S'.length+1:Nat):Int)=J at*
    generalize ((a+S'.length:Nat):Int)=I at*
    simp only[qre,qd1,hc];simp;rw[hsw];simp[qz7,hw1]
  ·refine⟨S'++[s],[],by simp,by simp,fun y hy=> ?_,fun s0 h1 h2=>⟨.d (.bool false),?_⟩⟩
   ·simp at hy;subst hy;exact hq
   ·rw[hja]at h1⊢
    refine qaL (head _ _ s0 h1 h2) ?_ (by simp);simp only[hq,decide_false]at hc;simp only[List.nil_append];generalize kc (A++(S'++[s])++x::T1)=c1 at hc⊢
    generalize ((a+S'.length+1:Nat):Int)=J at*
    simp only[qre,qd1,hc];simp
end Go.Proofs.Ytfiakfiocdfpbaa.VS
namespace Go.Proofs.Ytfiakfiocdfpbaa.VS
theorem qvA{S1 S2:List T}{x:T}(h:Srt (S1++S2))(h2:∀s,s∈S2->T.cmp x s<0)(h1:∀s,S1.getLast?=some s->¬T.cmp x s<0):Srt (S1++x::S2):=by
 unfold Srt at*
 rw[List.pairwise_append]at h⊢
 obtain⟨p1,p2,p3⟩:=h;have hx:∀s,s∈S1->tle s x:=by
  intro s hs;have hne:S1≠[]:=fun he=>by rw[he]at hs;simp at hs
  have hl:=qcY (h1 (S1.getLast hne) (List.getLast?_eq_some_getLast hne))
  by_cases he:s=S1.getLast hne
  ·rw[he];exact hl
  ·have hd:s∈S1.dropLast:=by
    have:=List.dropLast_concat_getLast hne;rw[<-this]at hs;rcases List.mem_append.1 hs with h|h
    ·exact h
    ·simp at h;exact absurd h he
   have hp:(S1.dropLast++[S1.getLast hne]).Pairwise tle:=by rw[List.dropLast_concat_getLast];exact p1
   exact qg2 ((List.pairwise_append.1 hp).2.2 s hd _ (by simp)) hl
 refine⟨p1,List.pairwise_cons.2 ⟨fun s hs=>qeC (h2 s hs),p2⟩,fun s hs t ht=> ?_⟩;rcases List.mem_cons.1 ht with rfl|ht
 ·exact hx s hs
 ·exact p3 s hs t ht
theorem qqw(N a b:Nat)(hn:N<=1099511627776)(A Z:List T)(hA:A.length=a):∀(R S:List T),0<S.length->b=a+S.length+R.length->(A++S++R++Z).length=N->(∀t,t∈A++S++R++Z->t.inner<=1099511627776)->Srt S->
 ∃W:List T,W.Perm (S++R)/\Srt W/\
  ∀(s0:XS),s0.r=[(0,.tsl true 0 3 N),(1,.d (.int .i64 a)),(2,.d (.int .i64 b)),(3,.fn 6 []),(8,.d (.int .i64 (a+S.length:Nat)))]->s0.B=[some (kc (A++S++R++Z))]->
  qbj XV [46,50] 1 [0,1,2,3,8] qjA s0=some (.exit 0,⟨[(0,.tsl true 0 3 N),(1,.d (.int .i64 a)),(2,.d (.int .i64 b)),(3,.fn 6 []),(8,.d (.int .i64 b)),(14,.d (.bool false))],[some (kc (A++W++Z))]⟩):=by
 have head:∀(y:Int) (c:List AV) (s0:XS),s0.r=[(0,.tsl true 0 3 N),(1,.d (.int .i64 a)),(2,.d (.int .i64 b)),(3,.fn 6 []),(8,.d (.int .i64 y))]->s0.B=[some c]->qag 1 [0,1,2,3,8] s0=some ⟨[(0,.tsl true 0 3 N),(1,.d (.int .i64 a)),(2,.d (.int .i64 b)),(3,.fn 6 []),(8,.d (.int .i64 y))],[some c]⟩:=fun y c s0 h1 h2=>by
  obtain⟨r,B⟩:=s0;simp only at h1 h2;subst h1;subst h2
  simp[qag,qad,qaW,qc1,qbg]
 intro R
 induction R with
 |nil=>
  intro S hS hb hN hin hs;refine⟨S,by simp,hs,fun s0 h1 h2=> ?_⟩;have hb':b=a+S.length:=by simpa using hb
  rw[<-hb']at h1;rw[List.append_nil]at h2;refine qaL (head _ _ s0 h1 h2) ?_ (by simp);simp[qjA,qmP]
 |cons x R ih=>
  intro S hS hb hN hin hs;obtain⟨S1,S2,e1,e2,e3,e4⟩:=qsI N a hn b (a+S.length:Nat) x S.length A S (R++Z) rfl hA (by rw[<-hN];simp) (fun t ht=>hin t (by
   simp only[List.mem_append,List.mem_cons]at ht⊢
   rcases ht with(h|h)|h|h|h<;>simp[h]))
  have hW:Srt (S1++x::S2):=qvA (by rw[<-e1];exact hs) e2 e3;have hlen:(S1++x::S2).length=S.length+1:=by rw[e1];simp;omega
  have hperm:(S1++x::S2).Perm (S++[x]):=by
   rw[e1];exact(List.perm_middle).trans (by
    have:=List.perm_append_comm (l₁:=[x]) (l₂:=S1++S2);simpa using this)
  have hl0:(A++(S1++x::S2)++R++Z).length=N:=by rw[<-hN,e1];simp;omega
  obtain⟨W,w1,w2,w3⟩:=ih (S1++x::S2) (by rw[hlen];omega) (by rw[hlen,hb];simp;omega) hl0 (fun t ht=>hin t (by
   rw[e1];simp only[List.mem_append,List.mem_cons]at ht⊢
   rcases ht with((h|h|h|h)|h)|h<;>simp[h])) hW
  refine⟨W,w1.trans ((hperm.append_right R).trans (by simp)),w2,fun s0 h1 h2=> ?_⟩;have hNl:A.length+S.length+(R.length+1)+Z.length=N:=by rw[<-hN];simp;omega
  have hbl:((a+S.length:Nat):Int)<(b:Int):=by
   simp only[List.length_cons]at hb;omega
  obtain⟨w,hlo⟩:=e4 ⟨[(0,.tsl true 0 3 N),(1,.d (.int .i64 a)),(2,.d (.int .i64 b)),(3,.fn 6 []),(8,.d (.int .i64 (a+S.length:Nat))),(9,.d (.int .i64 (a+S.length:Nat)))],[some (kc (A++S++x::(R++Z)))]⟩ rfl rfl;have hc0:A++S++x::R++Z=A++S++x::(R++Z):=by simp
  rw[hc0]at h2;have hw:=qao (n:=a+S.length) (by omega);have hnext:=w3 ⟨[(0,.tsl true 0 3 N),(1,.d (.int .i64 a)),(2,.d (.int .i64 b)),(3,.fn 6 []),(8,.d (.int .i64 (a+(S1++x::S2).length:Nat)))],[some (kc (A++(S1++x::S2)++R++Z))]⟩ rfl rfl;rw[<-hnext];refine qa7 (head _ _ s0 h1 h2) ?_;have hc1:A++(S1++x::S2)++R++Z=A++S1++x::(S2++(R++Z)):=by simp
  rw[hc1,hlen,show a+(S.length+1)=a+S.length+1 by omega];generalize kc (A++S1++x::(S2++(R++Z)))=c2 at hlo⊢
  generalize kc (A++S++x::(R++Z))=c1 at hlo⊢
  generalize ((a+S.length+1:Nat):Int)=J at*
  generalize ((a+S.length:Nat):Int)=I at*
  simp[qjA,qmP,qz9,qz8,hbl];rw[hlo];simp[hw]
theorem qhv(A X Z:List T)(a b N:Nat)(ha:a=A.length)(hb:b=A.length+X.length)(hN:N=(A++X++Z).length)(hn:N<=1099511627776)(hin:∀t,t∈A++X++Z->t.inner<=1099511627776):
 ∃W:List T,W.Perm X/\Srt W/\qaf XV 172 [.tsl true 0 3 N,.d (.int .i64 a),.d (.int .i64 b),.fn 6 []] [some (kc (A++X++Z))]=some (.d (.tup []),[some (kc (A++W++Z))]):=by
 have hNl:A.length+X.length+Z.length=N:=by rw[hN];simp;omega
 have hw:=qao (n:=a) (by omega);cases X with
 |nil=>
  refine⟨[],List.Perm.refl _,List.Pairwise.nil,?_⟩;rw[qap XV _ _ _ qC3 rfl qkf rfl];have hb':b=a:=by simp at hb;omega
  subst hb';have hlo:qbj XV [46,50] 1 [0,1,2,3,8] qjA ⟨[(0,.tsl true 0 3 N),(1,.d (.int .i64 b)),(2,.d (.int .i64 b)),(3,.fn 6 []),(8,.d (.int .i64 (b+1:Nat)))],[some (kc (A++[]++Z))]⟩=some (.exit 0,⟨[(0,.tsl true 0 3 N),(1,.d (.int .i64 b)),(2,.d (.int .i64 b)),(3,.fn 6 []),(8,.d (.int .i64 (b+1:Nat))),(14,.d (.bool false))],[some (kc (A++[]++Z))]⟩):=by
   refine qaL (s0:=⟨[(0,.tsl true 0 3 N),(1,.d (.int .i64 b)),(2,.d (.int .i64 b)),(3,.fn 6 []),(8,.d (.int .i64 (b+1:Nat)))],[some (kc (A++[]++Z))]⟩) (by simp[qag,qad,qaW,qc1,qbg]) ?_ (by simp);have hnl:¬(((b+1:Nat):Int)<(b:Int)):=by omega
   generalize ((b+1:Nat):Int)=J at*
   simp[qjA,qmP,hnl]
  generalize kc (A++[]++Z)=c1 at hlo⊢
  generalize ((b+1:Nat):Int)=J at*
  simp[qC3,qpG,hw];rw[hlo];simp
 |cons x R=>
  obtain⟨W,w1,w2,w3⟩:=qqw N a b hn A Z ha.symm R [x] (by simp) (by rw[hb,ha];simp;omega) (by rw[hN];simp) (fun t ht=>hin t (by
   simp only[List.mem_append,List.mem_cons,List.not_mem_nil,or_false]at ht⊢
   rcases ht with((h|h)|h)|h<;>simp[h])) (List.pairwise_singleton _ _)
  refine⟨W,by simpa using w1,w2,?_⟩;rw[qap XV _ _ _ qC3 rfl qkf rfl];have hlo:=w3 ⟨[(0,.tsl true 0 3 N),(1,.d (.int .i64 a)),(2,.d (.int .i64 b)),(3,.fn 6 []),(8,.d (.int .i64 (a+1:Nat)))],[some (kc (A++[x]++R++Z))]⟩ rfl rfl;have hc:A++x::R++Z=A++[x]++R++Z:=by simp
  rw[hc];generalize kc (A++[x]++R++Z)=c1 at hlo⊢
  generalize kc (A++W++Z)=c2 at hlo⊢
  generalize ((a+1:Nat):Int)=J at*
  simp[qC3,qpG,hw];rw[hlo];simp
end Go.Proofs.Ytfiakfiocdfpbaa.VS
namespace Go.Proofs.Ytfiakfiocdfpbaa.VS
theorem qN6(x y z:AV):AV.clrs [x,y,z]=[x.clr,y.clr,z.clr]:=by simp only[AV.clrs]
theorem qEc(l:List T)(k:Nat)(hn:l.length<=1099511627776)(hl:k+1<l.length)(x10:Int):
 qau XV [70,74,122,126] (.region true 0 [0,10,13] qoa) ⟨[(0,.tsl true 0 3 l.length),(10,.d (.int .i64 x10)),(13,.d (.int .i64 k)),(58,.d (.bool true))],[some (kc l)]⟩=some (.normal,⟨[(0,.tsl true 0 3 l.length),(10,.d (.int .i64 x10)),(13,.d (.int .i64 k))],[some (kc (swp l (k+1) k))]⟩):=by
 have hw:=qao (n:=k) (by omega);obtain⟨c1,c2,c3,l1,l2,l3,f1,f2,f3,f4,f5,f6⟩:=qga l (k+1) k hl (by omega) (by omega);have l0:=qht l;generalize kc (swp l (k+1) k)=c4 at f6⊢
 generalize kc l=c0 at f1 f2 l0⊢
 generalize hn':l.length=n at*
 have hj0:(0:Int)<=((k+1:Nat):Int)/\((k+1:Nat):Int)<n:=⟨by omega,by omega⟩;have hjn:((k+1:Nat):Int).toNat=k+1:=rfl;have hi0:(k:Int)<n:=by omega
 have le0:k*3+3<=n*3:=by omega
 have le1:(k+1)*3+3<=n*3:=by omega
 generalize ((k+1:Nat):Int)=J at hw hj0 hjn⊢
 simp only[qjr,qoD,qaj]at f1 f2 f3 f4 f5 f6;simp[qKd,hw,hj0,hjn,hi0,l0,l1,l2,l3,f1,f2,f3,f4,f5,f6,le0,le1,qN6,qac,qaa,qab,qai]
theorem qEb(l:List T)(k:Nat)(hn:l.length<=1099511627776)(hl:k+1<l.length)(x14:Int):
 qau XV [70,74,122,126] (.region true 0 [0,14,17] qn6) ⟨[(0,.tsl true 0 3 l.length),(14,.d (.int .i64 x14)),(17,.d (.int .i64 ((k+1:Nat):Int))),(110,.d (.bool true))],[some (kc l)]⟩=some (.normal,⟨[(0,.tsl true 0 3 l.length),(14,.d (.int .i64 x14)),(17,.d (.int .i64 ((k+1:Nat):Int)))],[some (kc (swp l k (k+1)))]⟩):=by
 have hw:IntKind.i64.wrap (((k+1:Nat):Int)-1)=(k:Int):=by rw[show((k+1:Nat):Int)-1=(k:Int)by omega];exact wrap_i64 (by omega) (by omega)
 obtain⟨c1,c2,c3,l1,l2,l3,f1,f2,f3,f4,f5,f6⟩:=qga l k (k+1) (by omega) hl (by omega);have l0:=qht l;generalize kc (swp l k (k+1))=c4 at f6⊢
 generalize kc l=c0 at f1 f2 l0⊢
 generalize hn':l.length=n at*
 have hj0:(0:Int)<=((k+1:Nat):Int)/\((k+1:Nat):Int)<n:=⟨by omega,by omega⟩;have hjn:((k+1:Nat):Int).toNat=k+1:=rfl;have hi0:(k:Int)<n:=by omega
 have le0:k*3+3<=n*3:=by omega
 have le1:(k+1)*3+3<=n*3:=by omega
 generalize ((k+1:Nat):Int)=J at hw hj0 hjn⊢
 simp only[qjr,qoD,qaj]at f1 f2 f3 f4 f5 f6;simp[qKc,hw,hj0,hjn,hi0,l0,l1,l2,l3,f1,f2,f3,f4,f5,f6,le0,le1,qN6,qac,qaa,qab,qai]
theorem qFz(l:List T)(a h:Nat)(hn:l.length<=1099511627776)(ha:a<l.length)(hh:h<l.length)(hb:∀t,t∈l->t.inner<=1099511627776)(x10 x11:Int):
 qau XV [70,74,122,126] (.region true 0 [0,1,4,10,11,12,50] qtJ) ⟨[(0,.tsl true 0 3 l.length),(1,.d (.int .i64 a)),(4,.fn 6 []),(10,.d (.int .i64 x10)),(11,.d (.int .i64 x11)),(12,.d (.int .i64 h))],[some (kc l)]⟩=some (.normal,⟨[(0,.tsl true 0 3 l.length),(1,.d (.int .i64 a)),(4,.fn 6 []),(10,.d (.int .i64 x10)),(11,.d (.int .i64 x11)),(12,.d (.int .i64 h)),(50,.d (.bool (decide (T.cmp (tAt l h) (tAt l a)<0))))],[some (kc l)]⟩):=by
 have hc:=qfl (some (kc l)) (tAt l h) (tAt l a) (hb _ (qaH hh)) (hb _ (qaH ha));have f1:=qqt l h hh;have f2:=qqt l a ha;have l0:=qht l;generalize T.cmp (tAt l h) (tAt l a)=r at hc⊢
 generalize kc l=c0 at f1 f2 l0 hc⊢
 generalize hn':l.length=n at*
 have hi0:(h:Int)<n:=by omega
 have hj0:(a:Int)<n:=by omega
 have le0:h*3+3<=n*3:=by omega
 have le1:a*3+3<=n*3:=by omega
 obtain⟨fa,va,ka⟩:=tAt l h;obtain⟨fb,vb,kb⟩:=tAt l a;simp only[qjr,qaj,T.qcj,T.qcV,T.qaQ]at f1 f2;simp[qOC,hi0,hj0,ha,hh,l0,f1,f2,le0,le1,hc,qac,qaa,qab,qai,qiE]
theorem qCk(l:List T)(m h:Nat)(hn:l.length<=1099511627776)(hm:m<l.length)(hh:h<l.length)(hb:∀t,t∈l->t.inner<=1099511627776)(x14 x15:Int):
 qau XV [70,74,122,126] (.region true 0 [0,2,4,14,15,16,103] qn7) ⟨[(0,.tsl true 0 3 l.length),(2,.d (.int .i64 m)),(4,.fn 6 []),(14,.d (.int .i64 x14)),(15,.d (.int .i64 x15)),(16,.d (.int .i64 h))],[some (kc l)]⟩=some (.normal,⟨[(0,.tsl true 0 3 l.length),(2,.d (.int .i64 m)),(4,.fn 6 []),(14,.d (.int .i64 x14)),(15,.d (.int .i64 x15)),(16,.d (.int .i64 h)),(103,.d (.bool (!decide (T.cmp (tAt l m) (tAt l h)<0))))],[some (kc l)]⟩):=by
 have hc:=qfl (some (kc l)) (tAt l m) (tAt l h) (hb _ (qaH hm)) (hb _ (qaH hh));have f1:=qqt l h hh;have f2:=qqt l m hm;have l0:=qht l;generalize T.cmp (tAt l m) (tAt l h)=r at hc⊢
 generalize kc l=c0 at f1 f2 l0 hc⊢
 generalize hn':l.length=n at*
 have hi0:(h:Int)<n:=by omega
 have hj0:(m:Int)<n:=by omega
 have le0:h*3+3<=n*3:=by omega
 have le1:m*3+3<=n*3:=by omega
 obtain⟨fa,va,ka⟩:=tAt l h;obtain⟨fb,vb,kb⟩:=tAt l m;simp only[qjr,qaj,T.qcj,T.qcV,T.qaQ]at f1 f2
 by_cases hr:r<0
 ·simp[qB8,hi0,hj0,hm,hh,l0,f1,f2,le0,le1,hc,hr,qac,qaa,qab,qai,qiE]
 ·simp[qB8,hi0,hj0,hm,hh,l0,f1,f2,le0,le1,hc,hr,qac,qaa,qab,qai,qiE]
theorem qCj(l:List T)(p c:Nat)(hn:l.length<=1099511627776)(hcp:c<=p)(hp:p-c<l.length)(hh:c<l.length)(hpp:p<=4398046511104)(hb:∀t,t∈l->t.inner<=1099511627776)(x1 x2 x3 x18 x19 x20 x21:Int):
 qau XV [70,74,122,126] (.region true 0 [0,1,2,3,4,18,19,20,21,22,23,171] qn4) ⟨[(0,.tsl true 0 3 l.length),(1,.d (.int .i64 x1)),(2,.d (.int .i64 x2)),(3,.d (.int .i64 x3)),(4,.fn 6 []),(18,.d (.int .i64 x18)),(19,.d (.int .i64 x19)),(20,.d (.int .i64 x20)),(21,.d (.int .i64 x21)),(22,.d (.int .i64 p)),(23,.d (.int .i64 c))],[some (kc l)]⟩=some (.normal,⟨[(0,.tsl true 0 3 l.length),(1,.d (.int .i64 x1)),(2,.d (.int .i64 x2)),(3,.d (.int .i64 x3)),(4,.fn 6 []),(18,.d (.int .i64 x18)),(19,.d (.int .i64 x19)),(20,.d (.int .i64 x20)),(21,.d (.int .i64 x21)),(22,.d (.int .i64 p)),(23,.d (.int .i64 c)),(171,.d (.bool (!decide (T.cmp (tAt l (p-c)) (tAt l c)<0))))],[some (kc l)]⟩):=by
 have hw:IntKind.i64.wrap ((p:Int)-c)=((p-c:Nat):Int):=by rw[wrap_i64 (by omega) (by omega)];omega
 have hc:=qfl (some (kc l)) (tAt l (p-c)) (tAt l c) (hb _ (qaH hp)) (hb _ (qaH hh));have f1:=qqt l c hh;have f2:=qqt l (p-c) hp;have l0:=qht l;generalize T.cmp (tAt l (p-c)) (tAt l c)=r at hc⊢
 generalize kc l=c0 at f1 f2 l0 hc⊢
 generalize hn':l.length=n at*
 generalize hq:p-c=q at*
 have hi0:(c:Int)<n:=by omega
 have hj0:(q:Int)<n:=by omega
 have le0:c*3+3<=n*3:=by omega
 have le1:q*3+3<=n*3:=by omega
 obtain⟨fa,va,ka⟩:=tAt l c;obtain⟨fb,vb,kb⟩:=tAt l q;simp only[qjr,qaj,T.qcj,T.qcV,T.qaQ]at f1 f2
 by_cases hr:r<0
 ·simp[qB7,hw,hi0,hj0,hp,hh,l0,f1,f2,le0,le1,hc,hr,qac,qaa,qab,qai,qiE]
 ·simp[qB7,hw,hi0,hj0,hp,hh,l0,f1,f2,le0,le1,hc,hr,qac,qaa,qab,qai,qiE]
end Go.Proofs.Ytfiakfiocdfpbaa.VS
namespace Go.Proofs.Ytfiakfiocdfpbaa.VS
def bs(P:Nat->Bool):Nat->Nat->Nat->Nat
 |0,i,_=>i
 |k+1,i,j=>if i<j then(if P ((i+j)/2)=true then bs P k ((i+j)/2+1) j else bs P k i ((i+j)/2))else i
theorem ql1(P:Nat->Bool):∀(k i j:Nat),i<=j->j-i<=k->i<=bs P k i j/\bs P k i j<=j/\(bs P k i j=i\/P (bs P k i j-1)=true)/\(bs P k i j=j\/P (bs P k i j)=false)
 |0,i,j,h,hk=>by
  have e:bs P 0 i j=i:=rfl;rw[e];exact⟨Nat.le_refl _,h,.inl rfl,.inl (by omega)⟩
 |k+1,i,j,h,hk=>by
  simp only[bs]
  by_cases hij:i<j
  ·rw[if_pos hij]
   by_cases hP:P ((i+j)/2)=true
   ·rw[if_pos hP]
    obtain⟨h1,h2,h3,h4⟩:=ql1 P k ((i+j)/2+1) j (by omega) (by omega);refine⟨by omega,h2,?_,h4⟩;rcases h3 with h3|h3
    ·right;rw[h3];simpa using hP
    ·exact .inr h3
   ·rw[if_neg hP]
    obtain⟨h1,h2,h3,h4⟩:=ql1 P k i ((i+j)/2) (by omega) (by omega);refine⟨h1,by omega,h3,?_⟩;rcases h4 with h4|h4
    ·right;rw[h4];simpa using hP
    ·exact .inr h4
  ·rw[if_neg hij]
   exact⟨Nat.le_refl _,h,.inl rfl,.inl (by omega)⟩
theorem wrap_u64{n:Int}(h0:0<=n)(h1:n<=18446744073709551615):IntKind.u64.wrap n=n:=by
 simp[IntKind.wrap,IntKind.bits,IntKind.signed];omega
theorem qcU(x:Int):qdw .shr .u64 x 1=some (.int .u64 (x.fdiv 2)):=rfl
theorem qFe(n:Nat):(n:Int).fdiv 2=((n/2:Nat):Int):=by
 rw[Int.fdiv_eq_ediv_of_nonneg _ (by omega)];omega
theorem qhn(i j:Nat)(h:i+j<=4398046511104):IntKind.i64.wrap ((i:Int)+j)=((i+j:Nat):Int)/\IntKind.u64.wrap ((i+j:Nat):Int)=((i+j:Nat):Int)/\((i+j:Nat):Int).fdiv 2=(((i+j)/2:Nat):Int)/\IntKind.i64.wrap (((i+j)/2:Nat):Int)=(((i+j)/2:Nat):Int):=
 ⟨by rw[wrap_i64 (by omega) (by omega)];omega,wrap_u64 (by omega) (by omega),qFe _,wrap_i64 (by omega) (by omega)⟩
theorem qFK(l:List T)(a:Nat)(hn:l.length<=1099511627776)(ha:a<l.length)(hb:∀t,t∈l->t.inner<=1099511627776):∀(k i j:Nat),i<=j->j-i<=k->j<=l.length->
 qbj XV [70,74,122,126] 1 [0,1,4,10,11] qni ⟨[(0,.tsl true 0 3 l.length),(1,.d (.int .i64 a)),(4,.fn 6 []),(10,.d (.int .i64 i)),(11,.d (.int .i64 j))],[some (kc l)]⟩=
  some (.exit 0,⟨[(0,.tsl true 0 3 l.length),(1,.d (.int .i64 a)),(4,.fn 6 []),(10,.d (.int .i64 (bs (fun h=>decide (T.cmp (tAt l h) (tAt l a)<0)) k i j:Nat))),(11,.d (.int .i64 (bs (fun h=>decide (T.cmp (tAt l h) (tAt l a)<0)) k i j:Nat))),(33,.d (.bool false))],[some (kc l)]⟩):=by
 have head:∀(i j:Nat),qag 1 [0,1,4,10,11] ⟨[(0,.tsl true 0 3 l.length),(1,.d (.int .i64 a)),(4,.fn 6 []),(10,.d (.int .i64 i)),(11,.d (.int .i64 j))],[some (kc l)]⟩=some ⟨[(0,.tsl true 0 3 l.length),(1,.d (.int .i64 a)),(4,.fn 6 []),(10,.d (.int .i64 i)),(11,.d (.int .i64 j))],[some (kc l)]⟩:=fun i j=>by
  simp[qag,qad,qaW,qc1,qbg]
 have stop:∀i:Nat,qbj XV [70,74,122,126] 1 [0,1,4,10,11] qni ⟨[(0,.tsl true 0 3 l.length),(1,.d (.int .i64 a)),(4,.fn 6 []),(10,.d (.int .i64 i)),(11,.d (.int .i64 i))],[some (kc l)]⟩=
  some (.exit 0,⟨[(0,.tsl true 0 3 l.length),(1,.d (.int .i64 a)),(4,.fn 6 []),(10,.d (.int .i64 i)),(11,.d (.int .i64 i)),(33,.d (.bool false))],[some (kc l)]⟩):=fun i=>by
  refine qaL (head _ _) ?_ (by simp);simp[qni,qtK]
 intro k
 induction k with
 |zero=>
  intro i j h hk hj;have:i=j:=by omega
  subst this;exact stop i
 |succ k ih=>
  intro i j h hk hj;simp only[bs]
  by_cases hij:i<j
  ·rw[if_pos hij]
   obtain⟨m1,m2,m3,m4⟩:=qhn i j (by omega);have hc:=qFz l a ((i+j)/2) hn ha (by omega) hb i j;have hw:=qao (n:=(i+j)/2) (by omega);have hij':(i:Int)<j:=by omega
   by_cases hP:T.cmp (tAt l ((i+j)/2)) (tAt l a)<0
   ·rw[if_pos (by simpa using hP)]
    rw[<-ih ((i+j)/2+1) j (by omega) (by omega) hj];refine qa7 (head _ _) ?_;simp only[hP,decide_true]at hc;generalize kc l=c0 at hc⊢
    generalize (((i+j)/2+1:Nat):Int)=gv1 at*
    generalize (((i+j)/2:Nat):Int)=gv2 at*
    generalize ((i+j:Nat):Int)=gv3 at*
    generalize (i:Int)=gv4 at*
    generalize (j:Int)=gv5 at*
    simp[qni,qtK,qzX,qzW,qzV,hij',m1,m2,m3,m4,qcI,qcU];rw[hc];simp[hw]
   ·rw[if_neg (by simpa using hP)]
    rw[<-ih i ((i+j)/2) (by omega) (by omega) (by omega)];refine qa7 (head _ _) ?_;simp only[hP,decide_false]at hc;generalize kc l=c0 at hc⊢
    generalize (((i+j)/2+1:Nat):Int)=gv1 at*
    generalize (((i+j)/2:Nat):Int)=gv2 at*
    generalize ((i+j:Nat):Int)=gv3 at*
    generalize (i:Int)=gv4 at*
    generalize (j:Int)=gv5 at*
    simp[qni,qtK,qzX,qzW,qzV,hij',m1,m2,m3,m4,qcI,qcU];rw[hc];simp
  ·rw[if_neg hij]
   have:i=j:=by omega
   subst this;exact stop i
theorem qFJ(l:List T)(a:Nat)(hn:l.length<=1099511627776)(ha:a<l.length)(hb:∀t,t∈l->t.inner<=1099511627776):∀(k i j:Nat),i<=j->j-i<=k->j<=l.length->
 qbj XV [70,74,122,126] 1 [0,2,4,14,15] qnh ⟨[(0,.tsl true 0 3 l.length),(2,.d (.int .i64 a)),(4,.fn 6 []),(14,.d (.int .i64 i)),(15,.d (.int .i64 j))],[some (kc l)]⟩=
  some (.exit 4,⟨[(0,.tsl true 0 3 l.length),(2,.d (.int .i64 a)),(4,.fn 6 []),(14,.d (.int .i64 (bs (fun h=> !decide (T.cmp (tAt l a) (tAt l h)<0)) k i j:Nat))),(15,.d (.int .i64 (bs (fun h=> !decide (T.cmp (tAt l a) (tAt l h)<0)) k i j:Nat))),(85,.d (.bool false))],[some (kc l)]⟩):=by
 have head:∀(i j:Nat),qag 1 [0,2,4,14,15] ⟨[(0,.tsl true 0 3 l.length),(2,.d (.int .i64 a)),(4,.fn 6 []),(14,.d (.int .i64 i)),(15,.d (.int .i64 j))],[some (kc l)]⟩=some ⟨[(0,.tsl true 0 3 l.length),(2,.d (.int .i64 a)),(4,.fn 6 []),(14,.d (.int .i64 i)),(15,.d (.int .i64 j))],[some (kc l)]⟩:=fun i j=>by
  simp[qag,qad,qaW,qc1,qbg]
 have stop:∀i:Nat,qbj XV [70,74,122,126] 1 [0,2,4,14,15] qnh ⟨[(0,.tsl true 0 3 l.length),(2,.d (.int .i64 a)),(4,.fn 6 []),(14,.d (.int .i64 i)),(15,.d (.int .i64 i))],[some (kc l)]⟩=
  some (.exit 4,⟨[(0,.tsl true 0 3 l.length),(2,.d (.int .i64 a)),(4,.fn 6 []),(14,.d (.int .i64 i)),(15,.d (.int .i64 i)),(85,.d (.bool false))],[some (kc l)]⟩):=fun i=>by
  refine qaL (head _ _) ?_ (by simp);simp[qnh,qn8]
 intro k
 induction k with
 |zero=>
  intro i j h hk hj;have:i=j:=by omega
  subst this;exact stop i
 |succ k ih=>
  intro i j h hk hj;simp only[bs]
  by_cases hij:i<j
  ·rw[if_pos hij]
   obtain⟨m1,m2,m3,m4⟩:=qhn i j (by omega);have hc:=qCk l a ((i+j)/2) hn ha (by omega) hb i j;have hw:=qao (n:=(i+j)/2) (by omega);have hij':(i:Int)<j:=by omega
   by_cases hP:¬T.cmp (tAt l a) (tAt l ((i+j)/2))<0
   ·rw[if_pos (by simpa using hP)]
    rw[<-ih ((i+j)/2+1) j (by omega) (by omega) hj];refine qa7 (head _ _) ?_;simp only[hP,decide_false,Bool.not_false]at hc;generalize kc l=c0 at hc⊢
    generalize (((i+j)/2+1:Nat):Int)=gv1 at*
    generalize (((i+j)/2:Nat):Int)=gv2 at*
    generalize ((i+j:Nat):Int)=gv3 at*
    generalize (i:Int)=gv4 at*
    generalize (j:Int)=gv5 at*
    simp[qnh,qn8,qsp,qso,qsn,hij',m1,m2,m3,m4,qcI,qcU];rw[hc];simp[hw]
   ·rw[if_neg (by simpa using hP)]
    rw[<-ih i ((i+j)/2) (by omega) (by omega) (by omega)];refine qa7 (head _ _) ?_;simp only[Classical.not_not.1 hP,decide_true,Bool.not_true]at hc;generalize kc l=c0 at hc⊢
    generalize (((i+j)/2+1:Nat):Int)=gv1 at*
    generalize (((i+j)/2:Nat):Int)=gv2 at*
    generalize ((i+j:Nat):Int)=gv3 at*
    generalize (i:Int)=gv4 at*
    generalize (j:Int)=gv5 at*
    simp[qnh,qn8,qsp,qso,qsn,hij',m1,m2,m3,m4,qcI,qcU];rw[hc];simp
  ·rw[if_neg hij]
   have:i=j:=by omega
   subst this;exact stop i
theorem qFI(l:List T)(p:Nat)(x1 x2 x3 x18 x19:Int)(hn:l.length<=1099511627776)(hpp:p<=4398046511104)(hb:∀t,t∈l->t.inner<=1099511627776):∀(k i j:Nat),i<=j->j-i<=k->j<=l.length->(∀c,i<=c->c<j->c<=p/\p-c<l.length)->
 qbj XV [70,74,122,126] 1 [0,1,2,3,4,18,19,20,21,22] qhV ⟨[(0,.tsl true 0 3 l.length),(1,.d (.int .i64 x1)),(2,.d (.int .i64 x2)),(3,.d (.int .i64 x3)),(4,.fn 6 []),(18,.d (.int .i64 x18)),(19,.d (.int .i64 x19)),(20,.d (.int .i64 i)),(21,.d (.int .i64 j)),(22,.d (.int .i64 p))],[some (kc l)]⟩=
  some (.exit 8,⟨[(0,.tsl true 0 3 l.length),(1,.d (.int .i64 x1)),(2,.d (.int .i64 x2)),(3,.d (.int .i64 x3)),(4,.fn 6 []),(18,.d (.int .i64 x18)),(19,.d (.int .i64 x19)),(20,.d (.int .i64 (bs (fun c=> !decide (T.cmp (tAt l (p-c)) (tAt l c)<0)) k i j:Nat))),(21,.d (.int .i64 (bs (fun c=> !decide (T.cmp (tAt l (p-c)) (tAt l c)<0)) k i j:Nat))),(22,.d (.int .i64 p)),(151,.d (.bool false))],[some (kc l)]⟩):=by
 have head:∀(i j:Nat),qag 1 [0,1,2,3,4,18,19,20,21,22] ⟨[(0,.tsl true 0 3 l.length),(1,.d (.int .i64 x1)),(2,.d (.int .i64 x2)),(3,.d (.int .i64 x3)),(4,.fn 6 []),(18,.d (.int .i64 x18)),(19,.d (.int .i64 x19)),(20,.d (.int .i64 i)),(21,.d (.int .i64 j)),(22,.d (.int .i64 p))],[some (kc l)]⟩=some ⟨[(0,.tsl true 0 3 l.length),(1,.d (.int .i64 x1)),(2,.d (.int .i64 x2)),(3,.d (.int .i64 x3)),(4,.fn 6 []),(18,.d (.int .i64 x18)),(19,.d (.int .i64 x19)),(20,.d (.int .i64 i)),(21,.d (.int .i64 j)),(22,.d (.int .i64 p))],[some (kc l)]⟩:=fun i j=>by
  simp[qag,qad,qaW,qc1,qbg]
 have stop:∀i:Nat,qbj XV [70,74,122,126] 1 [0,1,2,3,4,18,19,20,21,22] qhV ⟨[(0,.tsl true 0 3 l.length),(1,.d (.int .i64 x1)),(2,.d (.int .i64 x2)),(3,.d (.int .i64 x3)),(4,.fn 6 []),(18,.d (.int .i64 x18)),(19,.d (.int .i64 x19)),(20,.d (.int .i64 i)),(21,.d (.int .i64 i)),(22,.d (.int .i64 p))],[some (kc l)]⟩=
  some (.exit 8,⟨[(0,.tsl true 0 3 l.length),(1,.d (.int .i64 x1)),(2,.d (.int .i64 x2)),(3,.d (.int .i64 x3)),(4,.fn 6 []),(18,.d (.int .i64 x18)),(19,.d (.int .i64 x19)),(20,.d (.int .i64 i)),(21,.d (.int .i64 i)),(22,.d (.int .i64 p)),(151,.d (.bool false))],[some (kc l)]⟩):=fun i=>by
  refine qaL (head _ _) ?_ (by simp);simp[qhV,qn5]
 intro k
 induction k with
 |zero=>
  intro i j h hk hj hR;have:i=j:=by omega
  subst this;exact stop i
 |succ k ih=>
  intro i j h hk hj hR;simp only[bs]
  by_cases hij:i<j
  ·rw[if_pos hij]
   obtain⟨m1,m2,m3,m4⟩:=qhn i j (by omega);have hc:=qCj l p ((i+j)/2) hn (hR _ (by omega) (by omega)).1 (hR _ (by omega) (by omega)).2 (by omega) hpp hb x1 x2 x3 x18 x19 i j;have hw:=qao (n:=(i+j)/2) (by omega);have hij':(i:Int)<j:=by omega
   by_cases hP:¬T.cmp (tAt l (p-(i+j)/2)) (tAt l ((i+j)/2))<0
   ·rw[if_pos (by simpa using hP)]
    rw[<-ih ((i+j)/2+1) j (by omega) (by omega) hj (fun c h1 h2=>hR c (by omega) h2)];refine qa7 (head _ _) ?_;simp only[hP,decide_false,Bool.not_false]at hc;generalize kc l=c0 at hc⊢
    generalize (((i+j)/2+1:Nat):Int)=gv1 at*
    generalize (((i+j)/2:Nat):Int)=gv2 at*
    generalize ((i+j:Nat):Int)=gv3 at*
    generalize (i:Int)=gv4 at*
    generalize (j:Int)=gv5 at*
    simp[qhV,qn5,qsg,qsf,qse,hij',m1,m2,m3,m4,qcI,qcU];rw[hc];simp[hw]
   ·rw[if_neg (by simpa using hP)]
    rw[<-ih i ((i+j)/2) (by omega) (by omega) (by omega) (fun c h1 h2=>hR c h1 (by omega))];refine qa7 (head _ _) ?_;simp only[Classical.not_not.1 hP,decide_true,Bool.not_true]at hc;generalize kc l=c0 at hc⊢
    generalize (((i+j)/2+1:Nat):Int)=gv1 at*
    generalize (((i+j)/2:Nat):Int)=gv2 at*
    generalize ((i+j:Nat):Int)=gv3 at*
    generalize (i:Int)=gv4 at*
    generalize (j:Int)=gv5 at*
    simp[qhV,qn5,qsg,qsf,qse,hij',m1,m2,m3,m4,qcI,qcU];rw[hc];simp
  ·rw[if_neg hij]
   have:i=j:=by omega
   subst this;exact stop i
end Go.Proofs.Ytfiakfiocdfpbaa.VS
namespace Go.Proofs.Ytfiakfiocdfpbaa.VS
theorem right_step(A Y Z:List T)(x:T)(s:Nat)(hs:s<Y.length):swp (A++Y.take s++x::(Y.drop s++Z)) (A.length+s+1) (A.length+s)=A++Y.take (s+1)++x::(Y.drop (s+1)++Z):=by
 have hl:(A++Y.take s).length=A.length+s:=by simp;omega
 rw[<-List.take_append_getElem hs,List.drop_eq_getElem_cons hs,qtt _ _ _ (by omega),<-hl];have:=qnB (A++Y.take s) [] (Y.drop (s+1)++Z) x Y[s] ((A++Y.take s).length+1) rfl;simp only[List.nil_append]at this;rw[show Y[s]::Y.drop (s+1)++Z=Y[s]::(Y.drop (s+1)++Z)from rfl,this];simp only[List.append_assoc,List.cons_append,List.nil_append]
theorem qvJ(A Y Z:List T)(x:T)(N a:Nat)(hA:A.length=a)(hN:(A++x::(Y++Z)).length=N)(hn:N<=1099511627776):
 qbj XV [70,74,122,126] 1 [0,10,13] qrd ⟨[(0,.tsl true 0 3 N),(10,.d (.int .i64 (a+1+Y.length:Nat))),(13,.d (.int .i64 a))],[some (kc (A++x::(Y++Z)))]⟩=
  some (.exit 2,⟨[(0,.tsl true 0 3 N),(10,.d (.int .i64 (a+1+Y.length:Nat))),(13,.d (.int .i64 (a+Y.length:Nat))),(58,.d (.bool false))],[some (kc (A++Y++x::Z))]⟩):=by
 have hNl:A.length+1+Y.length+Z.length=N:=by rw[<-hN];simp;omega
 have hlen:∀s,(A++Y.take s++x::(Y.drop s++Z)).length=N:=fun s=>by simp;omega
 have hw1:IntKind.i64.wrap (((a+1+Y.length:Nat):Int)-1)=((a+Y.length:Nat):Int):=by rw[wrap_i64 (by omega) (by omega)];omega
 have h:=qat (X:=XV) (T:=[70,74,122,126]) (L:=1) (live:=[0,10,13]) (b:=qrd) (n:=Y.length) (γ:=Unit) (st:=fun(_:Unit) s=>⟨[(0,.tsl true 0 3 N),(10,.d (.int .i64 (a+1+Y.length:Nat))),(13,.d (.int .i64 (a+s:Nat)))],[some (kc (A++Y.take s++x::(Y.drop s++Z)))]⟩) (step:=fun _ _=> .inl ())
  (F:=fun _=>(.exit 2,⟨[(0,.tsl true 0 3 N),(10,.d (.int .i64 (a+1+Y.length:Nat))),(13,.d (.int .i64 (a+Y.length:Nat))),(58,.d (.bool false))],[some (kc (A++Y.take Y.length++x::(Y.drop Y.length++Z)))]⟩)) (R:=fun _=>(.ret,⟨[],[]⟩))
  (fun _=>⟨by simp,by
   generalize ((a+1+Y.length:Nat):Int)=gv1 at*
   generalize ((a+Y.length:Nat):Int)=gv2 at*
   simp[qrd,qzU,hw1]⟩)
  (fun _ s hs=>by
   have hsw:=qEc (A++Y.take s++x::(Y.drop s++Z)) (a+s) (by rw[hlen];exact hn) (by rw[hlen];omega) (a+1+Y.length:Nat);rw[<-hA,right_step A Y Z x s hs,hA,hlen]at hsw;have hw:=qao (n:=a+s) (by omega);have hlt:((a+s:Nat):Int)<((a+Y.length:Nat):Int):=by omega
   generalize hc2:kc (A++Y.take (s+1)++x::(Y.drop (s+1)++Z))=c2 at hsw;generalize kc (A++Y.take s++x::(Y.drop s++Z))=c1 at hsw⊢
   exact⟨⟨[(0,.tsl true 0 3 N),(10,.d (.int .i64 (a+1+Y.length:Nat))),(13,.d (.int .i64 (a+s+1:Nat)))],[some c2]⟩,by
    generalize ((a+s+1:Nat):Int)=gv3 at*
    generalize ((a+s:Nat):Int)=gv4 at*
    generalize ((a+1+Y.length:Nat):Int)=gv1 at*
    generalize ((a+Y.length:Nat):Int)=gv2 at*
    simp[qrd,qzU,qz6,hw1,hlt];rw[hsw];simp[hw],by rw[<-hc2];simp[qag,qad,qaW];omega⟩)
  Y.length () 0 ⟨[(0,.tsl true 0 3 N),(10,.d (.int .i64 (a+1+Y.length:Nat))),(13,.d (.int .i64 a))],[some (kc (A++x::(Y++Z)))]⟩ (by omega) (by simp[qag,qad,qaW])
 rw[qg7,List.take_length,List.drop_length,List.nil_append]at h;exact h
theorem left_step(A X Z:List T)(y:T)(n:Nat)(hn:n<X.length):swp (A++X.take (n+1)++y::(X.drop (n+1)++Z)) (A.length+n) (A.length+n+1)=A++X.take n++y::(X.drop n++Z):=by
 have hl:(A++X.take n).length=A.length+n:=by simp;omega
 rw[<-List.take_append_getElem hn,List.drop_eq_getElem_cons hn,<-hl];have:=qnB (A++X.take n) [] (X.drop (n+1)++Z) X[n] y ((A++X.take n).length+1) rfl;simp only[List.nil_append]at this;rw[show A++(X.take n++[X[n]])++y::(X.drop (n+1)++Z)=A++X.take n++X[n]::y::(X.drop (n+1)++Z)by simp only[List.append_assoc,List.cons_append,List.nil_append],this];simp only[List.append_assoc,List.cons_append,List.nil_append]
theorem qA6(A X Z:List T)(y:T)(N a:Nat)(hA:A.length=a)(hN:(A++X++y::Z).length=N)(hn:N<=1099511627776):
 qbj XV [70,74,122,126] 1 [0,14,17] qrc ⟨[(0,.tsl true 0 3 N),(14,.d (.int .i64 a)),(17,.d (.int .i64 (a+X.length:Nat)))],[some (kc (A++X++y::Z))]⟩=
  some (.exit 6,⟨[(0,.tsl true 0 3 N),(14,.d (.int .i64 a)),(17,.d (.int .i64 a)),(110,.d (.bool false))],[some (kc (A++y::(X++Z)))]⟩):=by
 have hNl:A.length+X.length+(Z.length+1)=N:=by rw[<-hN];simp;omega
 have hlen:∀s,(A++X.take s++y::(X.drop s++Z)).length=N:=fun s=>by simp;omega
 have h:=qat (X:=XV) (T:=[70,74,122,126]) (L:=1) (live:=[0,14,17]) (b:=qrc) (n:=X.length) (γ:=Unit) (st:=fun(_:Unit) s=>⟨[(0,.tsl true 0 3 N),(14,.d (.int .i64 a)),(17,.d (.int .i64 (a+(X.length-s):Nat)))],[some (kc (A++X.take (X.length-s)++y::(X.drop (X.length-s)++Z)))]⟩) (step:=fun _ _=> .inl ())
  (F:=fun _=>(.exit 6,⟨[(0,.tsl true 0 3 N),(14,.d (.int .i64 a)),(17,.d (.int .i64 a)),(110,.d (.bool false))],[some (kc (A++X.take 0++y::(X.drop 0++Z)))]⟩)) (R:=fun _=>(.ret,⟨[],[]⟩))
  (fun _=>⟨by simp,by
   rw[Nat.sub_self,Nat.add_zero];simp[qrc,qsm]⟩)
  (fun _ s hs=>by
   obtain⟨n,hnn⟩:∃n,X.length-s=n+1:=⟨X.length-s-1,by omega⟩;have hn1:X.length-(s+1)=n:=by omega
   have hsw:=qEb (A++X.take (n+1)++y::(X.drop (n+1)++Z)) (a+n) (by rw[hlen];exact hn) (by rw[hlen];omega) a;rw[<-hA,left_step A X Z y n (by omega),hA,hlen]at hsw;have hw:IntKind.i64.wrap (((a+n+1:Nat):Int)-1)=((a+n:Nat):Int):=by rw[wrap_i64 (by omega) (by omega)];omega
   have hlt:(a:Int)<((a+n+1:Nat):Int):=by omega
   rw[hnn,show a+(n+1)=a+n+1 by omega];generalize hc2:kc (A++X.take n++y::(X.drop n++Z))=c2 at hsw;generalize kc (A++X.take (n+1)++y::(X.drop (n+1)++Z))=c1 at hsw⊢
   exact⟨⟨[(0,.tsl true 0 3 N),(14,.d (.int .i64 a)),(17,.d (.int .i64 (a+n:Nat)))],[some c2]⟩,by
    generalize ((a+n+1:Nat):Int)=gv3 at*
    generalize ((a+n:Nat):Int)=gv4 at*
    simp[qrc,qsm,qz2,hlt];rw[hsw];simp[hw],by rw[<-hc2];simp[qag,qad,qaW,hn1]⟩)
  X.length () 0 ⟨[(0,.tsl true 0 3 N),(14,.d (.int .i64 a)),(17,.d (.int .i64 (a+X.length:Nat)))],[some (kc (A++X++y::Z))]⟩ (by omega) (by simp[qag,qad,qaW])
 rw[qg7]at h;simpa using h
end Go.Proofs.Ytfiakfiocdfpbaa.VS
namespace Go.Proofs.Ytfiakfiocdfpbaa.VS
theorem qJO{S:List T}(h:Srt S){p:T}(hp:p∈S):∃s,S.getLast?=some s/\tle p s:=by
 have hne:S≠[]:=fun he=>by rw[he]at hp;simp at hp
 refine⟨S.getLast hne,List.getLast?_eq_some_getLast hne,?_⟩
 by_cases he:p=S.getLast hne
 ·rw[he];exact qtr _
 ·have hd:p∈S.dropLast:=by
   have:=List.dropLast_concat_getLast hne;rw[<-this]at hp;rcases List.mem_append.1 hp with h|h
   ·exact h
   ·simp at h;exact absurd h he
  have hp':(S.dropLast++[S.getLast hne]).Pairwise tle:=by rw[List.dropLast_concat_getLast];exact h
  exact(List.pairwise_append.1 hp').2.2 p hd _ (by simp)
theorem qJS{S:List T}(h:Srt S){p:T}(hp:p∈S):∃s,S.head?=some s/\tle s p:=by
 cases S with
 |nil=>simp at hp
 |cons x r=>
  refine⟨x,rfl,?_⟩;rcases List.mem_cons.1 hp with rfl|hp
  ·exact qtr _
  ·exact(List.pairwise_cons.1 h).1 p hp
theorem qFv{S R:List T}(hS:Srt S)(hR:Srt R)(h:∀s r,S.getLast?=some s->R.head?=some r->tle s r):∀p,p∈S->∀q,q∈R->tle p q:=by
 intro p hp q hq;obtain⟨s,h1,h2⟩:=qJO hS hp;obtain⟨r,h3,h4⟩:=qJS hR hq;exact qg2 (qg2 h2 (h s r h1 h3)) h4
theorem qy9{S1 S2:List T}{x:T}(h:Srt (S1++S2))(h1:∀s,S1.getLast?=some s->tle s x)(h2:∀s,S2.head?=some s->tle x s):Srt (S1++x::S2):=by
 obtain⟨p1,p2,p3⟩:=List.pairwise_append.1 h;have c1:=qFv (S:=S1) (R:=[x]) p1 (List.pairwise_singleton _ _) (fun s r hs hr=>by simp at hr;subst hr;exact h1 s hs);have c2:=qFv (S:=[x]) (R:=S2) (List.pairwise_singleton _ _) p2 (fun s r hs hr=>by simp at hs;subst hs;exact h2 r hr);refine List.pairwise_append.2 ⟨p1,List.pairwise_cons.2 ⟨fun q hq=>c2 x (by simp) q hq,p2⟩,fun p hp q hq=> ?_⟩;rcases List.mem_cons.1 hq with rfl|hq
 ·exact c1 p hp _ (by simp)
 ·exact p3 p hp q hq
theorem qts(A X R:List T)(q:Nat)(hq:q<X.length):tAt (A++X++R) (A.length+q)=tAt X q:=by
 unfold tAt;rw[List.append_assoc,List.getElem?_append_right (by omega),Nat.add_sub_cancel_left,List.getElem?_append_left hq]
theorem qg3{X:List T}{t:Nat}{s:T}(ht:t<=X.length)(h:(X.take t).getLast?=some s):0<t/\s=tAt X (t-1):=by
 rw[List.getLast?_eq_getElem?,List.length_take,Nat.min_eq_left ht]at h;have hlt:=(List.getElem?_eq_some_iff.1 h).1;simp at hlt;rw[List.getElem?_take]at h;split at h
 ·exact⟨by omega,by simp[tAt,h]⟩
 ·simp at h
theorem qhI{X:List T}{t:Nat}{s:T}(h:(X.drop t).head?=some s):t<X.length/\s=tAt X t:=by
 rw[List.head?_drop]at h;exact⟨(List.getElem?_eq_some_iff.1 h).1,by simp[tAt,h]⟩
theorem qAW(A Y Z:List T)(x:T)(a m b N:Nat)(ha:a=A.length)(hm:m=a+1)(hb:b=m+Y.length)(hN:N=(A++x::(Y++Z)).length)(hn:N<=1099511627776)(hin:∀t,t∈A++x::(Y++Z)->t.inner<=1099511627776)(hY:Srt Y):
 ∃W:List T,W.Perm (x::Y)/\Srt W/\qaf XV 173 [.tsl true 0 3 N,.d (.int .i64 a),.d (.int .i64 m),.d (.int .i64 b),.fn 6 []] [some (kc (A++x::(Y++Z)))]=some (.d (.tup []),[some (kc (A++W++Z))]):=by
 have hNl:A.length+1+Y.length+Z.length=N:=by rw[hN];simp;omega
 have hlo:=qFK (A++x::(Y++Z)) a (by rw[<-hN];exact hn) (by rw[<-hN];omega) hin Y.length m b (by omega) (by omega) (by rw[<-hN];omega);have hxa:tAt (A++x::(Y++Z)) a=x:=quB _ _ _ _ ha;have hat:∀q,q<Y.length->tAt (A++x::(Y++Z)) (m+q)=tAt Y q:=fun q hq=>by
  have:=qts (A++[x]) Y Z q hq;simp only[List.length_append,List.length_cons,List.length_nil,List.append_assoc,List.cons_append,List.nil_append]at this;rw[hm,ha];exact this
 obtain⟨s1,s2,s3,s4⟩:=ql1 (fun h=>decide (T.cmp (tAt (A++x::(Y++Z)) h) (tAt (A++x::(Y++Z)) a)<0)) Y.length m b (by omega) (by omega);generalize bs (fun h=>decide (T.cmp (tAt (A++x::(Y++Z)) h) (tAt (A++x::(Y++Z)) a)<0)) Y.length m b=r at hlo s1 s2 s3 s4;rw[hxa]at s3 s4;obtain⟨t,rfl⟩:∃t,r=m+t:=⟨r-m,by omega⟩;have htl:t<=Y.length:=by omega
 have hY12:Y.take t++Y.drop t=Y:=List.take_append_drop _ _;have hl1:(Y.take t).length=t:=by simp;omega
 have hri:=qvJ A (Y.take t) (Y.drop t++Z) x N a ha.symm (by rw[hN,<-List.append_assoc (Y.take t),hY12]) hn;rw[<-List.append_assoc (Y.take t),hY12,hl1,show a+1+t=m+t by omega]at hri;refine⟨Y.take t++x::Y.drop t,?_,qy9 (by rw[hY12];exact hY) (fun s hs=> ?_) (fun s hs=> ?_),?_⟩
 ·refine List.perm_middle.trans ?_
  rw[hY12]
 ·obtain⟨h1,h2⟩:=qg3 htl hs
  rcases s3 with s3|s3
  ·omega
  ·rw[show m+t-1=m+(t-1)by omega,hat _ (by omega)]at s3
   rw[h2];exact qeC (by simpa using s3)
 ·obtain⟨h1,h2⟩:=qhI hs
  rcases s4 with s4|s4
  ·omega
  ·rw[hat _ h1]at s4
   rw[h2];exact qcY (by simpa using s4)
 ·have hfin:A++(Y.take t++x::Y.drop t)++Z=A++Y.take t++x::(Y.drop t++Z):=by simp only[List.append_assoc,List.cons_append]
  rw[hfin];rw[qap XV _ _ _ qC2 rfl qke rfl];rw[<-hN]at hlo;have w1:IntKind.i64.wrap ((m:Int)-a)=1:=by rw[wrap_i64 (by omega) (by omega)];omega
  generalize kc (A++Y.take t++x::(Y.drop t++Z))=c2 at hri⊢
  generalize kc (A++x::(Y++Z))=c1 at hlo hri⊢
  generalize ((m+t:Nat):Int)=gv1 at*
  generalize ((a+t:Nat):Int)=gv2 at*
  simp[qC2,qpF,qGm,qGl,w1];rw[hlo];simp[qGk];rw[hri];simp
end Go.Proofs.Ytfiakfiocdfpbaa.VS
namespace Go.Proofs.Ytfiakfiocdfpbaa.VS
theorem qwz(A X Z:List T)(y:T)(a m b N:Nat)(ha:a=A.length)(hm:m=a+X.length)(hb:b=m+1)(hX2:2<=X.length)(hN:N=(A++X++y::Z).length)(hn:N<=1099511627776)(hin:∀t,t∈A++X++y::Z->t.inner<=1099511627776)(hX:Srt X):
 ∃W:List T,W.Perm (X++[y])/\Srt W/\qaf XV 173 [.tsl true 0 3 N,.d (.int .i64 a),.d (.int .i64 m),.d (.int .i64 b),.fn 6 []] [some (kc (A++X++y::Z))]=some (.d (.tup []),[some (kc (A++W++Z))]):=by
 have hNl:A.length+X.length+(Z.length+1)=N:=by rw[hN];simp;omega
 have hlo:=qFJ (A++X++y::Z) m (by rw[<-hN];exact hn) (by rw[<-hN];omega) hin X.length a m (by omega) (by omega) (by rw[<-hN];omega);have hxm:tAt (A++X++y::Z) m=y:=quB _ _ _ _ (by simp;omega);have hat:∀q,q<X.length->tAt (A++X++y::Z) (a+q)=tAt X q:=fun q hq=>by rw[ha];exact qts A X (y::Z) q hq
 obtain⟨s1,s2,s3,s4⟩:=ql1 (fun h=> !decide (T.cmp (tAt (A++X++y::Z) m) (tAt (A++X++y::Z) h)<0)) X.length a m (by omega) (by omega);generalize bs (fun h=> !decide (T.cmp (tAt (A++X++y::Z) m) (tAt (A++X++y::Z) h)<0)) X.length a m=r at hlo s1 s2 s3 s4;rw[hxm]at s3 s4;obtain⟨t,rfl⟩:∃t,r=a+t:=⟨r-a,by omega⟩;have htl:t<=X.length:=by omega
 have hX12:X.take t++X.drop t=X:=List.take_append_drop _ _;have hl1:(X.take t).length=t:=by simp;omega
 have hl2:(X.drop t).length=X.length-t:=by simp
 have hassoc:A++X.take t++X.drop t++y::Z=A++X++y::Z:=by rw[List.append_assoc A,hX12]
 have hri:=qA6 (A++X.take t) (X.drop t) Z y N (a+t) (by simp;omega) (by rw[hassoc,hN]) hn;rw[hassoc,hl2,show a+t+(X.length-t)=m by omega]at hri;refine⟨X.take t++y::X.drop t,?_,qy9 (by rw[hX12];exact hX) (fun s hs=> ?_) (fun s hs=> ?_),?_⟩
 ·refine List.perm_middle.trans ?_
  rw[hX12];exact List.perm_append_comm (l₁:=[y]) (l₂:=X)
 ·obtain⟨h1,h2⟩:=qg3 htl hs
  rcases s3 with s3|s3
  ·omega
  ·rw[show a+t-1=a+(t-1)by omega,hat _ (by omega)]at s3
   rw[h2];exact qcY (by simpa using s3)
 ·obtain⟨h1,h2⟩:=qhI hs
  rcases s4 with s4|s4
  ·omega
  ·rw[hat _ h1]at s4
   rw[h2];exact qeC (by simpa using s4)
 ·have hfin:A++(X.take t++y::X.drop t)++Z=A++X.take t++y::(X.drop t++Z):=by simp only[List.append_assoc,List.cons_append]
  rw[hfin];rw[qap XV _ _ _ qC2 rfl qke rfl];rw[<-hN]at hlo;have w1:IntKind.i64.wrap ((m:Int)-a)=(X.length:Int):=by rw[wrap_i64 (by omega) (by omega)];omega
  have n1:((X.length:Int)==1)=false:=by simp;omega
  have w2:IntKind.i64.wrap ((b:Int)-m)=1:=by rw[wrap_i64 (by omega) (by omega)];omega
  generalize kc (A++X.take t++y::(X.drop t++Z))=c2 at hri⊢
  generalize kc (A++X++y::Z)=c1 at hlo hri⊢
  generalize ((a+t:Nat):Int)=gv2 at*
  generalize (X.length:Int)=vx at*
  simp[qC2,qpF,qn9,qz5,qz4,w1,w2,n1];rw[hlo];simp[qz3];rw[hri];simp
theorem qwy(N:Nat)(ga gm gb gmid gst vn ve:Int)(k0 k1 k2 k3:List AV)(w5:IntKind.i64.wrap (vn-gst)=ve)
 (hA:(gst<gm/\gm<ve/\qaf XV 174 [.tsl true 0 3 N,.d (.int .i64 gst),.d (.int .i64 gm),.d (.int .i64 ve),.fn 6 []] [some k0]=some (.d (.tup []),[some k1]))\/(gst<gm/\¬gm<ve/\k0=k1)\/(¬gst<gm/\k0=k1))
 (hB:(ga<gst/\gst<gmid/\qaf XV 173 [.tsl true 0 3 N,.d (.int .i64 ga),.d (.int .i64 gst),.d (.int .i64 gmid),.fn 6 []] [some k1]=some (.d (.tup []),[some k2]))\/(ga<gst/\¬gst<gmid/\k1=k2)\/(¬ga<gst/\k1=k2))
 (hC:(gmid<ve/\ve<gb/\qaf XV 173 [.tsl true 0 3 N,.d (.int .i64 gmid),.d (.int .i64 ve),.d (.int .i64 gb),.fn 6 []] [some k2]=some (.d (.tup []),[some k3]))\/(gmid<ve/\¬ve<gb/\k2=k3)\/(¬gmid<ve/\k2=k3)) (x21 x22 x151:AV):
 ∃r',qau XV [70,74,122,126] (.seq (.region false 0 [0,1,2,3,4,18,20,24] qkQ) (.seq (.seq (.region false 0 [0,1,2,3,4,18,20,24,185] qkP) (.cond (.t 185) (.region false 0 [0,1,3,4,18,20,24] qkO) .skip)) (.seq (.seq (.region false 0 [0,1,3,4,18,20,24,199] qkN) (.cond (.t 199) (.region false 0 [0,3,4,18,24] qkM) .skip)) (.seq (.region false 0 [0,3,4,18,24,213] qkL) (.cond (.t 213) (.region false 0 [] qkK) .skip)))))
  ⟨[(0,.tsl true 0 3 N),(1,.d (.int .i64 ga)),(2,.d (.int .i64 gm)),(3,.d (.int .i64 gb)),(4,.fn 6 []),(18,.d (.int .i64 gmid)),(19,.d (.int .i64 vn)),(20,.d (.int .i64 gst)),(21,x21),(22,x22),(151,x151)],[some k0]⟩=some (.normal,⟨r',[some k3]⟩):=by
 rcases hA with⟨a1,a2,a3⟩|⟨a1,a2,rfl⟩|⟨a1,rfl⟩<;>rcases hB with⟨b1,b2,b3⟩|⟨b1,b2,rfl⟩|⟨b1,rfl⟩<;>rcases hC with⟨d1,d2,d3⟩|⟨d1,d2,rfl⟩|⟨d1,rfl⟩<;>
  exact⟨_,by simp[qkQ,qkP,qkO,qkN,qkM,qkL,qkK,w5, *];rfl⟩
theorem qsD(N:Nat)(ga gm gb gmid gst vn vn1 vb vx vy vab:Int)(k0 k3:List AV)(w1:IntKind.i64.wrap (gm-ga)=vx)(n1:(vx==1)=false)(w2:IntKind.i64.wrap (gb-gm)=vy)(n2:(vy==1)=false)
 (m1:IntKind.i64.wrap (ga+gb)=vab) (m2:IntKind.u64.wrap vab=vab) (m3:vab.fdiv 2=gmid) (m4:IntKind.i64.wrap gmid=gmid) (w3:IntKind.i64.wrap (gmid+gm)=vn) (w4:IntKind.i64.wrap (vn-1)=vn1) (w6:gmid<gm->IntKind.i64.wrap (vn-gb)=vb)
 (hlo:qbj XV [70,74,122,126] 1 [0,1,2,3,4,18,19,20,21,22] qhV ⟨[(0,.tsl true 0 3 N),(1,.d (.int .i64 ga)),(2,.d (.int .i64 gm)),(3,.d (.int .i64 gb)),(4,.fn 6 []),(18,.d (.int .i64 gmid)),(19,.d (.int .i64 vn)),(20,.d (.int .i64 (if gmid<gm then vb else ga))),(21,.d (.int .i64 (if gmid<gm then gmid else gm))),(22,.d (.int .i64 vn1))],[some k0]⟩=
  some (.exit 8,⟨[(0,.tsl true 0 3 N),(1,.d (.int .i64 ga)),(2,.d (.int .i64 gm)),(3,.d (.int .i64 gb)),(4,.fn 6 []),(18,.d (.int .i64 gmid)),(19,.d (.int .i64 vn)),(20,.d (.int .i64 gst)),(21,.d (.int .i64 gst)),(22,.d (.int .i64 vn1)),(151,.d (.bool false))],[some k0]⟩))
 (tail:∃r',qau XV [70,74,122,126] (.seq (.region false 0 [0,1,2,3,4,18,20,24] qkQ) (.seq (.seq (.region false 0 [0,1,2,3,4,18,20,24,185] qkP) (.cond (.t 185) (.region false 0 [0,1,3,4,18,20,24] qkO) .skip)) (.seq (.seq (.region false 0 [0,1,3,4,18,20,24,199] qkN) (.cond (.t 199) (.region false 0 [0,3,4,18,24] qkM) .skip)) (.seq (.region false 0 [0,3,4,18,24,213] qkL) (.cond (.t 213) (.region false 0 [] qkK) .skip)))))
  ⟨[(0,.tsl true 0 3 N),(1,.d (.int .i64 ga)),(2,.d (.int .i64 gm)),(3,.d (.int .i64 gb)),(4,.fn 6 []),(18,.d (.int .i64 gmid)),(19,.d (.int .i64 vn)),(20,.d (.int .i64 gst)),(21,.d (.int .i64 gst)),(22,.d (.int .i64 vn1)),(151,.d (.bool false))],[some k0]⟩=some (.normal,⟨r',[some k3]⟩)):
 qaf XV 173 [.tsl true 0 3 N,.d (.int .i64 ga),.d (.int .i64 gm),.d (.int .i64 gb),.fn 6 []] [some k0]=some (.d (.tup []),[some k3]):=by
 obtain⟨r',t1⟩:=tail;generalize hT:(.seq (.region false 0 [0,1,2,3,4,18,20,24] qkQ) (.seq (.seq (.region false 0 [0,1,2,3,4,18,20,24,185] qkP) (.cond (.t 185) (.region false 0 [0,1,3,4,18,20,24] qkO) .skip)) (.seq (.seq (.region false 0 [0,1,3,4,18,20,24,199] qkN) (.cond (.t 199) (.region false 0 [0,3,4,18,24] qkM) .skip)) (.seq (.region false 0 [0,3,4,18,24,213] qkL) (.cond (.t 213) (.region false 0 [] qkK) .skip)))):VCode)=code at t1;rw[qap XV _ _ _ qC2 rfl qke rfl];unfold qC2;rw[hT]
 by_cases hmm:gmid<gm
 ·have w6':=w6 hmm
  simp only[if_pos hmm]at hlo;simp[qpF,qn9,qsl,qsk,qsj,qsi,qz1,qz0,qsh,w1,n1,w2,n2,m1,m2,m3,m4,w3,w4,w6',hmm,qcI,qcU];rw[hlo];simp[t1]
 ·simp only[if_neg hmm]at hlo
  simp[qpF,qn9,qsl,qsk,qsj,qsi,qzZ,qzY,qsh,w1,n1,w2,n2,m1,m2,m3,m4,w3,w4,hmm,qcI,qcU];rw[hlo];simp[t1]
theorem qAV(A X1 X2 Y1 Y2 Z W1 W2:List T)(a m b mid st N:Nat)(ha:a=A.length)(hm:m=a+X1.length+X2.length)(hb:b=m+Y1.length+Y2.length)(hX:2<=X1.length+X2.length)(hY:2<=Y1.length+Y2.length)
 (hmid:mid=(a+b)/2) (hst:st=a+X1.length) (h1:mid=st+Y1.length) (hN:N=(A++(X1++X2)++(Y1++Y2)++Z).length) (hn:N<=1099511627776)
 (hlo:∀(i j:Nat),(if mid<m then i=mid+m-b/\j=mid else i=a/\j=m)->qbj XV [70,74,122,126] 1 [0,1,2,3,4,18,19,20,21,22] qhV ⟨[(0,.tsl true 0 3 N),(1,.d (.int .i64 a)),(2,.d (.int .i64 m)),(3,.d (.int .i64 b)),(4,.fn 6 []),(18,.d (.int .i64 mid)),(19,.d (.int .i64 (mid+m:Nat))),(20,.d (.int .i64 i)),(21,.d (.int .i64 j)),(22,.d (.int .i64 (mid+m-1:Nat)))],[some (kc (A++(X1++X2)++(Y1++Y2)++Z))]⟩=
  some (.exit 8,⟨[(0,.tsl true 0 3 N),(1,.d (.int .i64 a)),(2,.d (.int .i64 m)),(3,.d (.int .i64 b)),(4,.fn 6 []),(18,.d (.int .i64 mid)),(19,.d (.int .i64 (mid+m:Nat))),(20,.d (.int .i64 st)),(21,.d (.int .i64 st)),(22,.d (.int .i64 (mid+m-1:Nat))),(151,.d (.bool false))],[some (kc (A++(X1++X2)++(Y1++Y2)++Z))]⟩))
 (hr:X2≠[]->Y1≠[]->qaf XV 174 [.tsl true 0 3 N,.d (.int .i64 st),.d (.int .i64 m),.d (.int .i64 (m+Y1.length:Nat)),.fn 6 []] [some (kc (A++(X1++X2)++(Y1++Y2)++Z))]=some (.d (.tup []),[some (kc (A++(X1++Y1)++(X2++Y2)++Z))]))
 (h2:(X1≠[]/\Y1≠[])->qaf XV 173 [.tsl true 0 3 N,.d (.int .i64 a),.d (.int .i64 st),.d (.int .i64 mid),.fn 6 []] [some (kc (A++(X1++Y1)++(X2++Y2)++Z))]=some (.d (.tup []),[some (kc (A++W1++(X2++Y2)++Z))]))
 (h2':¬(X1≠[]/\Y1≠[])->W1=X1++Y1)
 (h3:(X2≠[]/\Y2≠[])->qaf XV 173 [.tsl true 0 3 N,.d (.int .i64 mid),.d (.int .i64 (m+Y1.length:Nat)),.d (.int .i64 b),.fn 6 []] [some (kc (A++W1++(X2++Y2)++Z))]=some (.d (.tup []),[some (kc (A++W1++W2++Z))]))
 (h3':¬(X2≠[]/\Y2≠[])->W2=X2++Y2):
 qaf XV 173 [.tsl true 0 3 N,.d (.int .i64 a),.d (.int .i64 m),.d (.int .i64 b),.fn 6 []] [some (kc (A++(X1++X2)++(Y1++Y2)++Z))]=some (.d (.tup []),[some (kc (A++W1++W2++Z))]):=by
 have hNl:A.length+X1.length+X2.length+Y1.length+Y2.length+Z.length=N:=by rw[hN];simp;omega
 have ne:∀l:List T,l≠[]↔0<l.length:=fun l=>by cases l<;>simp
 have w1:IntKind.i64.wrap ((m:Int)-a)=((X1.length+X2.length:Nat):Int):=by rw[wrap_i64 (by omega) (by omega)];omega
 have n1:(((X1.length+X2.length:Nat):Int)==1)=false:=by simp;omega
 have w2:IntKind.i64.wrap ((b:Int)-m)=((Y1.length+Y2.length:Nat):Int):=by rw[wrap_i64 (by omega) (by omega)];omega
 have n2:(((Y1.length+Y2.length:Nat):Int)==1)=false:=by simp;omega
 obtain⟨m1,m2,m3,m4⟩:=qhn a b (by omega);rw[<-hmid]at m3 m4;have w3:IntKind.i64.wrap ((mid:Int)+m)=((mid+m:Nat):Int):=by rw[wrap_i64 (by omega) (by omega)];omega
 have w4:IntKind.i64.wrap (((mid+m:Nat):Int)-1)=((mid+m-1:Nat):Int):=by rw[wrap_i64 (by omega) (by omega)];omega
 have w5:IntKind.i64.wrap (((mid+m:Nat):Int)-st)=((m+Y1.length:Nat):Int):=by rw[wrap_i64 (by omega) (by omega)];omega
 have w6:mid<m->IntKind.i64.wrap (((mid+m:Nat):Int)-b)=((mid+m-b:Nat):Int):=fun h=>by rw[wrap_i64 (by omega) (by omega)];omega
 have hr':(X2≠[]/\Y1≠[])\/A++(X1++X2)++(Y1++Y2)++Z=A++(X1++Y1)++(X2++Y2)++Z:=by
  by_cases e1:X2=[]
  ·right;subst e1;simp
  ·by_cases e2:Y1=[]
   ·right;subst e2;simp
   ·exact .inl ⟨e1,e2⟩
 have c1:((st:Int)<m)↔X2≠[]:=by rw[ne];omega
 have c2:((m:Int)<((m+Y1.length:Nat):Int))↔Y1≠[]:=by rw[ne];omega
 have c3:((a:Int)<st)↔X1≠[]:=by rw[ne];omega
 have c4:((st:Int)<mid)↔Y1≠[]:=by rw[ne];omega
 have c5:((mid:Int)<((m+Y1.length:Nat):Int))↔X2≠[]:=by rw[ne];omega
 have c6:(((m+Y1.length:Nat):Int)<b)↔Y2≠[]:=by rw[ne];omega
 have step2:(¬(X1≠[]/\Y1≠[]))->kc (A++(X1++Y1)++(X2++Y2)++Z)=kc (A++W1++(X2++Y2)++Z):=fun h=>by rw[h2' h]
 have step3:(¬(X2≠[]/\Y2≠[]))->kc (A++W1++(X2++Y2)++Z)=kc (A++W1++W2++Z):=fun h=>by rw[h3' h]
 have step1:(¬(X2≠[]/\Y1≠[]))->kc (A++(X1++X2)++(Y1++Y2)++Z)=kc (A++(X1++Y1)++(X2++Y2)++Z):=fun h=>by
  rcases hr' with h1|h1
  ·exact absurd h1 h
  ·rw[h1]
 have hA:((st:Int)<m/\(m:Int)<((m+Y1.length:Nat):Int)/\qaf XV 174 [.tsl true 0 3 N,.d (.int .i64 st),.d (.int .i64 m),.d (.int .i64 (m+Y1.length:Nat)),.fn 6 []] [some (kc (A++(X1++X2)++(Y1++Y2)++Z))]=some (.d (.tup []),[some (kc (A++(X1++Y1)++(X2++Y2)++Z))]))\/((st:Int)<m/\¬(m:Int)<((m+Y1.length:Nat):Int)/\kc (A++(X1++X2)++(Y1++Y2)++Z)=kc (A++(X1++Y1)++(X2++Y2)++Z))\/(¬(st:Int)<m/\kc (A++(X1++X2)++(Y1++Y2)++Z)=kc (A++(X1++Y1)++(X2++Y2)++Z)):=by
  by_cases e1:X2=[]
  ·exact .inr (.inr ⟨fun h=>(c1.1 h) e1,step1 fun h=>h.1 e1⟩)
  ·by_cases e2:Y1=[]
   ·exact .inr (.inl ⟨c1.2 e1,fun h=>(c2.1 h) e2,step1 fun h=>h.2 e2⟩)
   ·exact .inl ⟨c1.2 e1,c2.2 e2,hr e1 e2⟩
 have hB:((a:Int)<st/\(st:Int)<mid/\qaf XV 173 [.tsl true 0 3 N,.d (.int .i64 a),.d (.int .i64 st),.d (.int .i64 mid),.fn 6 []] [some (kc (A++(X1++Y1)++(X2++Y2)++Z))]=some (.d (.tup []),[some (kc (A++W1++(X2++Y2)++Z))]))\/((a:Int)<st/\¬(st:Int)<mid/\kc (A++(X1++Y1)++(X2++Y2)++Z)=kc (A++W1++(X2++Y2)++Z))\/(¬(a:Int)<st/\kc (A++(X1++Y1)++(X2++Y2)++Z)=kc (A++W1++(X2++Y2)++Z)):=by
  by_cases e1:X1=[]
  ·exact .inr (.inr ⟨fun h=>(c3.1 h) e1,step2 fun h=>h.1 e1⟩)
  ·by_cases e2:Y1=[]
   ·exact .inr (.inl ⟨c3.2 e1,fun h=>(c4.1 h) e2,step2 fun h=>h.2 e2⟩)
   ·exact .inl ⟨c3.2 e1,c4.2 e2,h2 ⟨e1,e2⟩⟩
 have hC:((mid:Int)<((m+Y1.length:Nat):Int)/\((m+Y1.length:Nat):Int)<b/\qaf XV 173 [.tsl true 0 3 N,.d (.int .i64 mid),.d (.int .i64 (m+Y1.length:Nat)),.d (.int .i64 b),.fn 6 []] [some (kc (A++W1++(X2++Y2)++Z))]=some (.d (.tup []),[some (kc (A++W1++W2++Z))]))\/((mid:Int)<((m+Y1.length:Nat):Int)/\¬((m+Y1.length:Nat):Int)<b/\kc (A++W1++(X2++Y2)++Z)=kc (A++W1++W2++Z))\/(¬(mid:Int)<((m+Y1.length:Nat):Int)/\kc (A++W1++(X2++Y2)++Z)=kc (A++W1++W2++Z)):=by
  by_cases e1:X2=[]
  ·exact .inr (.inr ⟨fun h=>(c5.1 h) e1,step3 fun h=>h.1 e1⟩)
  ·by_cases e2:Y2=[]
   ·exact .inr (.inl ⟨c5.2 e1,fun h=>(c6.1 h) e2,step3 fun h=>h.2 e2⟩)
   ·exact .inl ⟨c5.2 e1,c6.2 e2,h3 ⟨e1,e2⟩⟩
 refine qsD N a m b mid st (mid+m:Nat) (mid+m-1:Nat) (mid+m-b:Nat) (X1.length+X2.length:Nat) (Y1.length+Y2.length:Nat) (a+b:Nat) _ _ w1 n1 w2 n2 m1 m2 m3 m4 w3 w4 (fun h=>w6 (by omega)) ?_ (qwy N a m b mid st (mid+m:Nat) (m+Y1.length:Nat) _ _ _ _ w5 hA hB hC _ _ _)
 by_cases h:mid<m
 ·have h':(mid:Int)<m:=by omega
  rw[if_pos h',if_pos h'];exact hlo (mid+m-b) mid (by rw[if_pos h];exact⟨rfl,rfl⟩)
 ·have h':¬(mid:Int)<m:=by omega
  rw[if_neg h',if_neg h'];exact hlo a m (by rw[if_neg h];exact⟨rfl,rfl⟩)
end Go.Proofs.Ytfiakfiocdfpbaa.VS
namespace Go.Proofs.Ytfiakfiocdfpbaa.VS
theorem qkk:∀(k:Nat) (A X Y Z:List T) (a m b N:Nat),X.length+Y.length<=k->0<X.length->0<Y.length->a=A.length->m=a+X.length->b=m+Y.length->N=(A++X++Y++Z).length->N<=1099511627776->(∀t,t∈A++X++Y++Z->t.inner<=1099511627776)->Srt X->Srt Y->
 ∃W:List T,W.Perm (X++Y)/\Srt W/\qaf XV 173 [.tsl true 0 3 N,.d (.int .i64 a),.d (.int .i64 m),.d (.int .i64 b),.fn 6 []] [some (kc (A++X++Y++Z))]=some (.d (.tup []),[some (kc (A++W++Z))]):=by
 intro k
 induction k with
 |zero=>intro A X Y Z a m b N hk hx hy;omega
 |succ k ih=>
  intro A X Y Z a m b N hk hx hy ha hm hb hN hn hin hX hY;have hNl:A.length+X.length+Y.length+Z.length=N:=by rw[hN];simp;omega
  by_cases hx1:X.length=1
  ·obtain⟨x,rfl⟩:∃x,X=[x]:=List.length_eq_one_iff.1 hx1
   have e:A++[x]++Y++Z=A++x::(Y++Z):=by simp
   rw[e]at hN hin⊢
   obtain⟨W,w1,w2,w3⟩:=qAW A Y Z x a m b N ha (by simpa using hm) hb hN hn hin hY;exact⟨W,by simpa using w1,w2,w3⟩
  by_cases hy1:Y.length=1
  ·obtain⟨y,rfl⟩:∃y,Y=[y]:=List.length_eq_one_iff.1 hy1
   have e:A++X++[y]++Z=A++X++y::Z:=by simp
   rw[e]at hN hin⊢
   exact qwz A X Z y a m b N ha hm (by simpa using hb) (by omega) hN hn hin hX
  obtain⟨mid,hmid⟩:∃mid,mid=(a+b)/2:=⟨_,rfl⟩;have hxat:∀q,q<X.length->tAt (A++X++Y++Z) (a+q)=tAt X q:=fun q hq=>by
   rw[ha,List.append_assoc (A++X)];exact qts A X (Y++Z) q hq
  have hyat:∀q,q<Y.length->tAt (A++X++Y++Z) (m+q)=tAt Y q:=fun q hq=>by
   have:=qts (A++X) Y Z q hq;rw[List.length_append,<-ha,<-hm]at this;exact this
  have key:∀i j:Nat,(if mid<m then i=mid+m-b/\j=mid else i=a/\j=m)->∃st,i<=st/\st<=j/\(st=i\/tle (tAt (A++X++Y++Z) (st-1)) (tAt (A++X++Y++Z) (mid+m-1-(st-1))))/\(st=j\/tle (tAt (A++X++Y++Z) (mid+m-1-st)) (tAt (A++X++Y++Z) st))/\
   qbj XV [70,74,122,126] 1 [0,1,2,3,4,18,19,20,21,22] qhV ⟨[(0,.tsl true 0 3 N),(1,.d (.int .i64 a)),(2,.d (.int .i64 m)),(3,.d (.int .i64 b)),(4,.fn 6 []),(18,.d (.int .i64 mid)),(19,.d (.int .i64 (mid+m:Nat))),(20,.d (.int .i64 i)),(21,.d (.int .i64 j)),(22,.d (.int .i64 (mid+m-1:Nat)))],[some (kc (A++X++Y++Z))]⟩=
    some (.exit 8,⟨[(0,.tsl true 0 3 N),(1,.d (.int .i64 a)),(2,.d (.int .i64 m)),(3,.d (.int .i64 b)),(4,.fn 6 []),(18,.d (.int .i64 mid)),(19,.d (.int .i64 (mid+m:Nat))),(20,.d (.int .i64 st)),(21,.d (.int .i64 st)),(22,.d (.int .i64 (mid+m-1:Nat))),(151,.d (.bool false))],[some (kc (A++X++Y++Z))]⟩):=by
   intro i j hij;have hij2:i<=j/\j<=N/\∀c,i<=c->c<j->c<=mid+m-1/\mid+m-1-c<N:=by
    split at hij
    ·obtain⟨rfl,rfl⟩:=hij
     exact⟨by omega,by omega,fun c h1 h2=>by omega⟩
    ·obtain⟨rfl,rfl⟩:=hij
     exact⟨by omega,by omega,fun c h1 h2=>by omega⟩
   have hl:=qFI (A++X++Y++Z) (mid+m-1) a m b mid (mid+m:Nat) (by rw[<-hN];exact hn) (by omega) hin (j-i) i j hij2.1 (Nat.le_refl _) (by rw[<-hN];exact hij2.2.1) (by rw[<-hN];exact hij2.2.2);obtain⟨s1,s2,s3,s4⟩:=ql1 (fun c=> !decide (T.cmp (tAt (A++X++Y++Z) (mid+m-1-c)) (tAt (A++X++Y++Z) c)<0)) (j-i) i j hij2.1 (Nat.le_refl _);rw[<-hN]at hl;refine⟨_,s1,s2,s3.imp_right fun h=>qcY (by simpa using h),s4.imp_right fun h=>qeC (by simpa using h),hl⟩
  obtain⟨i0,j0,hif⟩:∃i j:Nat,(if mid<m then i=mid+m-b/\j=mid else i=a/\j=m):=by
   by_cases h:mid<m
   ·exact⟨mid+m-b,mid,by rw[if_pos h];exact⟨rfl,rfl⟩⟩
   ·exact⟨a,m,by rw[if_neg h];exact⟨rfl,rfl⟩⟩
  obtain⟨st,q1,q2,q3,q4,hlo⟩:=key i0 j0 hif;clear key;have hb1:a<=st/\st<=m/\st<=mid/\m<=mid+m-st/\mid+m-st<=b:=by
   split at hif
   ·obtain⟨rfl,rfl⟩:=hif;omega
   ·obtain⟨rfl,rfl⟩:=hif;omega
  obtain⟨t,ht⟩:∃t,st=a+t:=⟨st-a,by omega⟩;obtain⟨u,hu⟩:∃u,mid+m-st=m+u:=⟨mid-st,by omega⟩;have htl:t<=X.length:=by omega
  have hul:u<=Y.length:=by omega
  have hX12:X.take t++X.drop t=X:=List.take_append_drop _ _;have hY12:Y.take u++Y.drop u=Y:=List.take_append_drop _ _;have lx1:(X.take t).length=t:=by simp;omega
  have lx2:(X.drop t).length=X.length-t:=by simp
  have ly1:(Y.take u).length=u:=by simp;omega
  have ly2:(Y.drop u).length=Y.length-u:=by simp
  have ne:∀l:List T,l≠[]->0<l.length:=fun l h=>List.length_pos_iff.2 h
  obtain⟨sx1,sx2,sx12⟩:=List.pairwise_append.1 (show Srt (X.take t++X.drop t)by rw[hX12];exact hX);obtain⟨sy1,sy2,sy12⟩:=List.pairwise_append.1 (show Srt (Y.take u++Y.drop u)by rw[hY12];exact hY);have F1:∀p,p∈X.take t->∀q,q∈Y.drop u->tle p q:=qFv sx1 sy2 fun s r hs hr=>by
   obtain⟨h1,h2⟩:=qg3 htl hs;obtain⟨h3,h4⟩:=qhI hr;rcases q3 with q3|q3
   ·exfalso
    split at hif
    ·obtain⟨rfl,rfl⟩:=hif;omega
    ·obtain⟨rfl,rfl⟩:=hif;omega
   ·rw[show st-1=a+(t-1)by omega,hxat _ (by omega),show mid+m-1-(a+(t-1))=m+u by omega,hyat _ h3]at q3
    rw[h2,h4];exact q3
  have F2:∀p,p∈Y.take u->∀q,q∈X.drop t->tle p q:=qFv sy1 sx2 fun s r hs hr=>by
   obtain⟨h1,h2⟩:=qg3 hul hs;obtain⟨h3,h4⟩:=qhI hr;rcases q4 with q4|q4
   ·exfalso
    split at hif
    ·obtain⟨rfl,rfl⟩:=hif;omega
    ·obtain⟨rfl,rfl⟩:=hif;omega
   ·rw[show mid+m-1-st=m+(u-1)by omega,hyat _ (by omega),show st=a+t from ht,hxat _ h3]at q4
    rw[h2,h4];exact q4
  generalize hX1:X.take t=X1 at*
  generalize hX2:X.drop t=X2 at*
  generalize hY1:Y.take u=Y1 at*
  generalize hY2:Y.drop u=Y2 at*
  clear hxat hyat q3 q4;subst hX12;subst hY12;have L:∃W1:List T,W1.Perm (X1++Y1)/\Srt W1/\((X1≠[]/\Y1≠[])->qaf XV 173 [.tsl true 0 3 N,.d (.int .i64 a),.d (.int .i64 st),.d (.int .i64 mid),.fn 6 []] [some (kc (A++(X1++Y1)++(X2++Y2)++Z))]=some (.d (.tup []),[some (kc (A++W1++(X2++Y2)++Z))]))/\(¬(X1≠[]/\Y1≠[])->W1=X1++Y1):=by
   by_cases h:X1≠[]/\Y1≠[]
   ·obtain⟨W,w1,w2,w3⟩:=ih A X1 Y1 (X2++Y2++Z) a st mid N (by simp at hk hm hb;omega) (ne _ h.1) (ne _ h.2) ha (by omega) (by simp at hm hb;omega) (by simp at hNl⊢;omega) hn (fun x hx=>hin x (by
     simp only[List.mem_append]at hx⊢
     rcases hx with((h|h)|h)|((h|h)|h)<;>simp[h])) sx1 sy1
    refine⟨W,w1,w2,fun _=> ?_,fun h'=>absurd h h'⟩;have e1:A++(X1++Y1)++(X2++Y2)++Z=A++X1++Y1++(X2++Y2++Z):=by simp
    have e2:A++W++(X2++Y2)++Z=A++W++(X2++Y2++Z):=by simp
    rw[e1,e2];exact w3
   ·refine⟨X1++Y1,List.Perm.refl _,?_,fun h'=>absurd h' h,fun _=>rfl⟩
    by_cases e1:X1=[]
    ·subst e1;rw[List.nil_append];exact sy1
    ·by_cases e2:Y1=[]
     ·subst e2;rw[List.append_nil];exact sx1
     ·exact absurd ⟨e1,e2⟩ h
  obtain⟨W1,p1,s1,c1,c1'⟩:=L;have lw1:W1.length=X1.length+Y1.length:=by rw[p1.length_eq];simp
  have Rr:∃W2:List T,W2.Perm (X2++Y2)/\Srt W2/\((X2≠[]/\Y2≠[])->qaf XV 173 [.tsl true 0 3 N,.d (.int .i64 mid),.d (.int .i64 (m+Y1.length:Nat)),.d (.int .i64 b),.fn 6 []] [some (kc (A++W1++(X2++Y2)++Z))]=some (.d (.tup []),[some (kc (A++W1++W2++Z))]))/\(¬(X2≠[]/\Y2≠[])->W2=X2++Y2):=by
   by_cases h:X2≠[]/\Y2≠[]
   ·obtain⟨W,w1,w2,w3⟩:=ih (A++W1) X2 Y2 Z mid (m+Y1.length) b N (by simp at hk hm hb;omega) (ne _ h.1) (ne _ h.2) (by simp at hm hb⊢;omega) (by simp at hm hb⊢;omega) (by simp at hm hb⊢;omega) (by simp at hNl⊢;omega) hn (fun x hx=>hin x (by
     simp only[List.mem_append]at hx⊢
     rcases hx with(((h|h)|h)|h)|h
     ·simp[h]
     ·have:=p1.mem_iff.1 h
      simp only[List.mem_append]at this;rcases this with h|h<;>simp[h]
     ·simp[h]
     ·simp[h]
     ·simp[h])) sx2 sy2
    refine⟨W,w1,w2,fun _=> ?_,fun h'=>absurd h h'⟩;have e1:A++W1++(X2++Y2)++Z=A++W1++X2++Y2++Z:=by simp
    rw[e1];exact w3
   ·refine⟨X2++Y2,List.Perm.refl _,?_,fun h'=>absurd h' h,fun _=>rfl⟩
    by_cases e1:X2=[]
    ·subst e1;rw[List.nil_append];exact sy2
    ·by_cases e2:Y2=[]
     ·subst e2;rw[List.append_nil];exact sx2
     ·exact absurd ⟨e1,e2⟩ h
  obtain⟨W2,p2,s2,c2,c2'⟩:=Rr;refine⟨W1++W2,?_,List.pairwise_append.2 ⟨s1,s2,fun p hp q hq=> ?_⟩,?_⟩
  ·refine(p1.append p2).trans ?_
   have:=List.perm_append_comm (l₁:=Y1) (l₂:=X2);have h3:=((List.Perm.refl X1).append (this.append (List.Perm.refl Y2)));simpa using h3
  ·have h1:=p1.mem_iff.1 hp
   have h2:=p2.mem_iff.1 hq;rcases List.mem_append.1 h1 with h1|h1<;>rcases List.mem_append.1 h2 with h2|h2
   ·exact sx12 p h1 q h2
   ·exact F1 p h1 q h2
   ·exact F2 p h1 q h2
   ·exact sy12 p h1 q h2
  ·have hrot:X2≠[]->Y1≠[]->qaf XV 174 [.tsl true 0 3 N,.d (.int .i64 st),.d (.int .i64 m),.d (.int .i64 (m+Y1.length:Nat)),.fn 6 []] [some (kc (A++(X1++X2)++(Y1++Y2)++Z))]=some (.d (.tup []),[some (kc (A++(X1++Y1)++(X2++Y2)++Z))]):=fun h1 h2=>by
    have hro:=qzj (A++X1) X2 Y1 (Y2++Z) st m (m+Y1.length) N (by simp;omega) (by simp at hm⊢;omega) (by simp at hm⊢;omega) (by simp at hNl⊢;omega) hn (ne _ h1) (ne _ h2) (.fn 6 []) (by simp[AV.clr,AV.clrs]) (by simp[qc1,qbg]);have e1:A++(X1++X2)++(Y1++Y2)++Z=A++X1++X2++Y1++(Y2++Z):=by simp
    have e2:A++(X1++Y1)++(X2++Y2)++Z=A++X1++Y1++X2++(Y2++Z):=by simp
    rw[e1,e2];exact hro
   have hfin:A++(W1++W2)++Z=A++W1++W2++Z:=by simp
   rw[hfin];exact qAV A X1 X2 Y1 Y2 Z W1 W2 a m b mid st N ha (by simp at hm;omega) (by simp at hb;omega) (by simp at hx1 hx;omega) (by simp at hy1 hy;omega) hmid (by omega) (by simp at hm hb;omega) hN hn (fun i j h=>by
    have:i=i0/\j=j0:=by
     split at h<;>split at hif<;>first|omega|skip
    rw[this.1,this.2];exact hlo) hrot c1 c1' c2 c2'
end Go.Proofs.Ytfiakfiocdfpbaa.VS
namespace Go.Proofs.Ytfiakfiocdfpbaa.VS
inductive Blk(s:Nat):List T->Prop where
 |last (l:List T):l.length<s->Srt l->Blk s l
 |cons (c r:List T):c.length=s->Srt c->Blk s r->Blk s (c++r)
theorem Blk.srt{s:Nat}{l:List T}(h:Blk s l)(hl:l.length<=s)(hs:0<s):Srt l:=by
 cases h with
 |last _ _ h2=>exact h2
 |cons c r h1 h2 h3=>
  have:r=[]:=List.length_eq_zero_iff.1 (by simp at hl;omega);subst this;rw[List.append_nil];exact h2
theorem qtb(N:Nat)(hn:N<=1099511627776):∀(k:Nat) (P R:List T),R.length<=k->(P++R).length=N->(∀t,t∈P++R->t.inner<=1099511627776)->
 ∃(R1 R2:List T) (a:Nat),R2.length<20/\a=P.length+R1.length/\a+R2.length=N/\(R1++R2).Perm R/\(∀Q,Blk 20 Q->Blk 20 (R1++Q))/\
  qbj XV [] 1 [0,1,2,6,7,8] ql5 ⟨[(0,.tsl true 0 3 N),(1,.d (.int .i64 N)),(2,.fn 6 []),(6,.d (.int .i64 20)),(7,.d (.int .i64 P.length)),(8,.d (.int .i64 (P.length+20:Nat)))],[some (kc (P++R))]⟩=
   some (.exit 0,⟨[(0,.tsl true 0 3 N),(1,.d (.int .i64 N)),(2,.fn 6 []),(6,.d (.int .i64 20)),(7,.d (.int .i64 a)),(8,.d (.int .i64 (a+20:Nat))),(13,.d (.bool false))],[some (kc (P++R1++R2))]⟩):=by
 have head:∀(x y:Int) (c:List AV),qag 1 [0,1,2,6,7,8] ⟨[(0,.tsl true 0 3 N),(1,.d (.int .i64 N)),(2,.fn 6 []),(6,.d (.int .i64 20)),(7,.d (.int .i64 x)),(8,.d (.int .i64 y))],[some c]⟩=some ⟨[(0,.tsl true 0 3 N),(1,.d (.int .i64 N)),(2,.fn 6 []),(6,.d (.int .i64 20)),(7,.d (.int .i64 x)),(8,.d (.int .i64 y))],[some c]⟩:=fun x y c=>by
  simp[qag,qad,qaW,qc1,qbg]
 have stop:∀(P R:List T),(P++R).length=N->R.length<20->qbj XV [] 1 [0,1,2,6,7,8] ql5 ⟨[(0,.tsl true 0 3 N),(1,.d (.int .i64 N)),(2,.fn 6 []),(6,.d (.int .i64 20)),(7,.d (.int .i64 P.length)),(8,.d (.int .i64 (P.length+20:Nat)))],[some (kc (P++R))]⟩=
  some (.exit 0,⟨[(0,.tsl true 0 3 N),(1,.d (.int .i64 N)),(2,.fn 6 []),(6,.d (.int .i64 20)),(7,.d (.int .i64 P.length)),(8,.d (.int .i64 (P.length+20:Nat))),(13,.d (.bool false))],[some (kc (P++R))]⟩):=fun P R h1 h2=>by
  refine qaL (head _ _ _) ?_ (by simp);have hlt:¬(((P.length+20:Nat):Int)<=(N:Int)):=by simp at h1;omega
  generalize ((P.length+20:Nat):Int)=v at*
  generalize (N:Int)=w at*
  simp[ql5,qtN,hlt]
 intro k
 induction k with
 |zero=>
  intro P R hk hN hin;exact⟨[],R,P.length,by omega,by simp,by simpa using hN,by simp,fun Q h=>by simpa using h,by simpa using stop P R hN (by omega)⟩
 |succ k ih=>
  intro P R hk hN hin
  by_cases hR:R.length<20
  ·exact⟨[],R,P.length,hR,by simp,by simpa using hN,by simp,fun Q h=>by simpa using h,by simpa using stop P R hN hR⟩
  ·have hC:(R.take 20).length=20:=by simp;omega
   have hCR:R.take 20++R.drop 20=R:=List.take_append_drop _ _;have hD:(R.drop 20).length=R.length-20:=by simp
   generalize R.take 20=C at hC hCR;generalize R.drop 20=D at hD hCR;subst hCR;have hNl:P.length+C.length+D.length=N:=by simp at hN;omega
   have e0:P++(C++D)=P++C++D:=by simp
   obtain⟨W,w1,w2,w3⟩:=qhv P C D P.length (P.length+20) N rfl (by omega) (by simp;omega) hn (fun t ht=>hin t (by rw[e0];exact ht));have hWl:W.length=20:=by rw[w1.length_eq,hC]
   have hPW:(P++W).length=P.length+20:=by simp;omega
   obtain⟨R1,R2,a,r1,r2,r3,r4,r5,r6⟩:=ih (P++W) D (by simp at hk;omega) (by simp;omega) (fun t ht=>hin t (by
    simp only[List.mem_append]at ht⊢
    rcases ht with(h|h)|h
    ·simp[h]
    ·simp[w1.mem_iff.1 h]
    ·simp[h]))
   refine⟨W++R1,R2,a,r1,by simp at r2⊢;omega,r3,?_,fun Q hQ=>by rw[List.append_assoc];exact .cons W _ hWl w2 (r5 Q hQ),?_⟩
   ·rw[List.append_assoc];exact w1.append r4
   ·have e1:P++(W++R1)++R2=P++W++R1++R2:=by simp
    rw[e1,<-r6,hPW,e0];refine qa7 (head _ _ _) ?_;have hle:(((P.length+20:Nat):Int)<=(N:Int)):=by omega
    have hw:IntKind.i64.wrap (((P.length+20:Nat):Int)+20)=((P.length+20+20:Nat):Int):=by rw[wrap_i64 (by omega) (by omega)];omega
    generalize kc (P++C++D)=c1 at w3⊢
    generalize kc (P++W++D)=c2 at w3⊢
    generalize ((P.length+20+20:Nat):Int)=gv2 at*
    generalize ((P.length+20:Nat):Int)=v at*
    generalize (P.length:Int)=u at*
    generalize hgn:(N:Int)=w at*
    simp[ql5,qtN,qGp,qGo,qGn,hle,hw,w3]
theorem qAP(N s:Nat)(hn:N<=1099511627776)(hs:0<s)(hs2:s<=1099511627776):∀(k:Nat) (P R:List T),R.length<=k->(P++R).length=N->(∀t,t∈P++R->t.inner<=1099511627776)->Blk s R->
 ∃(R1 R2:List T) (a:Nat),R2.length<2*s/\a=P.length+R1.length/\a+R2.length=N/\(R1++R2).Perm R/\Blk s R2/\(∀Q,Blk (2*s) Q->Blk (2*s) (R1++Q))/\
  qbj XV [] 1 [0,1,2,6,7,8] qrf ⟨[(0,.tsl true 0 3 N),(1,.d (.int .i64 N)),(2,.fn 6 []),(6,.d (.int .i64 s)),(7,.d (.int .i64 P.length)),(8,.d (.int .i64 (P.length+2*s:Nat)))],[some (kc (P++R))]⟩=
   some (.exit 4,⟨[(0,.tsl true 0 3 N),(1,.d (.int .i64 N)),(2,.fn 6 []),(6,.d (.int .i64 s)),(7,.d (.int .i64 a)),(8,.d (.int .i64 (a+2*s:Nat))),(35,.d (.bool false))],[some (kc (P++R1++R2))]⟩):=by
 have head:∀(x y:Int) (c:List AV),qag 1 [0,1,2,6,7,8] ⟨[(0,.tsl true 0 3 N),(1,.d (.int .i64 N)),(2,.fn 6 []),(6,.d (.int .i64 s)),(7,.d (.int .i64 x)),(8,.d (.int .i64 y))],[some c]⟩=some ⟨[(0,.tsl true 0 3 N),(1,.d (.int .i64 N)),(2,.fn 6 []),(6,.d (.int .i64 s)),(7,.d (.int .i64 x)),(8,.d (.int .i64 y))],[some c]⟩:=fun x y c=>by
  simp[qag,qad,qaW,qc1,qbg]
 have stop:∀(P R:List T),(P++R).length=N->R.length<2*s->qbj XV [] 1 [0,1,2,6,7,8] qrf ⟨[(0,.tsl true 0 3 N),(1,.d (.int .i64 N)),(2,.fn 6 []),(6,.d (.int .i64 s)),(7,.d (.int .i64 P.length)),(8,.d (.int .i64 (P.length+2*s:Nat)))],[some (kc (P++R))]⟩=
  some (.exit 4,⟨[(0,.tsl true 0 3 N),(1,.d (.int .i64 N)),(2,.fn 6 []),(6,.d (.int .i64 s)),(7,.d (.int .i64 P.length)),(8,.d (.int .i64 (P.length+2*s:Nat))),(35,.d (.bool false))],[some (kc (P++R))]⟩):=fun P R h1 h2=>by
  refine qaL (head _ _ _) ?_ (by simp);have hlt:¬(((P.length+2*s:Nat):Int)<=(N:Int)):=by simp at h1;omega
  generalize ((P.length+2*s:Nat):Int)=v at*
  generalize (N:Int)=w at*
  simp[qrf,qAa,hlt]
 intro k
 induction k with
 |zero=>
  intro P R hk hN hin hB;exact⟨[],R,P.length,by omega,by simp,by simpa using hN,by simp,hB,fun Q h=>by simpa using h,by simpa using stop P R hN (by omega)⟩
 |succ k ih=>
  intro P R hk hN hin hB
  by_cases hR:R.length<2*s
  ·exact⟨[],R,P.length,hR,by simp,by simpa using hN,by simp,hB,fun Q h=>by simpa using h,by simpa using stop P R hN hR⟩
  ·obtain⟨C1,C2,D,rfl,l1,l2,b1,b2,b3⟩:∃C1 C2 D,R=C1++(C2++D)/\C1.length=s/\C2.length=s/\Srt C1/\Srt C2/\Blk s D:=by
    cases hB with
    |last _ h1 _=>omega
    |cons c r h1 h2 h3=>
     cases h3 with
     |last _ h4 _=>simp at hR;omega
     |cons c' r' h4 h5 h6=>exact⟨c,c',r',rfl,h1,h4,h2,h5,h6⟩
   have hNl:P.length+C1.length+C2.length+D.length=N:=by simp at hN;omega
   have e0:P++(C1++(C2++D))=P++C1++C2++D:=by simp
   obtain⟨W,w1,w2,w3⟩:=qkk (C1.length+C2.length) P C1 C2 D P.length (P.length+s) (P.length+2*s) N (Nat.le_refl _) (by omega) (by omega) rfl (by omega) (by omega) (by simp;omega) hn (fun t ht=>hin t (by rw[e0];exact ht)) b1 b2;have hWl:W.length=2*s:=by rw[w1.length_eq];simp;omega
   have hPW:(P++W).length=P.length+2*s:=by simp;omega
   obtain⟨R1,R2,a,r1,r2,r3,r4,r5,r6,r7⟩:=ih (P++W) D (by simp at hk;omega) (by simp;omega) (fun t ht=>hin t (by
    simp only[List.mem_append]at ht⊢
    rcases ht with(h|h)|h
    ·simp[h]
    ·have:=w1.mem_iff.1 h
     simp only[List.mem_append]at this;rcases this with h|h<;>simp[h]
    ·simp[h])) b3
   refine⟨W++R1,R2,a,r1,by simp at r2⊢;omega,r3,?_,r5,fun Q hQ=>by rw[List.append_assoc];exact .cons W _ hWl w2 (r6 Q hQ),?_⟩
   ·rw[List.append_assoc]
    refine(w1.append r4).trans ?_;simp
   ·have e1:P++(W++R1)++R2=P++W++R1++R2:=by simp
    rw[e1,<-r7,hPW,e0];refine qa7 (head _ _ _) ?_;have hle:(((P.length+2*s:Nat):Int)<=(N:Int)):=by omega
    have hw:IntKind.i64.wrap (((P.length+2*s:Nat):Int)+((2*s:Nat):Int))=((P.length+2*s+2*s:Nat):Int):=by rw[wrap_i64 (by omega) (by omega)];omega
    have hw2:IntKind.i64.wrap (2*(s:Int))=((2*s:Nat):Int):=by rw[wrap_i64 (by omega) (by omega)];omega
    have hw3:IntKind.i64.wrap ((P.length:Int)+s)=((P.length+s:Nat):Int):=by rw[wrap_i64 (by omega) (by omega)];omega
    generalize kc (P++C1++C2++D)=c1 at w3⊢
    generalize kc (P++W++D)=c2 at w3⊢
    generalize ((P.length+2*s+2*s:Nat):Int)=gv2 at*
    generalize ((P.length+2*s:Nat):Int)=v at*
    generalize ((P.length+s:Nat):Int)=gv3 at*
    generalize ((2*s:Nat):Int)=gv4 at*
    generalize (P.length:Int)=u at*
    generalize (s:Int)=gs at*
    generalize hgn:(N:Int)=w at*
    simp[qrf,qAa,qAf,qAe,qAd,hle,hw,hw2,hw3,w3]
end Go.Proofs.Ytfiakfiocdfpbaa.VS
