/- Contracts of the program's functions on the evaluator without names, and plain lemmas: part 2. -/
import Derived.Test.YtbcbkiaineacpaaGreatXP1
set_option linter.unusedSimpArgs false
set_option linter.unusedVariables false
namespace Go.Proofs.YtbcbkiaineacpaaGreat.VS
def mk:Nat->Nat->List Int
 |0,_=>[]
 |n+1,k=>(k:Int)::mk n (k+1)
theorem qjq(B:qal)(n:Nat)(v:DV):AV.frzC B n (.d v)=some v:=by cases n<;>simp only[AV.frzC]
mutual
def T.nb:T->Nat
 | .node _ _ []=>0
 | .node _ _ (t::r)=>T.nbs (t::r)+1
def T.nbs:List T->Nat
 | []=>0
 |t::r=>t.nb+T.nbs r
end
def qev(ks:List T):Nat:=if ks=[]then 0 else T.nbs ks+1
theorem qgR(f v:Int)(ks:List T):(T.node f v ks).nb=qev ks:=by cases ks<;>simp[T.nb,qev]
def qd7(b:Nat)(ks:List T):AV:=if ks=[]then .d (qaa .sub [])else .tsl true (b+T.nbs ks) 3 ks.length
def qaL(b:Nat):List T->List AV
 | []=>[]
 | .node f v ks::r=> .d (.int .i64 f):: .d (.int .i64 v)::qd7 b ks::qaL (b+qev ks) r
mutual
def T.bx(b:Nat):T->qal
 | .node _ _ []=>[]
 | .node _ _ (t::r)=>T.bxs b (t::r)++[some (qaL b (t::r))]
def T.bxs(b:Nat):List T->qal
 | []=>[]
 |t::r=>t.bx b++T.bxs (b+t.nb) r
end
def qdO(b:Nat)(ks:List T):qal:=if ks=[]then []else T.bxs b ks++[some (qaL b ks)]
theorem qlR(b:Nat)(f v:Int)(ks:List T):(T.node f v ks).bx b=qdO b ks:=by cases ks<;>simp[T.bx,qdO]
mutual
theorem qFO:∀(t:T) (b:Nat),(t.bx b).length=t.nb
 | .node _ _ [],b=>rfl
 | .node _ _ (t::r),b=>by simp[T.bx,T.nb,qbm (t::r) b]
theorem qbm:∀(l:List T) (b:Nat),(T.bxs b l).length=T.nbs l
 | [],b=>rfl
 |t::r,b=>by simp[T.bxs,T.nbs,qFO t b,qbm r (b+t.nb)]
end
theorem qep(b:Nat)(ks:List T):(qdO b ks).length=qev ks:=by unfold qdO qev;split<;>simp[qbm]
theorem qir:∀(l:List T) (b:Nat),(qaL b l).length=3*l.length
 | [],b=>rfl
 | .node f v ks::r,b=>by simp[qaL,qir r];omega
theorem qeD:∀(a c:List T),T.nbs (a++c)=T.nbs a+T.nbs c
 | [],c=>by simp[T.nbs]
 |t::r,c=>by simp[T.nbs,qeD r c];omega
theorem qhc:∀(a c:List T) (b:Nat),qaL b (a++c)=qaL b a++qaL (b+T.nbs a) c
 | [],c,b=>by simp[qaL,T.nbs]
 | .node f v ks::r,c,b=>by simp[qaL,qhc r c,T.nbs,qgR,Nat.add_assoc]
theorem qnu:∀(a c:List T) (b:Nat),T.bxs b (a++c)=T.bxs b a++T.bxs (b+T.nbs a) c
 | [],c,b=>by simp[T.bxs,T.nbs]
 |t::r,c,b=>by simp[T.bxs,qnu r c,T.nbs,Nat.add_assoc]
theorem qRi(f v:Int)(x:DV)(b:Nat):qeZ b [.int .i64 f,.int .i64 v,x]=(.d (.int .i64 f):: .d (.int .i64 v)::(thw b x).1,(thw b x).2):=by simp[qeZ,thw]
mutual
theorem qWb:∀(t:T) (b:Nat),thw b (t.enc .sub)=([.d (.int .i64 t.f),.d (.int .i64 t.v),qd7 b t.kids],t.bx b)
 | .node f v [],b=>by simp[T.qbF,thw,qeZ,qd7,T.bx,qaa]
 | .node f v (t::r),b=>by
  have h:=qRh (t::r) b;rw[List.map_cons]at h;rw[T.qbF,T.qbg,T.qdQ,T.qbd];show qeZ b [.int .i64 f,.int .i64 v,.sl .sub (t.enc .sub::r.map (T.enc .sub))]=_;have hx:thw b (.sl .sub (t.enc .sub::r.map (T.enc .sub)))=([qd7 b (t::r)],T.bxs b (t::r)++[some (qaL b (t::r))]):=by
   simp only[thw];rw[h];have hl:=qbm (t::r) b;have ha:qtH (t.enc .sub)=true:=by rw[T.qbF];rfl
   simp[qd7,hl,ha]
  rw[qRi,hx];simp[T.bx]
theorem qRh:∀(l:List T) (b:Nat),qeZ b (l.map (T.enc .sub))=(qaL b l,T.bxs b l)
 | [],b=>by simp[qeZ,qaL,T.bxs]
 | .node f v ks::r,b=>by
  have h1:=qWb (.node f v ks) b;have h2:=qRh r (b+(T.node f v ks).nb);rw[List.map_cons];simp only[qeZ];rw[h1];simp only[qFO];rw[h2];simp[qaL,T.bxs,qgR]
end
theorem qBp(t:T)(b:Nat):(t.enc .sub).thaw b=(.ag false [.d (.int .i64 t.f),.d (.int .i64 t.v),qd7 b t.kids],qdO b t.kids):=by
 have h:=qWb t b;obtain⟨f,v,ks⟩:=t;rw[qlR]at h;rw[T.qbF]at h⊢
 simp only[DV.thaw,qaV];simp only[thw]at h;rw[h];rfl
theorem qfw(b:Nat)(ks:List T):(qd7 b ks).clr=qd7 b ks:=by
 unfold qd7;split
 ·simp[qaa,AV.clr,DV.clr,DV.clrs]
 ·simp only[AV.clr]
theorem qpO(m b:Nat)(ks:List T)(h:b+qev ks<=m):(qd7 b ks).safe m=true:=by
 unfold qd7 qev at*
 by_cases hl:ks=[]
 ·rw[if_pos hl];exact qaC _ _
 ·rw[if_neg hl]at h⊢;rw[qaE];simp;omega
theorem qly(b:Nat)(ks:List T):(qd7 b ks).isCell=true:=by
 unfold qd7;split<;>rfl
theorem qyz(b:Nat)(ks:List T):(qd7 b ks).plainT=true:=by
 unfold qd7;split
 ·simp[qaa,AV.plainT]
 ·rfl
def qaQ(l:List T):Nat:=l.length+T.inners l
theorem qbb(t:T):qaQ t.kids=t.inner:=by cases t;simp[qaQ,T.inner]
theorem qdT:∀(a c:List T),T.inners (a++c)=T.inners a+T.inners c
 | [],c=>by simp[T.inners]
 |t::r,c=>by simp[T.inners,qdT r c];omega
theorem qFt(l:List T)(t:T):qaQ (l++[t])=qaQ l+(t.inner+1):=by
 unfold qaQ;rw[qdT];simp[T.inners];omega
theorem qaH(t:T)(l:List T):qaQ (t::l)=(t.inner+1)+qaQ l:=by unfold qaQ;simp[T.inners];omega
mutual
def T.mark(k:Nat):T->T
 | .node _ _ ks=> .node (k:Int) ((k+1:Nat):Int) (T.marks (k+2) ks)
def T.marks(k:Nat):List T->List T
 | []=>[]
 |t::r=>t.mark k::T.marks (k+2*(t.inner+1)) r
end
theorem qhG:∀(l:List T) (k:Nat),(T.marks k l).length=l.length
 | [],k=>by simp[T.marks]
 |t::r,k=>by simp[T.marks,qhG r]
mutual
theorem qN1:∀(t:T) (k:Nat),(t.mark k).nb=t.nb
 | .node f v [],k=>by simp[T.mark,T.marks,T.nb]
 | .node f v (t::r),k=>by
  have:=qdt (t::r) (k+2);simp only[T.marks]at this;simp only[T.mark,T.marks,T.nb,this]
theorem qdt:∀(l:List T) (k:Nat),T.nbs (T.marks k l)=T.nbs l
 | [],k=>by simp[T.marks]
 |t::r,k=>by simp only[T.marks,T.nbs,qN1 t k,qdt r]
end
theorem qhF(l:List T)(k:Nat):(T.marks k l=[])↔l=[]:=by cases l<;>simp[T.marks]
theorem qbM(l:List T)(k:Nat):qev (T.marks k l)=qev l:=by unfold qev;simp only[qhF,qdt]
theorem qgl(b k:Nat)(l:List T):qd7 b (T.marks k l)=qd7 b l:=by
 unfold qd7;simp only[qhF,qdt,qhG]
theorem qiE:∀(l:List T) (k:Nat) (t:T),T.marks k (l++[t])=T.marks k l++[t.mark (k+2*qaQ l)]
 | [],k,t=>by simp[T.marks,qaQ,T.inners]
 |a::r,k,t=>by
  simp only[List.cons_append,T.marks,qiE r,qaH];rw[show k+2*(a.inner+1)+2*qaQ r=k+2*(a.inner+1+qaQ r)by omega]
def upT(ks:List T)(k i:Nat):List T:=T.marks k (ks.take i)++ks.drop i
theorem quF(ks:List T)(k:Nat):upT ks k 0=ks:=by simp[upT,T.marks]
theorem qMU(ks:List T)(k:Nat):upT ks k ks.length=T.marks k ks:=by simp[upT]
theorem qMT(ks:List T)(k i:Nat):T.nbs (upT ks k i)=T.nbs ks:=by
 unfold upT;rw[qeD,qdt,<-qeD,List.take_append_drop]
theorem qRf(ks:List T)(k i:Nat)(hi:i<ks.length):upT ks k i=T.marks k (ks.take i)++tAt ks i::ks.drop (i+1):=by
 unfold upT;rw[List.drop_eq_getElem_cons hi,qap hi]
theorem qdn(ks:List T)(i:Nat)(hi:i<ks.length):ks.take (i+1)=ks.take i++[tAt ks i]:=by
 rw[<-qap hi,List.take_append_getElem hi]
theorem qHf(ks:List T)(k i:Nat)(hi:i<ks.length):upT ks k (i+1)=T.marks k (ks.take i)++(tAt ks i).mark (k+2*qaQ (ks.take i))::ks.drop (i+1):=by
 unfold upT;rw[qdn ks i hi,qiE];simp
theorem qrt(ks:List T)(i:Nat)(hi:i<ks.length):qaQ (ks.take (i+1))=qaQ (ks.take i)+((tAt ks i).inner+1):=by rw[qdn ks i hi,qFt]
theorem qui(ks:List T)(i:Nat):qaQ (ks.take i)<=qaQ ks:=by
 have h:qaQ (ks.take i++ks.drop i)=qaQ (ks.take i)+qaQ (ks.drop i):=by unfold qaQ;rw[qdT];simp;omega
 rw[List.take_append_drop]at h;omega
theorem spA(A r:List AV)(y x:AV):splice (A++y::r) A.length [x]=A++x::r:=by unfold splice;simp
theorem sp0(C1 C2:List AV)(f x:AV)(i:Nat)(h:C1.length=i*3):splice (C1++f::C2) (i*3) [x]=C1++x::C2:=by
 rw[<-h];exact spA C1 C2 f x
theorem sp1(C1 C2:List AV)(f v x:AV)(i:Nat)(h:C1.length=i*3):splice (C1++f::v::C2) (i*3+1) [x]=C1++f::x::C2:=by
 have:=spA (C1++[f]) C2 v x;simp only[yg_,List.length_cons,List.length_nil,yh_,List.cons_append,List.nil_append,Nat.zero_add]at this;rw[<-h];exact this
theorem ga0(C1 C2:List AV)(f:AV)(i:Nat)(h:C1.length=i*3):(C1++f::C2)[i*3]?=some f:=by rw[<-h];simp
theorem ga1(C1 C2:List AV)(f v:AV)(i:Nat)(h:C1.length=i*3):(C1++f::v::C2)[i*3+1]?=some v:=by
 rw[<-h,yd_ (by omega)];simp
theorem ga2(C1 C2:List AV)(f v r:AV)(i:Nat)(h:C1.length=i*3):(C1++f::v::r::C2)[i*3+2]?=some r:=by
 rw[<-h,yd_ (by omega)];simp
theorem qIv(S S' B1:qal)(ix n i:Nat)(K0 K1 K2 Kn:Int)(C1 C2:List AV)(f v row:AV)(hS:S.length=ix)(hS':S'.length=ix)(hi:i<n)(hn:n<=1099511627776)(hC:C1.length=i*3)(hw1:IntKind.i64.wrap (K0+1)=K1)(hw2:IntKind.i64.wrap (K1+1)=K2)(hrow:row.clr=row)
 (hcall:qac XV 244 [row,.d (.int .i64 K2)] (S++some (C1++ .d (.int .i64 K0):: .d (.int .i64 K1)::row::C2)::B1)=some (.d (.int .i64 Kn),S'++some (C1++ .d (.int .i64 K0):: .d (.int .i64 K1)::row::C2)::B1)):
 qau XV (XV.lin 244) qlZ ⟨[(0,.tsl true ix 3 n),(1,.d (.int .i64 K0)),(5,.d (.int .i64 (i:Int)))],S++some (C1++f::v::row::C2)::B1⟩=
  some (.normal,⟨[(0,.tsl true ix 3 n),(1,.d (.int .i64 Kn)),(5,.d (.int .i64 ((i+1:Nat):Int)))],S'++some (C1++ .d (.int .i64 K0):: .d (.int .i64 K1)::row::C2)::B1⟩):=by
 have hw:=qae (n:=i) (by omega);have hget:∀(c:List AV) (r:qal),(S++some c::r)[ix]?=some (some c):=fun c r=>by rw[<-hS];exact get_at S (some c) r
 have hset:∀(c d:List AV) (r:qal),(S++some c::r).set ix (some d)=S++some d::r:=fun c d r=>by rw[<-hS];exact qBH S (some c) (some d) r
 have s0:=fun x=>sp0 C1 (v::row::C2) f x i hC
 have s1:=fun a x=>sp1 C1 (row::C2) a v x i hC
 have g2:=fun a b=>ga2 C1 C2 a b row i hC
 have le0:i*3+1<=C1.length+(C2.length+1+1+1):=by omega
 have le1:i*3+1+1<=C1.length+(C2.length+1+1+1):=by omega
 simp[qlZ,qwj,qwh,qwg,qwf,qwe,qwd,qwi,hi,hw,hw1,hw2,hget,hset,s0,s1,g2,le0,le1,hrow,hcall]
theorem qo7(M R:List T)(t:T)(b:Nat):T.bxs b (M++t::R)=T.bxs b M++(qdO (b+T.nbs M) t.kids++T.bxs (b+T.nbs M+qev t.kids) R):=by
 obtain⟨f,v,kk⟩:=t;rw[qnu];simp[T.bxs,qlR,qgR]
theorem qiq(M R:List T)(t:T)(b:Nat):qaL b (M++t::R)=qaL b M++ .d (.int .i64 t.f):: .d (.int .i64 t.v)::qd7 (b+T.nbs M) t.kids::qaL (b+T.nbs M+qev t.kids) R:=by
 obtain⟨f,v,kk⟩:=t;rw[qhc];simp[qaL]
theorem qLN(t:T)(k:Nat):(t.mark k).f=(k:Int):=by cases t;simp[T.mark]
theorem qLM(t:T)(k:Nat):(t.mark k).v=((k+1:Nat):Int):=by cases t;simp[T.mark]
theorem qhH(t:T)(k:Nat):(t.mark k).kids=T.marks (k+2) t.kids:=by cases t;simp[T.mark]
theorem qhb(b:Nat)(ks:List T)(h:ks≠[]):qd7 b ks= .tsl true (b+T.nbs ks) 3 ks.length:=by unfold qd7;rw[if_neg h]
theorem qic(b:Nat)(ks:List T)(h:ks≠[]):qdO b ks=T.bxs b ks++[some (qaL b ks)]:=by unfold qdO;rw[if_neg h]
theorem qyM(ks:List T)(hl:ks.length<=1099511627776)(hrec:∀t,t∈ks->∀(k:Nat),k+2*t.inner<=4611686018427387904->∀(B0 B1:qal),qac XV 244 [qd7 B0.length t.kids,.d (.int .i64 (k:Int))] (B0++qdO B0.length t.kids++B1)=some (.d (.int .i64 ((k+2*t.inner:Nat):Int)),B0++qdO B0.length (T.marks k t.kids)++B1))
 (k:Nat) (hk:k+2*qaQ ks<=4611686018427387904) (B0 B1:qal):
 qac XV 244 [qd7 B0.length ks,.d (.int .i64 (k:Int))] (B0++qdO B0.length ks++B1)=some (.d (.int .i64 ((k+2*qaQ ks:Nat):Int)),B0++qdO B0.length (T.marks k ks)++B1):=by
 rw[qah XV _ _ _ qPX rfl qAQ rfl]
 by_cases hne:ks=[]
 ·subst hne
  have h:=qag (X:=XV) (T:=XV.lin 244) (L:=(B0++B1).length) (live:=[0,1,5]) (b:=qlZ) (n:=0) (β:=Unit) (γ:=Unit) (st:=fun _ i=>⟨[(0,.d (.sl .sub [])),(1,.d (.int .i64 k)),(5,.d (.int .i64 i))],B0++B1⟩) (step:=fun _ _=> .inl ())
   (F:=fun _=>(.exit 0,⟨[(0,.d (.sl .sub [])),(1,.d (.int .i64 k)),(5,.d (.int .i64 0)),(9,.d (.bool false))],B0++B1⟩)) (R:=fun _=>(.ret,⟨[],[]⟩)) (fun a=>⟨by simp,by simp[qlZ,qwj,qwh,qwg,qwf,qwe,qwd,qwi]⟩) (fun a i hi=>by omega) 0 () 0 ⟨[(0,.d (.sl .sub [])),(1,.d (.int .i64 k)),(5,.d (.int .i64 0))],B0++B1⟩ rfl (qaO (e:=[]) (by simp) (by simp[qab]) rfl (by simp))
  simp only[runN,yg_,qEd]at h;have htk:List.take (B0.length+B1.length) (B0++B1)=B0++B1:=List.take_of_length_le (by simp);simp[qd7,qdO,T.marks,qaQ,T.inners,qaa,qPX,qCX,qCW,qCV];rw[h];simp[htk]
 ·have hmn:T.marks k ks≠[]:=fun h=>hne ((qhF ks k).1 h)
  rw[qhb _ _ hne,qic _ _ hne,qic _ _ hmn];have hlen:∀i,(B0++T.bxs B0.length (upT ks k i)).length=B0.length+T.nbs ks:=fun i=>by rw[yg_,qbm,qMT]
  have h:=qag (X:=XV) (T:=XV.lin 244) (L:=B0.length+T.nbs ks+(B1.length+1)) (live:=[0,1,5]) (b:=qlZ) (n:=ks.length) (γ:=Unit) (st:=fun(_:Unit) i=>⟨[(0,.tsl true (B0.length+T.nbs ks) 3 ks.length),(1,.d (.int .i64 ((k+2*qaQ (ks.take i):Nat):Int))),(5,.d (.int .i64 i))],(B0++T.bxs B0.length (upT ks k i))++some (qaL B0.length (upT ks k i))::B1⟩) (step:=fun _ _=> .inl ())
   (F:=fun _=>(.exit 0,⟨[(0,.tsl true (B0.length+T.nbs ks) 3 ks.length),(1,.d (.int .i64 ((k+2*qaQ ks:Nat):Int))),(5,.d (.int .i64 ks.length)),(9,.d (.bool false))],(B0++T.bxs B0.length (upT ks k ks.length))++some (qaL B0.length (upT ks k ks.length))::B1⟩)) (R:=fun _=>(.ret,⟨[],[]⟩))
   (fun _=>⟨by simp,by rw[List.take_length];generalize ((k+2*qaQ ks:Nat):Int)=K;simp[qlZ,qwj,qwh,qwg,qwf,qwe,qwd,qwi]⟩)
   (fun _ i hi=>by
    have hkt:k+2*qaQ (ks.take (i+1))<=4611686018427387904:=by have:=qui ks (i+1);omega
    have hct:=qrt ks i hi;have hr:=hrec _ (qav hi) (k+2*qaQ (ks.take i)+2) (by omega) (B0++T.bxs B0.length (T.marks k (ks.take i))) (T.bxs (B0.length+T.nbs (T.marks k (ks.take i))+qev (tAt ks i).kids) (ks.drop (i+1))++some (qaL B0.length (upT ks k (i+1)))::B1);have hl0:(B0++T.bxs B0.length (T.marks k (ks.take i))).length=B0.length+T.nbs (T.marks k (ks.take i)):=by rw[yg_,qbm]
    rw[hl0]at hr;have e1:=qRf ks k i hi;have e2:=qHf ks k i hi;have c1:=qiq (T.marks k (ks.take i)) (ks.drop (i+1)) (tAt ks i) B0.length;have c2:=qiq (T.marks k (ks.take i)) (ks.drop (i+1)) ((tAt ks i).mark (k+2*qaQ (ks.take i))) B0.length;have b1:=qo7 (T.marks k (ks.take i)) (ks.drop (i+1)) (tAt ks i) B0.length;have b2:=qo7 (T.marks k (ks.take i)) (ks.drop (i+1)) ((tAt ks i).mark (k+2*qaQ (ks.take i))) B0.length;rw[qhH,qbM]at b2;rw[qLN,qLM,qhH,qbM,qgl]at c2;rw[<-e1]at c1 b1;rw[<-e2]at c2 b2;have hS:(B0++T.bxs B0.length (T.marks k (ks.take i)))++qdO (B0.length+T.nbs (T.marks k (ks.take i))) (tAt ks i).kids++(T.bxs (B0.length+T.nbs (T.marks k (ks.take i))+qev (tAt ks i).kids) (ks.drop (i+1))++some (qaL B0.length (upT ks k (i+1)))::B1)=(B0++T.bxs B0.length (upT ks k i))++some (qaL B0.length (upT ks k (i+1)))::B1:=by rw[b1];simp
    have hS':(B0++T.bxs B0.length (T.marks k (ks.take i)))++qdO (B0.length+T.nbs (T.marks k (ks.take i))) (T.marks (k+2*qaQ (ks.take i)+2) (tAt ks i).kids)++(T.bxs (B0.length+T.nbs (T.marks k (ks.take i))+qev (tAt ks i).kids) (ks.drop (i+1))++some (qaL B0.length (upT ks k (i+1)))::B1)=(B0++T.bxs B0.length (upT ks k (i+1)))++some (qaL B0.length (upT ks k (i+1)))::B1:=by rw[b2];simp
    rw[hS,hS']at hr;rw[show k+2*qaQ (ks.take i)+2+2*(tAt ks i).inner=k+2*qaQ (ks.take (i+1))by omega]at hr;rw[c2]at hr;have hst:=qIv (B0++T.bxs B0.length (upT ks k i)) (B0++T.bxs B0.length (upT ks k (i+1))) B1 (B0.length+T.nbs ks) ks.length i ((k+2*qaQ (ks.take i):Nat):Int) ((k+2*qaQ (ks.take i)+1:Nat):Int) ((k+2*qaQ (ks.take i)+2:Nat):Int) ((k+2*qaQ (ks.take (i+1)):Nat):Int)
     (qaL B0.length (T.marks k (ks.take i))) (qaL (B0.length+T.nbs (T.marks k (ks.take i))+qev (tAt ks i).kids) (ks.drop (i+1))) (.d (.int .i64 (tAt ks i).f)) (.d (.int .i64 (tAt ks i).v)) (qd7 (B0.length+T.nbs (T.marks k (ks.take i))) (tAt ks i).kids) (hlen i) (hlen (i+1)) hi hl
     (by rw[qir,qhG,List.length_take];omega) (qae (by omega)) (qae (by omega)) (qfw _ _) hr
    rw[<-c1,<-c2]at hst;exact⟨_,hst,qaO (e:=[]) (by simp) (by simp[qab,qaE]) (by rw[yg_,hlen];simp) (by simp)⟩)
   ks.length () 0 ⟨[(0,.tsl true (B0.length+T.nbs ks) 3 ks.length),(1,.d (.int .i64 (k:Int))),(5,.d (.int .i64 0))],(B0++T.bxs B0.length ks)++some (qaL B0.length ks)::B1⟩ (by omega) (qaO (e:=[]) (by simp[qaQ,T.inners]) (by simp[qab,qaE]) (by rw[quF,yg_,yg_,qbm];simp) (by simp[quF]))
  rw[qdp,qMU]at h;simp only[qEd]at h;have hap:∀(X:qal) (c:List AV),B0++(X++[some c])++B1=(B0++X)++some c::B1:=fun X c=>by simp
  have hln2:((B0++T.bxs B0.length ks)++some (qaL B0.length ks)::B1).length=B0.length+T.nbs ks+(B1.length+1):=by simp[qbm];omega
  rw[hap,hap];have hln3:((B0++T.bxs B0.length (T.marks k ks))++some (qaL B0.length (T.marks k ks))::B1).length=B0.length+T.nbs ks+(B1.length+1):=by simp[qbm,qdt];omega
  generalize hQ:(B0++T.bxs B0.length ks)++some (qaL B0.length ks)::B1=Q at h hln2⊢
  generalize hQ':(B0++T.bxs B0.length (T.marks k ks))++some (qaL B0.length (T.marks k ks))::B1=Q' at h hln3⊢
  generalize ((k+2*qaQ ks:Nat):Int)=Kn at h⊢
  rw[<-hln2]at h;have htk:List.take Q.length Q'=Q':=List.take_of_length_le (by omega);simp[qPX,qCX,qCW,qCV];rw[h];simp[htk]
theorem qiF(ks:List T)(hl:qaQ ks<=1099511627776)(k:Nat)(hk:k+2*qaQ ks<=4611686018427387904)(B0 B1:qal):
 qac XV 244 [qd7 B0.length ks,.d (.int .i64 (k:Int))] (B0++qdO B0.length ks++B1)=some (.d (.int .i64 ((k+2*qaQ ks:Nat):Int)),B0++qdO B0.length (T.marks k ks)++B1):=
 qyM ks (by unfold qaQ at hl;omega) (fun t ht k hk B0 B1=>by
  have hin:=T.qay ht;have hct:qaQ t.kids<=1099511627776:=by rw[qbb];unfold qaQ at hl;omega
  have:=qiF t.kids hct k (by rw[qbb];exact hk) B0 B1;rw[qbb]at this;exact this) k hk B0 B1
termination_by SizeOf.sizeOf ks
decreasing_by
 have h1:=List.sizeOf_lt_of_mem ht;have h2:SizeOf.sizeOf t.kids<SizeOf.sizeOf t:=by cases t;simp[T.kids];omega
 omega
theorem qIJ(S B1:qal)(ix n i:Nat)(K0 K1 K2 Kn:Int)(C1 C2:List AV)(row:AV)(hS:S.length=ix)(hi:i<n)(hn:n<=1099511627776)(hC:C1.length=i*3)(hw1:IntKind.i64.wrap (K0+1)=K1)(hw2:IntKind.i64.wrap (K1+1)=K2)(hrow:row.clr=row)(hKn:¬Kn<0)
 (hcall:qac XV 292 [row,.d (.int .i64 K2)] (S++some (C1++ .d (.int .i64 K0):: .d (.int .i64 K1)::row::C2)::B1)=some (.d (.int .i64 Kn),S++some (C1++ .d (.int .i64 K0):: .d (.int .i64 K1)::row::C2)::B1)):
 qau XV (XV.lin 292) qlX ⟨[(0,.tsl true ix 3 n),(1,.d (.int .i64 K0)),(5,.d (.int .i64 (i:Int)))],S++some (C1++ .d (.int .i64 K0):: .d (.int .i64 K1)::row::C2)::B1⟩=
  some (.normal,⟨[(0,.tsl true ix 3 n),(1,.d (.int .i64 Kn)),(5,.d (.int .i64 ((i+1:Nat):Int)))],S++some (C1++ .d (.int .i64 K0):: .d (.int .i64 K1)::row::C2)::B1⟩):=by
 have hw:=qae (n:=i) (by omega);have hget:∀(c:List AV) (r:qal),(S++some c::r)[ix]?=some (some c):=fun c r=>by rw[<-hS];exact get_at S (some c) r
 have g0:=fun a=>ga0 C1 (.d (.int .i64 K1)::row::C2) a i hC
 have g1:=fun a b=>ga1 C1 (row::C2) a b i hC
 have g2:=fun a b=>ga2 C1 C2 a b row i hC
 simp[qlX,qvs,qvq,qvp,qvo,qvn,qvm,qvl,qoe,qod,qoc,qvr,hi,hw,hw1,hw2,hget,g0,g1,g2,hrow,hKn,hcall]
theorem qjm:∀(a c:List T) (k:Nat),T.marks k (a++c)=T.marks k a++T.marks (k+2*qaQ a) c
 | [],c,k=>by simp[T.marks,qaQ,T.inners]
 |t::r,c,k=>by
  simp only[List.cons_append,T.marks,qjm r,qaH];rw[show k+2*(t.inner+1)+2*qaQ r=k+2*(t.inner+1+qaQ r)by omega]
theorem qy5(ks:List T)(hl:ks.length<=1099511627776)(hrec:∀t,t∈ks->∀(k:Nat),k+2*t.inner<=4611686018427387904->∀(B0 B1:qal),qac XV 292 [qd7 B0.length t.kids,.d (.int .i64 (k:Int))] (B0++qdO B0.length (T.marks k t.kids)++B1)=some (.d (.int .i64 ((k+2*t.inner:Nat):Int)),B0++qdO B0.length (T.marks k t.kids)++B1))
 (k:Nat) (hk:k+2*qaQ ks<=4611686018427387904) (B0 B1:qal):
 qac XV 292 [qd7 B0.length ks,.d (.int .i64 (k:Int))] (B0++qdO B0.length (T.marks k ks)++B1)=some (.d (.int .i64 ((k+2*qaQ ks:Nat):Int)),B0++qdO B0.length (T.marks k ks)++B1):=by
 rw[qah XV _ _ _ qPQ rfl qAy rfl]
 by_cases hne:ks=[]
 ·subst hne
  have h:=qag (X:=XV) (T:=XV.lin 292) (L:=(B0++B1).length) (live:=[0,1,5]) (b:=qlX) (n:=0) (β:=Unit) (γ:=Unit) (st:=fun _ i=>⟨[(0,.d (.sl .sub [])),(1,.d (.int .i64 k)),(5,.d (.int .i64 i))],B0++B1⟩) (step:=fun _ _=> .inl ())
   (F:=fun _=>(.exit 0,⟨[(0,.d (.sl .sub [])),(1,.d (.int .i64 k)),(5,.d (.int .i64 0)),(9,.d (.bool false))],B0++B1⟩)) (R:=fun _=>(.ret,⟨[],[]⟩)) (fun a=>⟨by simp,by simp[qlX,qvs,qvq,qvp,qvo,qvn,qvm,qvl,qoe,qod,qoc,qvr]⟩) (fun a i hi=>by omega) 0 () 0 ⟨[(0,.d (.sl .sub [])),(1,.d (.int .i64 k)),(5,.d (.int .i64 0))],B0++B1⟩ rfl (qaO (e:=[]) (by simp) (by simp[qab]) rfl (by simp))
  simp only[runN,yg_,qD9]at h;have htk:List.take (B0.length+B1.length) (B0++B1)=B0++B1:=List.take_of_length_le (by simp);simp[qd7,qdO,T.marks,qaQ,T.inners,qaa,qPQ,qCs,qCr,qs4];rw[h];simp[htk]
 ·have hmn:T.marks k ks≠[]:=fun h=>hne ((qhF ks k).1 h)
  rw[qhb _ _ hne,qic _ _ hmn];have hlen:(B0++T.bxs B0.length (T.marks k ks)).length=B0.length+T.nbs ks:=by rw[yg_,qbm,qdt]
  have h:=qag (X:=XV) (T:=XV.lin 292) (L:=B0.length+T.nbs ks+(B1.length+1)) (live:=[0,1,5]) (b:=qlX) (n:=ks.length) (γ:=Unit) (st:=fun(_:Unit) i=>⟨[(0,.tsl true (B0.length+T.nbs ks) 3 ks.length),(1,.d (.int .i64 ((k+2*qaQ (ks.take i):Nat):Int))),(5,.d (.int .i64 i))],(B0++T.bxs B0.length (T.marks k ks))++some (qaL B0.length (T.marks k ks))::B1⟩) (step:=fun _ _=> .inl ())
   (F:=fun _=>(.exit 0,⟨[(0,.tsl true (B0.length+T.nbs ks) 3 ks.length),(1,.d (.int .i64 ((k+2*qaQ ks:Nat):Int))),(5,.d (.int .i64 ks.length)),(9,.d (.bool false))],(B0++T.bxs B0.length (T.marks k ks))++some (qaL B0.length (T.marks k ks))::B1⟩)) (R:=fun _=>(.ret,⟨[],[]⟩))
   (fun _=>⟨by simp,by rw[List.take_length];generalize ((k+2*qaQ ks:Nat):Int)=K;simp[qlX,qvs,qvq,qvp,qvo,qvn,qvm,qvl,qoe,qod,qoc,qvr]⟩)
   (fun _ i hi=>by
    have hkt:k+2*qaQ (ks.take (i+1))<=4611686018427387904:=by have:=qui ks (i+1);omega
    have hct:=qrt ks i hi;have hsp:T.marks k ks=T.marks k (ks.take i)++(tAt ks i).mark (k+2*qaQ (ks.take i))::T.marks (k+2*qaQ (ks.take (i+1))) (ks.drop (i+1)):=by
     have:ks=ks.take (i+1)++ks.drop (i+1):=(List.take_append_drop _ _).symm;rw[this,qjm,qdn ks i hi,qiE];rw[<-qdn ks i hi,<-this];simp
    have hr:=hrec _ (qav hi) (k+2*qaQ (ks.take i)+2) (by omega) (B0++T.bxs B0.length (T.marks k (ks.take i))) (T.bxs (B0.length+T.nbs (T.marks k (ks.take i))+qev (tAt ks i).kids) (T.marks (k+2*qaQ (ks.take (i+1))) (ks.drop (i+1)))++some (qaL B0.length (T.marks k ks))::B1);have hl0:(B0++T.bxs B0.length (T.marks k (ks.take i))).length=B0.length+T.nbs (T.marks k (ks.take i)):=by rw[yg_,qbm]
    rw[hl0]at hr;have c2:=qiq (T.marks k (ks.take i)) (T.marks (k+2*qaQ (ks.take (i+1))) (ks.drop (i+1))) ((tAt ks i).mark (k+2*qaQ (ks.take i))) B0.length;have b2:=qo7 (T.marks k (ks.take i)) (T.marks (k+2*qaQ (ks.take (i+1))) (ks.drop (i+1))) ((tAt ks i).mark (k+2*qaQ (ks.take i))) B0.length;rw[qhH,qbM,<-hsp]at b2;rw[qLN,qLM,qhH,qbM,qgl,<-hsp]at c2;have hS':(B0++T.bxs B0.length (T.marks k (ks.take i)))++qdO (B0.length+T.nbs (T.marks k (ks.take i))) (T.marks (k+2*qaQ (ks.take i)+2) (tAt ks i).kids)++(T.bxs (B0.length+T.nbs (T.marks k (ks.take i))+qev (tAt ks i).kids) (T.marks (k+2*qaQ (ks.take (i+1))) (ks.drop (i+1)))++some (qaL B0.length (T.marks k ks))::B1)=(B0++T.bxs B0.length (T.marks k ks))++some (qaL B0.length (T.marks k ks))::B1:=by rw[b2];simp
    rw[hS']at hr;rw[show k+2*qaQ (ks.take i)+2+2*(tAt ks i).inner=k+2*qaQ (ks.take (i+1))by omega]at hr;rw[c2]at hr;have hst:=qIJ (B0++T.bxs B0.length (T.marks k ks)) B1 (B0.length+T.nbs ks) ks.length i ((k+2*qaQ (ks.take i):Nat):Int) ((k+2*qaQ (ks.take i)+1:Nat):Int) ((k+2*qaQ (ks.take i)+2:Nat):Int) ((k+2*qaQ (ks.take (i+1)):Nat):Int)
     (qaL B0.length (T.marks k (ks.take i))) (qaL (B0.length+T.nbs (T.marks k (ks.take i))+qev (tAt ks i).kids) (T.marks (k+2*qaQ (ks.take (i+1))) (ks.drop (i+1)))) (qd7 (B0.length+T.nbs (T.marks k (ks.take i))) (tAt ks i).kids) hlen hi hl
     (by rw[qir,qhG,List.length_take];omega) (qae (by omega)) (qae (by omega)) (qfw _ _) (by omega) hr
    rw[<-c2]at hst;exact⟨_,hst,qaO (e:=[]) (by simp) (by simp[qab,qaE]) (by rw[yg_,hlen];simp) (by simp)⟩)
   ks.length () 0 ⟨[(0,.tsl true (B0.length+T.nbs ks) 3 ks.length),(1,.d (.int .i64 (k:Int))),(5,.d (.int .i64 0))],(B0++T.bxs B0.length (T.marks k ks))++some (qaL B0.length (T.marks k ks))::B1⟩ (by omega) (qaO (e:=[]) (by simp[qaQ,T.inners]) (by simp[qab,qaE]) (by rw[yg_,hlen];simp) (by simp))
  rw[qdp]at h;simp only[qD9]at h;have hap:∀(X:qal) (c:List AV),B0++(X++[some c])++B1=(B0++X)++some c::B1:=fun X c=>by simp
  rw[hap];have hln3:((B0++T.bxs B0.length (T.marks k ks))++some (qaL B0.length (T.marks k ks))::B1).length=B0.length+T.nbs ks+(B1.length+1):=by simp[qbm,qdt];omega
  generalize hQ':(B0++T.bxs B0.length (T.marks k ks))++some (qaL B0.length (T.marks k ks))::B1=Q' at h hln3⊢
  generalize ((k+2*qaQ ks:Nat):Int)=Kn at h⊢
  rw[<-hln3]at h;simp[qPQ,qCs,qCr,qs4];rw[h];simp
theorem qnd(ks:List T)(hl:qaQ ks<=1099511627776)(k:Nat)(hk:k+2*qaQ ks<=4611686018427387904)(B0 B1:qal):
 qac XV 292 [qd7 B0.length ks,.d (.int .i64 (k:Int))] (B0++qdO B0.length (T.marks k ks)++B1)=some (.d (.int .i64 ((k+2*qaQ ks:Nat):Int)),B0++qdO B0.length (T.marks k ks)++B1):=
 qy5 ks (by unfold qaQ at hl;omega) (fun t ht k hk B0 B1=>by
  have hin:=T.qay ht;have hct:qaQ t.kids<=1099511627776:=by rw[qbb];unfold qaQ at hl;omega
  have:=qnd t.kids hct k (by rw[qbb];exact hk) B0 B1;rw[qbb]at this;exact this) k hk B0 B1
termination_by SizeOf.sizeOf ks
decreasing_by
 have h1:=List.sizeOf_lt_of_mem ht;have h2:SizeOf.sizeOf t.kids<SizeOf.sizeOf t:=by cases t;simp[T.kids];omega
 omega
theorem qq0(kk:List T)(h:∀(n:Nat) (P Q:qal),T.nbs kk<=n->qiK (AV.frzC (P++T.bxs P.length kk++Q) n) (qaL P.length kk)=some (flat (kk.map (T.enc .sub))))(n:Nat)(P Q:qal)(hn:qev kk<=n):
 AV.frzC (P++qdO P.length kk++Q) n (qd7 P.length kk)=some (qaa .sub kk):=by
 by_cases hk:kk=[]
 ·subst hk;simp only[qd7,if_true];exact qjq _ _ _
 ·unfold qev at hn
  rw[if_neg hk]at hn;obtain⟨m,rfl⟩:∃m,n=m+1:=⟨n-1,by omega⟩;rw[qhb _ _ hk,qic _ _ hk];have hB:P++(T.bxs P.length kk++[some (qaL P.length kk)])++Q=P++T.bxs P.length kk++(some (qaL P.length kk)::Q):=by simp
  rw[hB];have hl:(P++T.bxs P.length kk).length=P.length+T.nbs kk:=by rw[yg_,qbm]
  have hg:qcu (P++T.bxs P.length kk++(some (qaL P.length kk)::Q)) (P.length+T.nbs kk)=some (qaL P.length kk):=by
   unfold qcu;rw[<-hl,get_at]
  simp only[AV.frzC];rw[hg,Option.bind_some,h m P _ (by omega),Option.bind_some];have hok:=qo0 .sub kk;have hfl:(flat (kk.map (T.enc .sub))).length=kk.length*3:=by
   rw[qck (fun x hx=>(hok x hx).1)];simp
  rw[if_pos hfl];have hch:=qcG (kk.map (T.enc .sub)) hok;rw[List.length_map]at hch;rw[hch];rfl
theorem qoU(l:List T)(n:Nat)(P Q:qal)(hn:T.nbs l<=n):qiK (AV.frzC (P++T.bxs P.length l++Q) n) (qaL P.length l)=some (flat (l.map (T.enc .sub))):=by
 match l,hn with
 | [],hn=>rfl
 | .node f v kk::r,hn=>
  simp only[T.nbs,qgR]at hn;have h1:=qq0 kk (fun n P Q hn=>qoU kk n P Q hn) n P (T.bxs (P.length+qev kk) r++Q) (by omega);have h2:=qoU r n (P++qdO P.length kk) Q (by omega);have hl:(P++qdO P.length kk).length=P.length+qev kk:=by rw[yg_,qep]
  rw[hl]at h2;have hB1:P++qdO P.length kk++(T.bxs (P.length+qev kk) r++Q)=P++T.bxs P.length (.node f v kk::r)++Q:=by simp[T.bxs,qlR,qgR]
  have hB2:P++qdO P.length kk++T.bxs (P.length+qev kk) r++Q=P++T.bxs P.length (.node f v kk::r)++Q:=by simp[T.bxs,qlR,qgR]
  rw[hB1]at h1;rw[hB2]at h2;simp only[qaL,qeL,qjq,h1,h2,qeK,List.map_cons];simp[flat]
termination_by SizeOf.sizeOf l
theorem qq1(kk:List T)(n:Nat)(P Q:qal)(hn:qev kk<=n):AV.frzC (P++qdO P.length kk++Q) n (qd7 P.length kk)=some (qaa .sub kk):=
 qq0 kk (fun n P Q hn=>qoU kk n P Q hn) n P Q hn
def tAg(b:Nat)(t:T):AV:=if t.kids=[]then .d (t.enc .sub)else .ag false [.d (.int .i64 t.f),.d (.int .i64 t.v),qd7 b t.kids]
theorem qOR(t:T)(P Q:qal):AV.frz (P++qdO P.length t.kids++Q) (tAg P.length t)=some (t.enc .sub):=by
 unfold tAg
 by_cases hk:t.kids=[]
 ·rw[if_pos hk,qUv]
 ·rw[if_neg hk]
  have h:=qq1 t.kids (P++qdO P.length t.kids++Q).length P Q (by simp[qep];omega);simp only[AV.frz,qeL,qxe,qjq,h,qeK,Option.bind_some];rw[T.qbF];simp[qaf,qai,qaa]
theorem qRm(b:Nat)(t:T):qiP [.d (.int .i64 t.f),.d (.int .i64 t.v),qd7 b t.kids] (qud (.int .i64 t.f) (qud (.int .i64 t.v) (qaG [qd7 b t.kids])))=some (tAg b t):=by
 unfold tAg
 by_cases hk:t.kids=[]
 ·rw[if_pos hk,T.qbF,hk]
  rfl
 ·rw[if_neg hk,qhb _ _ hk]
  simp
theorem qBu(b:Nat)(t:T):(tAg b t).cells=[.d (.int .i64 t.f),.d (.int .i64 t.v),qd7 b t.kids]:=by
 unfold tAg
 by_cases hk:t.kids=[]
 ·rw[if_pos hk,T.qbF,hk]
  rfl
 ·rw[if_neg hk];rfl
theorem qHo(m b:Nat)(t:T)(h:b+qev t.kids<=m):(tAg b t).safe m=true:=by
 unfold tAg;split
 ·exact qaC _ _
 ·rw[qsA];simp[qgn,qbi,qaC,qpO _ _ _ h]
theorem qBt(b:Nat)(t:T):(tAg b t).clr=tAg b t:=by
 unfold tAg;split
 ·simp only[AV.clr,T.qec]
 ·simp[AV.clr,AV.clrs,DV.clr,qfw]
theorem qtB(t:T)(ht:t.inner<=1099511627776)(k:Nat)(hk:k<=1000000000000)(B0 B1:qal):
 qac XV 308 [tAg B0.length t,.d (.int .i64 (k:Int))] (B0++qdO B0.length t.kids++B1)=some (.d (.int .i64 ((k+2*t.inner:Nat):Int)),B0++qdO B0.length (T.marks k t.kids)++B1):=by
 rw[qah XV _ _ _ qQP rfl qAs rfl];have h:=qiF t.kids (by rw[qbb];exact ht) k (by rw[qbb];omega) B0 (B1++[some [.d (.int .i64 t.f),.d (.int .i64 t.v),qd7 B0.length t.kids]]);rw[qbb,<-yh_,<-yh_]at h;have hc:=qBu B0.length t;have hs:=qHo (B0++qdO B0.length t.kids++B1).length B0.length t (by simp[qep]);have hcl:=qBt B0.length t;have hrc:=qfw B0.length t.kids;have hri:=qly B0.length t.kids;have hlen:(B0++qdO B0.length (T.marks k t.kids)++B1).length=(B0++qdO B0.length t.kids++B1).length:=by simp[qep,qbM]
 generalize B0++qdO B0.length t.kids++B1=B at h hs hlen⊢
 generalize B0++qdO B0.length (T.marks k t.kids)++B1=B' at h hlen⊢
 generalize ((k+2*t.inner:Nat):Int)=Kn at h⊢
 generalize tAg B0.length t=y at hc hs hcl⊢
 generalize qd7 B0.length t.kids=row at h hc hrc hri⊢
 have hg:∀c:List AV,(B++[some c])[B.length]?=some (some c):=fun c=>by simp
 have htk:∀c:List AV,List.take B.length (B'++[some c])=B':=fun c=>by rw[<-hlen];simp
 simp[qQP,qJ8,qJ7,qJ6,hc,hs,hrc,hri,h,qam,qaf,htk]
theorem qF8(b:Bool):(DV.bool b).allUT=true:=rfl
theorem qig(a c:List T)(g:Tag)(h:(a.length+c.length)*40<=140737488355328):qa7 3 40 (.sl U (a.map (T.enc U))) (.sl g (c.map (T.enc U)))=some (.sl U ((a++c).map (T.enc U))):=by
 have h1:(c.map (T.enc U)).all (fun e=>decide (e.cells.length=3/\e.cells.all DV.isCell=true))=true:=by
  simp[qaf,qai]
 have h2:(a.map (T.enc U)).all (fun e=>decide (e.cells.length=3))=true:=by simp
 unfold qa7;simp only;rw[if_pos h1];cases c with
 |nil=>simp
 |cons x r=>
  simp only[List.map_cons,List.isEmpty_cons,Bool.false_eq_true,if_false];rw[if_pos ⟨by simpa using h,trivial,h2⟩];simp
theorem qpb(l:List T)(i:Nat)(h:i<l.length)(hl:l.length<=1099511627776):qa7 3 40 (.sl U ((l.take i).map (T.enc U))) (.sl U [(tAt l i).enc U])=some (.sl U ((l.take (i+1)).map (T.enc U))):=by
 have:=qig (l.take i) [tAt l i] U (by simp;omega);rw[qdn l i h];exact this
theorem qEo(f v:Int)(ks:List T)(hl:ks.length<=1099511627776)(hc:∀t,t∈ks->qac XV 146 [.d (t.enc .sub)] []=some (.d (t.enc U),[])):
 qac XV 146 [.d ((T.node f v ks).enc .sub)] []=some (.d ((T.node f v ks).enc U),[]):=by
 rw[qah XV _ _ _ qRd rfl qA5 rfl];have hloop:=qag (X:=XV) (T:=XV.lin 146) (L:=3) (live:=[1,2,3,4]) (b:=qxI) (n:=ks.length) (γ:=Unit) (st:=fun(_:Unit) i=>⟨[(1,.ptr 0 0),(2,.ptr 1 0),(3,.ptr 2 0),(4,.d (.int .i64 i))],[some [.d (.int .i64 f),.d (.int .i64 v),.d (qaa .sub ks)],some [.d (.int .i64 0),.d (.int .i64 0),.d (.sl U [])],some [.d (.int .i64 f),.d (.int .i64 v),.d (.sl U ((ks.take i).map (T.enc U)))]]⟩) (step:=fun _ _=> .inl ())
  (F:=fun _=>(.exit 0,⟨[(1,.ptr 0 0),(2,.ptr 1 0),(3,.ptr 2 0),(4,.d (.int .i64 ks.length)),(14,.d (.bool false))],[some [.d (.int .i64 f),.d (.int .i64 v),.d (qaa .sub ks)],some [.d (.int .i64 0),.d (.int .i64 0),.d (.sl U [])],some [.d (.int .i64 f),.d (.int .i64 v),.d (.sl U ((ks.take ks.length).map (T.enc U)))]]⟩)) (R:=fun _=>(.ret,⟨[],[]⟩))
  (fun _=>⟨by simp,by simp[qxI,qDL,qDK]⟩)
  (fun _ i hi=>by
   have hw:=qae (n:=i) (by omega);have hc':=hc _ (qav hi);have ha:=qpb ks i hi hl;generalize hl2:(ks.take (i+1)).map (T.enc U)=l2 at ha;generalize (ks.take i).map (T.enc U)=l1 at ha⊢
   exact⟨⟨[(1,.ptr 0 0),(2,.ptr 1 0),(3,.ptr 2 0),(4,.d (.int .i64 (i+1:Nat)))],[some [.d (.int .i64 f),.d (.int .i64 v),.d (qaa .sub ks)],some [.d (.int .i64 0),.d (.int .i64 0),.d (.sl U [])],some [.d (.int .i64 f),.d (.int .i64 v),.d (.sl U l2)]]⟩,by simp[qxI,qDL,qU7,qDK,hi,hw,cut,qap hi,hc',ha,splice,AV.qaA,qaf,qai,qam,qaC],by simp[qad,qab,<-hl2]⟩)
  ks.length () 0 ⟨[(1,.ptr 0 0),(2,.ptr 1 0),(3,.ptr 2 0),(4,.d (.int .i64 0))],[some [.d (.int .i64 f),.d (.int .i64 v),.d (qaa .sub ks)],some [.d (.int .i64 0),.d (.int .i64 0),.d (.sl U [])],some [.d (.int .i64 f),.d (.int .i64 v),.d (.sl U [])]]⟩ (by omega) (by simp[qad,qab])
 rw[qdp,List.take_length]at hloop;simp only[qOB,qaa]at hloop;simp[qRd,qLw,qLv,qLu,qLt,splice,qaf,qai,qam,qaC,qak];rw[hloop];simp[splice,qaf,qai,qam,qaC,qak]
theorem qf8(t:T)(ht:t.inner<=1099511627776):qac XV 146 [.d (t.enc .sub)] []=some (.d (t.enc U),[]):=by
 match t,ht with
 | .node f v ks,ht=>
  simp only[T.inner]at ht;exact qEo f v ks (by omega) fun s hs=>qf8 s (by have:=T.qay hs;omega)
termination_by t
decreasing_by
 simp_wf
 have:=List.sizeOf_lt_of_mem hs;omega
theorem qjt(ks:List T)(hl:ks.length<=1099511627776)(hc:∀t,t∈ks->qac XV 150 [.d (t.enc .sub)] []=some (.d (t.enc U),[])):
 qac XV 151 [.d (qaa .sub ks)] []=some (.d (qaa U ks),[]):=by
 rw[qah XV _ _ _ qQ9 rfl qA1 rfl];have hloop:=qag (X:=XV) (T:=XV.lin 151) (L:=0) (live:=[3,7,8,9]) (b:=qxH) (n:=ks.length) (γ:=Unit) (st:=fun(_:Unit) i=>⟨[(3,.d (.sl U ((ks.take i).map (T.enc U)))),(7,.d (qaa .sub ks)),(8,.d (.int .i64 ks.length)),(9,.d (.int .i64 i))],[]⟩) (step:=fun _ _=> .inl ())
  (F:=fun _=>(.exit 0,⟨[(3,.d (.sl U ((ks.take ks.length).map (T.enc U)))),(7,.d (qaa .sub ks)),(8,.d (.int .i64 ks.length)),(9,.d (.int .i64 ks.length)),(10,.d (.bool false))],[]⟩)) (R:=fun _=>(.ret,⟨[],[]⟩))
  (fun _=>⟨by simp,by simp[qxH,qDI,qDH,qDG,qDF]⟩)
  (fun _ i hi=>by
   have hw:=qae (n:=i) (by omega);have hc':=hc _ (qav hi);have ha:=qpb ks i hi hl;generalize hl2:(ks.take (i+1)).map (T.enc U)=l2 at ha;generalize (ks.take i).map (T.enc U)=l1 at ha⊢
   exact⟨⟨[(3,.d (.sl U l2)),(7,.d (qaa .sub ks)),(8,.d (.int .i64 ks.length)),(9,.d (.int .i64 (i+1:Nat)))],[some [.d (.int .i64 (tAt ks i).f),.d (.int .i64 (tAt ks i).v),.d (qaa .sub (tAt ks i).kids)]]⟩,by simp[qxH,qDI,qDH,qDG,qDF,hi,hw,cut,qap hi,hc',ha,splice,qaf,qai,qam,qaC,qak],qaO (e:=[some [.d (.int .i64 (tAt ks i).f),.d (.int .i64 (tAt ks i).v),.d (qaa .sub (tAt ks i).kids)]]) (by simp[<-hl2]) (by simp[qab]) (by simp) (by simp)⟩)
  ks.length () 0 ⟨[(3,.d (.sl U [])),(7,.d (qaa .sub ks)),(8,.d (.int .i64 ks.length)),(9,.d (.int .i64 0))],[]⟩ (by omega) (by simp[qad,qab])
 rw[qdp,List.take_length]at hloop;simp only[qOz]at hloop;simp[qQ9,qLk,qLj,qLi,qLh];rw[hloop];simp
theorem qub(f v:Int)(ks:List T)(h:qac XV 151 [.d (qaa .sub ks)] []=some (.d (qaa U ks),[])):qac XV 150 [.d ((T.node f v ks).enc .sub)] []=some (.d ((T.node f v ks).enc U),[]):=by
 rw[qah XV _ _ _ qRa rfl qA2 rfl];simp only[qaa]at h;simp[qRa,qLn,qLm,qLl,h,splice,qaf,qai,qam,qaC,qak]
theorem qgZ(t:T)(ht:t.inner<=1099511627776):qac XV 150 [.d (t.enc .sub)] []=some (.d (t.enc U),[]):=by
 match t,ht with
 | .node f v ks,ht=>
  simp only[T.inner]at ht;exact qub f v ks (qjt ks (by omega) fun s hs=>qgZ s (by have:=T.qay hs;omega))
termination_by t
decreasing_by
 simp_wf
 have:=List.sizeOf_lt_of_mem hs;omega
theorem qrs(ks:List T)(hl:qaQ ks<=1099511627776):qac XV 151 [.d (qaa .sub ks)] []=some (.d (qaa U ks),[]):=
 qjt ks (by unfold qaQ at hl;omega) fun s hs=>qgZ s (by have:=T.qay hs;unfold qaQ at hl;omega)
theorem qIB(n:Int):qac XV 147 [.d (.int .i64 n)] []=some (.d ((T.node (-1) n []).enc U),[]):=by
 rw[qah XV _ _ _ qRc rfl qA4 rfl];simp[qRc,qLs,qLr,splice,qaf,qai,qam,qaC,qak];rw[T.qbF];rfl
def qbP(l:List Bd)(n:Int):Option Nat:=qaw (fun i=>(bAt l i).v==n) l.length 0
def qoI(l:List Bd)(n:Int):T:=match qbP l n with
 |some i=>(bAt l i).t
 |none=> .node (-1) n []
theorem qgL(l:List Bd)(n:Int)(hl:l.length<=1099511627776)(hb:∀i,i<l.length->(bAt l i).t.inner<=1099511627776):qac XV 145 [.d (binds .sub l),.d (.int .i64 n)] []=some (.d ((qoI l n).enc U),[]):=by
 rw[qah XV _ _ _ qRe rfl qA6 rfl];have h:=qag (X:=XV) (T:=XV.lin 145) (L:=1) (live:=[0,1,4,5]) (b:=qrS) (n:=l.length) (st:=fun(_:Unit) i=>⟨[(0,.d (binds .sub l)),(1,.d (.int .i64 n)),(4,.ptr 0 0),(5,.d (.int .i64 i))],[some [.d (.int .i64 0),.d (.int .i64 0),.d (.sl U [])]]⟩) (step:=qb3 fun i=>(bAt l i).v==n)
  (F:=fun _=>(.exit 0,⟨[(0,.d (binds .sub l)),(1,.d (.int .i64 n)),(4,.ptr 0 0),(5,.d (.int .i64 l.length)),(9,.d (.bool false))],[some [.d (.int .i64 0),.d (.int .i64 0),.d (.sl U [])]]⟩)) (R:=fun(j:Nat)=>(.ret,⟨[(4,.ptr 0 0)],[some [.d (.int .i64 (bAt l j).t.f),.d (.int .i64 (bAt l j).t.v),.d (qaa U (bAt l j).t.kids)]]⟩))
  (fun a=>⟨by simp,by simp[qrS,qwM,qwK,qwJ,qwL]⟩)
  (fun a i hi=>by
   have hw:=qae (n:=i) (by omega);have hc:=qf8 (bAt l i).t (hb i hi);unfold qb3
   by_cases hq:((bAt l i).v==n)=true
   ·rw[if_pos hq]
    exact⟨by simp,by simp[qrS,qwM,qwK,qwJ,qwL,hi,cut,qbR hi,hq,hc,splice,qaf,qai,qam,qaC]⟩
   ·rw[if_neg hq]
    have hq':((bAt l i).v==n)=false:=by simpa using hq
    exact⟨_,by simp[qrS,qwM,qwK,qwJ,qwL,hi,hw,cut,qbR hi,hq'];rfl,by simp[qad,qab]⟩)
  l.length () 0 ⟨[(0,.d (binds .sub l)),(1,.d (.int .i64 n)),(4,.ptr 0 0),(5,.d (.int .i64 0))],[some [.d (.int .i64 0),.d (.int .i64 0),.d (.sl U [])]]⟩ (by omega) (by simp[qad,qab])
 rw[qpk]at h;simp only[qOC,binds]at h;unfold qoI qbP;simp[qRe,qLz,qLy,qLx];rw[h];have hv:=qIB n;cases hq:qaw (fun i=>(bAt l i).v==n) l.length 0 with
 |none=>
  simp[hv,splice,qaf,qai,qam,qaC,qak]
 |some j=>
  simp[qak]
theorem qjV(l:List Bd)(n:Int)(hl:l.length<=1099511627776):qac XV 148 [.d (binds .sub l),.d (.int .i64 n)] []=some (.d (match qbP l n with|some j=> .tup [(bAt l j).t.enc .sub,.bool true]|none=> .tup [(T.node 0 0 []).enc .sub,.bool false]),[]):=by
 rw[qah XV _ _ _ qRb rfl qA3 rfl];have h:=qag (X:=XV) (T:=XV.lin 148) (L:=1) (live:=[1,4,8,9,10]) (b:=qrR) (n:=l.length) (st:=fun(_:Unit) i=>⟨[(1,.d (.int .i64 n)),(4,.ptr 0 0),(8,.d (binds .sub l)),(9,.d (.int .i64 l.length)),(10,.d (.int .i64 i))],[some [.d (.int .i64 0),.d (.int .i64 0),.d (.sl U [])]]⟩) (step:=qb3 fun i=>(bAt l i).v==n)
  (F:=fun _=>(.exit 0,⟨[(1,.d (.int .i64 n)),(4,.ptr 0 0),(8,.d (binds .sub l)),(9,.d (.int .i64 l.length)),(10,.d (.int .i64 l.length)),(11,.d (.bool false))],[some [.d (.int .i64 0),.d (.int .i64 0),.d (.sl U [])]]⟩)) (R:=fun(j:Nat)=>(.ret,⟨[(4,.ptr 0 0),(5,.d (.bool true))],[some [.d (.int .i64 (bAt l j).t.f),.d (.int .i64 (bAt l j).t.v),.d (qaa .sub (bAt l j).t.kids)],some [.d (.int .i64 (bAt l j).v),.d (.int .i64 (bAt l j).t.f),.d (.int .i64 (bAt l j).t.v),.d (qaa .sub (bAt l j).t.kids)]]⟩))
  (fun a=>⟨by simp,by simp[qrR,qwI,qwH,qwG,qwF,qwE]⟩)
  (fun a i hi=>by
   have hw:=qae (n:=i) (by omega);unfold qb3
   by_cases hq:((bAt l i).v==n)=true
   ·rw[if_pos hq]
    exact⟨by simp,by simp[qrR,qwI,qwH,qwG,qwF,qwE,hi,cut,qbR hi,hq,splice,AV.qaA,qaf,qai,qam,qaC,qak]⟩
   ·rw[if_neg hq]
    have hq':((bAt l i).v==n)=false:=by simpa using hq
    exact⟨⟨[(1,.d (.int .i64 n)),(4,.ptr 0 0),(8,.d (binds .sub l)),(9,.d (.int .i64 l.length)),(10,.d (.int .i64 (i+1:Nat)))],[some [.d (.int .i64 0),.d (.int .i64 0),.d (.sl U [])],some [.d (.int .i64 (bAt l i).v),.d (.int .i64 (bAt l i).t.f),.d (.int .i64 (bAt l i).t.v),.d (qaa .sub (bAt l i).t.kids)]]⟩,by simp[qrR,qwI,qwH,qwG,qwF,qwE,hi,hw,cut,qbR hi,hq',splice,qaf,qai,qam,qaC,qak],qaO (e:=[some [.d (.int .i64 (bAt l i).v),.d (.int .i64 (bAt l i).t.f),.d (.int .i64 (bAt l i).t.v),.d (qaa .sub (bAt l i).t.kids)]]) (by simp) (by simp[qab]) (by simp) (by simp)⟩)
  l.length () 0 ⟨[(1,.d (.int .i64 n)),(4,.ptr 0 0),(8,.d (binds .sub l)),(9,.d (.int .i64 l.length)),(10,.d (.int .i64 0))],[some [.d (.int .i64 0),.d (.int .i64 0),.d (.sl U [])]]⟩ (by omega) (by simp[qad,qab])
 rw[qpk]at h;simp only[qOA,binds]at h;unfold qbP;simp[qRb,qLq,qLp,qLo];rw[h];cases hq:qaw (fun i=>(bAt l i).v==n) l.length 0 with
 |none=>
  simp[splice,qaf,qai,qam,qaC,qak];rw[T.qbF];rfl
 |some j=>
  simp[qak]
theorem qOE(l:List T)(t:T)(hl:l.length<=1099511627776)(bl:∀x,x∈l->x.inner<=1099511627776)(ht:t.inner<=1099511627776):
 qac XV 259 [.d (qaa .sub l),.d (t.enc .sub)] []=some (.d (.int .i64 (qgQ (qaw (qcW l t) l.length 0))),[]):=by
 rw[qah XV _ _ _ qQZ rfl qAL rfl];obtain⟨f,v,ks⟩:=t;have h:=qag (X:=XV) (T:=XV.lin 259) (L:=1) (live:=[0,3,5]) (b:=qrK) (n:=l.length) (γ:=Nat) (st:=fun(_:Unit) i=>⟨[(0,.d (qaa .sub l)),(3,.ptr 0 0),(5,.d (.int .i64 i))],[some [.d (.int .i64 f),.d (.int .i64 v),.d (qaa .sub ks)]]⟩) (step:=qb3 (qcW l (.node f v ks)))
  (F:=fun _=>(.exit 0,⟨[(0,.d (qaa .sub l)),(3,.ptr 0 0),(5,.d (.int .i64 l.length)),(9,.d (.bool false))],[some [.d (.int .i64 f),.d (.int .i64 v),.d (qaa .sub ks)]]⟩)) (R:=fun j=>(.ret,⟨[(4,.d (.int .i64 j))],[some [.d (.int .i64 f),.d (.int .i64 v),.d (qaa .sub ks)]]⟩))
  (fun a=>⟨by simp,by simp[qrK,qv0,qvY,qvZ]⟩)
  (fun a i hi=>by
   have hw:=qae (n:=i) (by omega);have hc:=qc7 (tAt l i) (.node f v ks) (bl _ (qav hi)) ht;unfold qb3
   by_cases hq:qcW l (.node f v ks) i=true
   ·rw[if_pos hq]
    unfold qcW at hq;rw[hq]at hc;exact⟨by simp,by simp[qrK,qv0,qL1,qvY,qvZ,hi,cut,qap hi,hc]⟩
   ·rw[if_neg hq]
    have hq':qcW l (.node f v ks) i=false:=by simpa using hq
    unfold qcW at hq';rw[hq']at hc;exact⟨_,by simp[qrK,qv0,qL1,qvY,qvZ,hi,hw,cut,qap hi,hc];rfl,by simp[qad,qab]⟩)
  l.length () 0 ⟨[(0,.d (qaa .sub l)),(3,.ptr 0 0),(5,.d (.int .i64 0))],[some [.d (.int .i64 f),.d (.int .i64 v),.d (qaa .sub ks)]]⟩ (by omega) (by simp[qad,qab])
 rw[qpk]at h;simp only[qOs]at h;simp[qQZ,qKD,qKC,qKB];rw[h];cases hq:qaw (qcW l (.node f v ks)) l.length 0<;>simp[qgQ]
theorem qgz(a c:List T)(g:Tag)(h:(a.length+c.length)*40<=140737488355328):qa7 3 40 (.sl U (a.map (T.enc .sub))) (.sl g (c.map (T.enc .sub)))=some (.sl U ((a++c).map (T.enc .sub))):=by
 have h1:(c.map (T.enc .sub)).all (fun e=>decide (e.cells.length=3/\e.cells.all DV.isCell=true))=true:=by
  simp[qaf,qai]
 have h2:(a.map (T.enc .sub)).all (fun e=>decide (e.cells.length=3))=true:=by simp
 unfold qa7;simp only;rw[if_pos h1];cases c with
 |nil=>simp
 |cons x r=>
  simp only[List.map_cons,List.isEmpty_cons,Bool.false_eq_true,if_false];rw[if_pos ⟨by simpa using h,trivial,h2⟩];simp
theorem qjn(l:List T)(j:Nat)(hj:j<l.length)(hl:l.length<=1099511627776):
 qac XV 260 [.d (qaa .sub l),.d (.int .i64 j)] []=some (.d (.sl U ((qbr l j).map (T.enc .sub))),[]):=by
 rw[qah XV _ _ _ qQY rfl qAK rfl];have hw:=qae (n:=j) (by omega);have h1:j<=l.length:=by omega
 have h2:j+1<=l.length:=by omega
 have a1:=qgz [] (l.take j) .sub (by simp;omega);have a2:=qgz (l.take j) (l.drop (j+1)) .sub (by simp;omega);simp only[List.map_nil,List.nil_append,List.map_take,List.map_drop,List.map_append]at a1 a2;have h3:(0:Int)<=(j:Int)+1:=by omega
 have h4:List.take l.length (l.map (T.enc .sub))=l.map (T.enc .sub):=List.take_of_length_le (by simp);simp[qQY,qKA,qKz,qKy,hw,h1,h2,h3,h4,a1,a2,qbr]
theorem qeH(l:List Bd)(n:Int)(hl:l.length<=1099511627776):qac XV 312 [.d (binds .sub l),.d (.int .i64 n)] []=some (.d (.bool (qbP l n).isSome),[]):=by
 rw[qah XV _ _ _ qQN rfl qAq rfl];have h:=qag (X:=XV) (T:=XV.lin 312) (L:=0) (live:=[0,1,5]) (b:=qrE) (n:=l.length) (γ:=Nat) (st:=fun(_:Unit) i=>⟨[(0,.d (binds .sub l)),(1,.d (.int .i64 n)),(5,.d (.int .i64 i))],[]⟩) (step:=qb3 fun i=>(bAt l i).v==n)
  (F:=fun _=>(.exit 0,⟨[(0,.d (binds .sub l)),(1,.d (.int .i64 n)),(5,.d (.int .i64 l.length)),(9,.d (.bool false))],[]⟩)) (R:=fun _=>(.ret,⟨[(4,.d (.bool true))],[]⟩))
  (fun a=>⟨by simp,by simp[qrE,qu7,qu5,qu4,qu6]⟩)
  (fun a i hi=>by
   have hw:=qae (n:=i) (by omega);unfold qb3
   by_cases hq:((bAt l i).v==n)=true
   ·rw[if_pos hq]
    exact⟨by simp,by simp[qrE,qu7,qu5,qu4,qu6,hi,cut,qbR hi,hq]⟩
   ·rw[if_neg hq]
    have hq':((bAt l i).v==n)=false:=by simpa using hq
    exact⟨_,by simp[qrE,qu7,qu5,qu4,qu6,hi,hw,cut,qbR hi,hq'];rfl,by simp[qad,qab]⟩)
  l.length () 0 ⟨[(0,.d (binds .sub l)),(1,.d (.int .i64 n)),(5,.d (.int .i64 0))],[]⟩ (by omega) (by simp[qad,qab])
 rw[qpk]at h;simp only[qOi,binds]at h;unfold qbP;simp[qQN,qJ2,qJ1,qJ0];rw[h];cases hq:qaw (fun i=>(bAt l i).v==n) l.length 0<;>simp
def qnR:List T->List T->List T⊕List T
 |l,[]=> .inl l
 |l,t::ts=>match qaw (qcW l t) l.length 0 with
  |none=> .inr l
  |some j=>qnR (qbr l j) ts
abbrev qjC(q:Tag×List T):DV:= .sl q.1 (q.2.map (T.enc .sub))
def quM(ts:List T)(q:Tag×List T)(i:Nat):(Tag×List T)⊕(Tag×List T):=
 match qaw (qcW q.2 (tAt ts i)) q.2.length 0 with
 |some j=> .inl (U,qbr q.2 j)
 |none=> .inr q
theorem qRq(ts:List T):∀(k i:Nat) (q:Tag×List T),(q.1= .sub\/q.1=U)->i+k=ts.length->∃g,(g= .sub\/g=U)/\runN (quM ts) k q i=match qnR q.2 (ts.drop i)with| .inl r=> .inl (g,r)| .inr r=> .inr (g,r)
 |0,i,q,hq,h=>by
  have h1:ts.drop i=[]:=List.drop_eq_nil_of_le (by omega);exact⟨q.1,hq,by simp[runN,h1,qnR]⟩
 |k+1,i,q,hq,h=>by
  have hlt:i<ts.length:=by omega
  rw[List.drop_eq_getElem_cons hlt,qap hlt];simp only[runN,quM,qnR];cases qaw (qcW q.2 (tAt ts i)) q.2.length 0 with
  |none=>exact⟨q.1,hq,rfl⟩
  |some j=>exact qRq ts k (i+1) _ (.inr rfl) (by omega)
theorem qBs:∀(l ts:List T),(match qnR l ts with| .inl r=>some r| .inr _=>none)=(match takeN l ts with| .inl r=>some r| .inr _=>none)
 |l,[]=>rfl
 |l,t::ts=>by
  simp only[qnR,takeN];cases qaw (qcW l t) l.length 0 with
  |none=>rfl
  |some j=>exact qBs (qbr l j) ts
theorem qEk(l ts:List T)(hl:l.length<=1099511627776)(ht:ts.length<=1099511627776)(bl:∀x,x∈l->x.inner<=1099511627776)(bt:∀x,x∈ts->x.inner<=1099511627776):
 ∃g,(g= .sub\/g=U)/\qac XV 316 [.d (qaa .sub l),.d (qaa .sub ts)] []=some (match qnR l ts with| .inl r=> .d (.tup [qjC (g,r),.bool true])| .inr r=> .d (.tup [qjC (g,r),.bool false]),[]):=by
 rw[qah XV _ _ _ qQK rfl qAm rfl];have h:=qeF (X:=XV) (T:=XV.lin 316) (L:=0) (live:=[1,6,7]) (b:=qrC) (n:=ts.length) (γ:=Tag×List T) (st:=fun(r:Tag×List T) i=>⟨[(1,.d (qaa .sub ts)),(6,.d (qjC r)),(7,.d (.int .i64 i))],[]⟩) (step:=quM ts)
  (F:=fun r=>(.exit 0,⟨[(1,.d (qaa .sub ts)),(6,.d (qjC r)),(7,.d (.int .i64 ts.length)),(13,.d (.bool false))],[]⟩)) (R:=fun r=>(.ret,⟨[(4,.d (qjC r)),(5,.d (.bool false))],[]⟩))
  (fun r _=>(r.1= .sub\/r.1=U)/\r.2.length<=1099511627776/\∀x,x∈r.2->x.inner<=1099511627776)
  (fun a ha=>⟨by simp,by rcases ha.1 with h|h<;>simp[qrC,quY,quW,quV,quU,quT,quX,qjC,h]⟩)
  (fun a i hi hinv=>by
   have hw:=qae (n:=i) (by omega);obtain⟨g,a⟩:=a;obtain⟨hg,i1,i2⟩:=hinv;simp only at hg i1 i2;have hc:=qOE a (tAt ts i) i1 i2 (bt _ (qav hi));unfold quM;cases hfa:qaw (qcW a (tAt ts i)) a.length 0 with
   |none=>
    rw[hfa]at hc;exact⟨⟨by simp,by rcases hg with rfl|rfl<;>simp[qrC,quY,quW,quV,quU,quT,quX,hi,cut,qap hi,hc,qgQ]⟩,fun a' h=>by simp at h⟩
   |some j=>
    rw[hfa]at hc;obtain⟨_,hj,_⟩:=qcd _ _ _ _ hfa;have hj0:¬((j:Int)<0):=by omega
    have hw2:=qjn a j (by omega) i1;refine⟨by rcases hg with rfl|rfl<;>exact⟨_,by simp[qrC,quY,quW,quV,quU,quT,quX,hi,hw,cut,qap hi,hc,qgQ,hw2,hj0];rfl,by simp[qad,qab]⟩,fun a' h=> ?_⟩;simp only[Sum.inl.injEq]at h;subst h;exact⟨.inr rfl,Nat.le_trans qnn i1,fun x hx=>i2 x (qnm hx)⟩)
  ts.length (.sub,l) 0 ⟨[(1,.d (qaa .sub ts)),(6,.d (qaa .sub l)),(7,.d (.int .i64 0))],[]⟩ (by omega) ⟨.inl rfl,hl,bl⟩ (by simp[qad,qab])
 obtain⟨g,hg,hr⟩:=qRq ts ts.length 0 (.sub,l) (.inl rfl) (by omega);rw[hr]at h;simp only[qOf,List.drop_zero]at h;refine⟨g,hg,?_⟩;simp[qQK,qJR,qJQ,qJP,qJO];rw[h];cases qnR l ts<;>rcases hg with rfl|rfl<;>simp[qjC]
theorem qXa{x:Bool}(h:(!x)=true):x=false:=by cases x<;>simp_all
theorem qXb{x:Bool}(h:¬(!x)=true):x=true:=by cases x<;>simp_all
theorem qBJ(b c:Bd)(B:qal)(hb:b.t.inner<=1099511627776)(hc:c.t.inner<=1099511627776):
 qac XV 290 [.d (b.enc .sub),.d (c.enc .sub)] B=some (.d (.bool (b.v==c.v&&T.cmp b.t c.t==0)),B):=by
 rw[qah XV _ _ _ qPS rfl qAA rfl];have hs:=same_eq b.t c.t hb hc
 by_cases e:b.v=c.v
 ·have e1:(b.v==c.v)=true:=by simpa using e
  rw[e1,Bool.true_and];simp[qPS,qCw,qCv,e,hs]
 ·have e1:(b.v==c.v)=false:=by simpa using e
  rw[e1,Bool.false_and];simp[qPS,qCw,qCv,e1]
theorem qrg(u w:List Bd)(hu:u.length<=1099511627776)(hw:w.length<=1099511627776)(bu:∀i,i<u.length->(bAt u i).t.inner<=1099511627776)(bw:∀i,i<w.length->(bAt w i).t.inner<=1099511627776):
 qac XV 289 [.d (binds .sub u),.d (binds .sub w),.fn 290 []] []=some (.d (.bool (qix u w)),[]):=by
 rw[qah XV _ _ _ qPT rfl qAB rfl];unfold qix
 by_cases hl:u.length=w.length
 ·have hlI:(u.length:Int)=w.length:=by omega
  have h:=qag (X:=XV) (T:=XV.lin 289) (L:=0) (live:=[1,2,15,16,17]) (b:=qrG) (n:=u.length) (γ:=Nat) (st:=fun(_:Unit) i=>⟨[(1,.d (binds .sub w)),(2,.fn 290 []),(15,.d (binds .sub u)),(16,.d (.int .i64 u.length)),(17,.d (.int .i64 i))],[]⟩) (step:=qb3 (qFc u w))
   (F:=fun _=>(.exit 0,⟨[(1,.d (binds .sub w)),(2,.fn 290 []),(15,.d (binds .sub u)),(16,.d (.int .i64 u.length)),(17,.d (.int .i64 u.length)),(18,.d (.bool false))],[]⟩)) (R:=fun j=>(.ret,⟨[(6,.d (.bool false))],[some (bAt u j|>.enc .sub|>.cells.map .d),some (bAt w j|>.enc .sub|>.cells.map .d)]⟩))
   (fun a=>⟨by simp,by simp[qrG,qvG,qvF,qvE,qvD,qvC,qvB]⟩)
   (fun a i hi=>by
    have hi':i<w.length:=by omega
    have hwr:=qae (n:=i) (by omega);have hc:=qBJ (bAt u i) (bAt w i) [some (bAt u i|>.enc .sub|>.cells.map .d),some (bAt w i|>.enc .sub|>.cells.map .d)] (bu i hi) (bw i hi');unfold qb3
    by_cases hq:qFc u w i=true
    ·rw[if_pos hq]
     unfold qFc at hq;have hq':((bAt u i).v==(bAt w i).v&&T.cmp (bAt u i).t (bAt w i).t==0)=false:=qXa hq;rw[hq']at hc;simp only[Bd.qeP,List.map_cons,List.map_nil]at hc;exact⟨by simp,by simp[qrG,qvG,qvF,qvE,qvD,qvC,qvB,hi,hi',cut,qbR hi,qbR hi',hc,splice]⟩
    ·rw[if_neg hq]
     unfold qFc at hq;have hq':((bAt u i).v==(bAt w i).v&&T.cmp (bAt u i).t (bAt w i).t==0)=true:=qXb hq;rw[hq']at hc;simp only[Bd.qeP,List.map_cons,List.map_nil]at hc;exact⟨_,by simp[qrG,qvG,qvF,qvE,qvD,qvC,qvB,hi,hi',hwr,cut,qbR hi,qbR hi',hc,splice];rfl,by simp[qad,qab]⟩)
   u.length () 0 ⟨[(1,.d (binds .sub w)),(2,.fn 290 []),(15,.d (binds .sub u)),(16,.d (.int .i64 u.length)),(17,.d (.int .i64 0))],[]⟩ (by omega) (by simp[qad,qab])
  rw[qpk]at h;have e0:decide (u.length=w.length)=true:=by simpa using hl
  rw[e0];simp only[qOl,binds]at h;simp[qPT,qCA,qCz,qCy,qCx,qs6,hlI];simp only[hlI]at h;rw[h];cases hq:qaw (qFc u w) u.length 0<;>simp
 ·have e0:decide (u.length=w.length)=false:=by simpa using hl
  have hlI:¬(u.length:Int)=w.length:=by omega
  have h3:((u.length:Int) !=w.length)=true:=by simpa using hlI
  rw[e0];simp[qPT,qCA,qCz,qCy,qCx,qs6,h3]
theorem qoP(u w:List Bd)(hu:u.length<=1099511627776)(hw:w.length<=1099511627776)(bu:∀i,i<u.length->(bAt u i).t.inner<=1099511627776)(bw:∀i,i<w.length->(bAt w i).t.inner<=1099511627776):
 qac XV 288 [.d (binds .sub u),.d (binds .sub w)] []=some (.d (.bool (qix u w)),[]):=by
 rw[qah XV _ _ _ qQR rfl qAC rfl];have h:=qrg u w hu hw bu bw;simp[qQR,qKg,qKf,h]
def wAt(ws:List (List Bd))(i:Nat):List Bd:=(ws[i]?).getD []
theorem qgD{ws:List (List Bd)}{i:Nat}(h:i<ws.length):ws[i]=wAt ws i:=by simp[wAt,h]
theorem qj2{ws:List (List Bd)}{i:Nat}(h:i<ws.length):wAt ws i∈ws:=by rw[<-qgD h];exact List.getElem_mem h
abbrev qcs(g:Tag)(ws:List (List Bd)):DV:= .sl g (ws.map (binds .sub))
@[simp] theorem qGk:DV.clr∘binds .sub=binds .sub:=funext fun w=>by simp[binds]
def small(u:List Bd):Prop:=u.length<=1099511627776/\∀i,i<u.length->(bAt u i).t.inner<=1099511627776
def qxa(ws:List (List Bd))(u:List Bd):Bool:=(qaw (fun i=>qix (wAt ws i) u) ws.length 0).isSome
theorem qIW(w u:List Bd)(pre r:qal)(hw:small w)(hu:small u):
 qac XV 320 [.d (binds .sub w),.ptr pre.length 0] (pre++some [.d (binds .sub u)]::r)=some (.d (.bool (qix w u)),pre++some [.d (binds .sub u)]::r):=by
 rw[qah XV _ _ _ qQI rfl qAj rfl];have h:=qoP w u hw.1 hu.1 hw.2 hu.2;have hn:¬(pre.length+(r.length+1)<=pre.length):=by omega
 simp[qQI,qJJ,qJI,h,hn,qdo]
theorem qoM(l:List (List Bd))(fk:Nat)(caps:List AV)(B:qal)(P:List Bd->Bool)(hl:l.length<=1099511627776)(hs:AV.safe.safes B.length caps=true)(hcc:caps.map AV.clr=caps)(hk:¬0∈XV.lin fk)
 (hf:∀s,s∈l->qac XV fk (.d (binds .sub s)::caps) B=some (.d (.bool (P s)),B)):
 qac XV 269 [.d (qcs .sub l),.fn fk caps] B=some (.d (.int .i64 (qgQ (qaw (fun i=>P (wAt l i)) l.length 0))),B):=by
 rw[qah XV _ _ _ qQV rfl qAG rfl];have h:=qag (X:=XV) (T:=XV.lin 269) (L:=B.length) (live:=[0,1,7,8]) (b:=qrJ) (n:=l.length) (st:=fun(_:Unit) i=>⟨[(0,.d (qcs .sub l)),(1,.fn fk caps),(7,.d (.int .i64 l.length)),(8,.d (.int .i64 i))],B⟩) (step:=qb3 fun i=>P (wAt l i))
  (F:=fun _=>(.exit 0,⟨[(0,.d (qcs .sub l)),(1,.fn fk caps),(7,.d (.int .i64 l.length)),(8,.d (.int .i64 l.length)),(9,.d (.bool false))],B⟩)) (R:=fun(j:Nat)=>(.ret,⟨[(4,.d (.int .i64 j))],B⟩))
  (fun a=>⟨by simp,by simp[qrJ,qvX,qvW,qvV,qvU,qvT]⟩)
  (fun a i hi=>by
   have hw:=qae (n:=i) (by omega);have hc:=hf _ (qj2 hi);unfold qb3
   by_cases hq:P (wAt l i)=true
   ·rw[if_pos hq];rw[hq]at hc
    exact⟨by simp,by simp[qrJ,qvX,qvW,qvV,qvU,qvT,hi,cut,qgD hi,hc,hcc,hk]⟩
   ·rw[if_neg hq]
    have hq':P (wAt l i)=false:=by simpa using hq
    rw[hq']at hc;exact⟨_,by simp[qrJ,qvX,qvW,qvV,qvU,qvT,hi,hw,cut,qgD hi,hc,hcc,hk];rfl,by simp[qad,qab,hs]⟩)
  l.length () 0 ⟨[(0,.d (qcs .sub l)),(1,.fn fk caps),(7,.d (.int .i64 l.length)),(8,.d (.int .i64 0))],B⟩ (by omega) (by simp[qad,qab,hs])
 rw[qpk]at h;simp only[qOo]at h;simp[qQV,qKr,qKq,qKp];rw[h];cases hq:qaw (fun i=>P (wAt l i)) l.length 0<;>simp[qgQ]
theorem quc(ws:List (List Bd))(u:List Bd)(pre r:qal)(hl:ws.length<=1099511627776)(hw:∀w,w∈ws->small w)(hu:small u):
 qac XV 265 [.d (qcs .sub ws),.fn 320 [.ptr pre.length 0]] (pre++some [.d (binds .sub u)]::r)=some (.d (.bool (qxa ws u)),pre++some [.d (binds .sub u)]::r):=by
 rw[qah XV _ _ _ qQX rfl qAI rfl];have h:=qoM ws 320 [.ptr pre.length 0] (pre++some [.d (binds .sub u)]::r) (fun w=>qix w u) hl (by simp[AV.safe.safes,AV.safe]) (by simp) (by simp) (fun w hx=>qIW w u pre r (hw w hx) hu);simp[qQX,qKx,qKw,h,qdo,qxa];cases qaw (fun i=>qix (wAt ws i) u) ws.length 0<;>simp[qgQ]
theorem qyT(u w:List Bd)(hu:small u)(hw:small w):
 qac XV 261 [.d (binds .sub u),.d (binds .sub w)] []=some (.d (.bool (qix u w)),[]):=by
 rw[qah XV _ _ _ qPU rfl qAJ rfl];obtain⟨hu,bu⟩:=hu;obtain⟨hw,bw⟩:=hw;unfold qix
 by_cases hl:u.length=w.length
 ·have hloop:=qag (X:=XV) (T:=XV.lin 261) (L:=0) (live:=[0,1,5]) (b:=qnz) (n:=u.length) (γ:=Nat) (st:=fun(_:Unit) i=>⟨[(0,.d (binds .sub u)),(1,.d (binds .sub w)),(5,.d (.int .i64 i))],[]⟩) (step:=qb3 (qFc u w))
   (F:=fun _=>(.exit 0,⟨[(0,.d (binds .sub u)),(1,.d (binds .sub w)),(5,.d (.int .i64 u.length)),(14,.d (.bool false))],[]⟩)) (R:=fun _=>(.ret,⟨[(4,.d (.bool false))],[]⟩))
   (fun _=>⟨by simp,by simp[qnz,qqp,qqn,qqo]⟩)
   (fun _ i hi=>by
    have hi':i<w.length:=by omega
    have hwr:=qae (n:=i) (by omega);have hc:=qc7 (bAt u i).t (bAt w i).t (bu i hi) (bw i hi');unfold qb3;cases hq:qFc u w i with
    |true=>
     simp only[if_true];refine⟨by simp,?_⟩;unfold qFc at hq
     by_cases e:(bAt u i).v=(bAt w i).v
     ·have e2:(T.cmp (bAt u i).t (bAt w i).t==0)=false:=by
       have e1:((bAt u i).v==(bAt w i).v)=true:=by simpa using e
       rw[e1]at hq;simpa using hq
      rw[e2]at hc;simp[qnz,qqp,qFl,qqn,qqo,hi,hi',cut,qbR hi,qbR hi',e,hc]
     ·have e1:((bAt u i).v==(bAt w i).v)=false:=by simpa using e
      have e3:((bAt u i).v !=(bAt w i).v)=true:=by simpa using e
      simp[qnz,qqp,qFl,qqn,qqo,hi,hi',cut,qbR hi,qbR hi',e3]
    |false=>
     simp only[Bool.false_eq_true,if_false];unfold qFc at hq;simp only[Bool.not_eq_false',Bool.and_eq_true,beq_iff_eq]at hq;have e2:(T.cmp (bAt u i).t (bAt w i).t==0)=true:=by simpa using hq.2
     rw[e2]at hc;refine⟨_,by simp[qnz,qqp,qFl,qqn,qqo,hi,hi',hwr,cut,qbR hi,qbR hi',hq.1,hc];rfl,by simp[qad,qab]⟩)
   u.length () 0 ⟨[(0,.d (binds .sub u)),(1,.d (binds .sub w)),(5,.d (.int .i64 0))],[]⟩ (by omega) (by simp[qad,qab])
  rw[qpk]at hloop;have hlI:(u.length:Int)=w.length:=by omega
  have e0:decide (u.length=w.length)=true:=by simpa using hl
  rw[e0];simp only[qOr]at hloop;simp[qPU,qCK,qCJ,qCI,qCH,qCF,hlI];simp only[binds]at hloop;rw[hloop];cases qaw (qFc u w) u.length 0 with
  |none=>simp
  |some j=>simp
 ·have e0:decide (u.length=w.length)=false:=by simpa using hl
  have hlI:¬(u.length:Int)=w.length:=by omega
  have h3:((u.length:Int) !=w.length)=true:=by simpa using hlI
  rw[e0];simp[qPU,qCK,qCJ,qCI,qCH,qCF,h3]
theorem qIA(ws:List (List Bd))(u:List Bd)(hl:ws.length<=1099511627776)(hw:∀w,w∈ws->small w)(hu:small u):
 qac XV 249 [.d (qcs .sub ws),.d (binds .sub u)] []=some (.d (.bool (qxa ws u)),[]):=by
 rw[qah XV _ _ _ qQ1 rfl qAN rfl];have h:=qag (X:=XV) (T:=XV.lin 249) (L:=0) (live:=[0,1,5]) (b:=qrL) (n:=ws.length) (γ:=Nat) (st:=fun(_:Unit) i=>⟨[(0,.d (qcs .sub ws)),(1,.d (binds .sub u)),(5,.d (.int .i64 i))],[]⟩) (step:=qb3 fun i=>qix (wAt ws i) u)
  (F:=fun _=>(.exit 0,⟨[(0,.d (qcs .sub ws)),(1,.d (binds .sub u)),(5,.d (.int .i64 ws.length)),(9,.d (.bool false))],[]⟩)) (R:=fun _=>(.ret,⟨[(4,.d (.bool true))],[]⟩))
  (fun a=>⟨by simp,by simp[qrL,qv4,qv2,qv1,qv3]⟩)
  (fun a i hi=>by
   have hwr:=qae (n:=i) (by omega);have hc:=qyT (wAt ws i) u (hw _ (qj2 hi)) hu;unfold qb3
   by_cases hq:qix (wAt ws i) u=true
   ·rw[if_pos hq];rw[hq]at hc
    exact⟨by simp,by simp[qrL,qv4,qv2,qv1,qv3,hi,cut,qgD hi,hc]⟩
   ·rw[if_neg hq]
    have hq':qix (wAt ws i) u=false:=by simpa using hq
    rw[hq']at hc;exact⟨_,by simp[qrL,qv4,qv2,qv1,qv3,hi,hwr,cut,qgD hi,hc];rfl,by simp[qad,qab]⟩)
  ws.length () 0 ⟨[(0,.d (qcs .sub ws)),(1,.d (binds .sub u)),(5,.d (.int .i64 0))],[]⟩ (by omega) (by simp[qad,qab])
 rw[qpk]at h;simp only[qOu]at h;unfold qxa;simp[qQ1,qKK,qKJ,qKI];rw[h];cases hq:qaw (fun i=>qix (wAt ws i) u) ws.length 0<;>simp
def ins(t:T):List T->List T
 | []=>[t]
 |x::r=>if T.cmp t x<0 then t::x::r else x::ins t r
def qcz:List T->List T->List T
 |acc,[]=>acc
 |acc,t::r=>qcz (ins t acc) r
def qfr(l:List T):List T:=qcz [] l
theorem qjR(t:T):∀l:List T,(ins t l).Perm (t::l)
 | []=> .refl _
 |x::r=>by
  simp only[ins];split
  ·exact .refl _
  ·exact((qjR t r).cons x).trans (.swap t x r)
theorem qEu(t:T):∀l:List T,Srt l->Srt (ins t l)
 | [],_=>List.pairwise_singleton _ _
 |x::r,h=>by
  have h':=List.pairwise_cons.1 h;simp only[ins];split
  ·rename_i hlt
   refine List.pairwise_cons.2 ⟨fun y hy=> ?_,h⟩;rcases List.mem_cons.1 hy with rfl|hy
   ·exact qez hlt
   ·exact qfU (qez hlt) (h'.1 y hy)
  ·rename_i hlt
   refine List.pairwise_cons.2 ⟨fun y hy=> ?_,qEu t r h'.2⟩;have:=(qjR t r).mem_iff.1 hy;rcases List.mem_cons.1 this with rfl|hy
   ·exact qci hlt
   ·exact h'.1 y hy
theorem qjo:∀(l acc:List T),(qcz acc l).Perm (acc++l)
 | [],acc=>by simp[qcz]
 |t::r,acc=>by
  simp only[qcz];refine(qjo r _).trans ?_;refine((qjR t acc).append_right r).trans ?_;exact List.perm_middle.symm
theorem qlx:∀(l acc:List T),Srt acc->Srt (qcz acc l)
 | [],acc,h=>h
 |t::r,acc,h=>by
  simp only[qcz];exact qlx r _ (qEu t acc h)
theorem qd2(l:List T):(qfr l).Perm l:=qjo l []
theorem qqP(l:List T):Srt (qfr l):=qlx l [] List.Pairwise.nil
theorem qIG{l l':List T}(h:l'.Perm l)(hs:Srt l'):l'=qfr l:=qHt hs (qqP l) (h.trans (qd2 l).symm)
theorem qes:∀(a acc b:List T),qcz acc (a++b)=qcz (qcz acc a) b
 | [],acc,b=>rfl
 |t::r,acc,b=>by simp only[List.cons_append,qcz];exact qes r _ b
def qxK(s:List SymL)(f:Int)(k:T):List T:=if(qaM s f&&k.f==f)=true then k.kids else [k]
def flatK(s:List SymL)(f:Int)(l:List T):List T:=l.flatMap (qxK s f)
mutual
def T.norm(s:List SymL):T->T
 | .node f v ks=> .node f v (if qaM s f=true then qfr (flatK s f (T.norms s ks))else flatK s f (T.norms s ks))
def T.norms(s:List SymL):List T->List T
 | []=>[]
 |t::r=>t.norm s::T.norms s r
end
theorem T.norms_map(s:List SymL):∀l:List T,T.norms s l=l.map (T.norm s)
 | []=>by simp[T.norms]
 |t::r=>by simp[T.norms,T.norms_map s r]
theorem qDY(s:List SymL)(t:T):(t.norm s).f=t.f:=by cases t;simp[T.norm]
theorem qDX(s:List SymL)(t:T):(t.norm s).v=t.v:=by cases t;simp[T.norm]
theorem qg0(a b:List T):qaQ (a++b)=qaQ a+qaQ b:=by unfold qaQ;rw[qdT,yg_];omega
theorem qh4{a b:List T}(h:a.Perm b):qaQ a=qaQ b:=by
 induction h with
 |nil=>rfl
 |cons x _ ih=>rw[qaH,qaH,ih]
 |swap x y l=>rw[qaH,qaH,qaH,qaH];omega
 |trans _ _ h1 h2=>rw[h1,h2]
theorem qFu(s:List SymL)(f:Int)(k:T):qaQ (qxK s f k)<=k.inner+1:=by
 unfold qxK;split
 ·rw[qbb];omega
 ·rw[qaH];simp[qaQ,T.inners]
theorem qng(s:List SymL)(f:Int)(k:T)(l:List T):flatK s f (k::l)=qxK s f k++flatK s f l:=rfl
theorem qq9(s:List SymL)(f:Int)(a b:List T):flatK s f (a++b)=flatK s f a++flatK s f b:=by unfold flatK;simp
theorem qgx(s:List SymL)(f:Int):∀l:List T,qaQ (flatK s f l)<=qaQ l
 | []=>by simp[flatK,qaQ,T.inners]
 |k::l=>by
  rw[qng,qg0,qaH];have:=qFu s f k;have:=qgx s f l;omega
theorem T.qdf(f v:Int)(ks:List T):(T.node f v ks).inner=qaQ ks:=by simp[T.inner,qaQ]
mutual
theorem qeI(s:List SymL):∀t:T,(t.norm s).inner<=t.inner
 | .node f v ks=>by
  have h:=qgw s ks;have h2:=qgx s f (T.norms s ks);simp only[T.norm,T.qdf];split
  ·rw[qh4 (qd2 _)];omega
  ·omega
theorem qgw(s:List SymL):∀l:List T,qaQ (T.norms s l)<=qaQ l
 | []=>by simp[T.norms]
 |t::r=>by
  have h1:=qeI s t;have h2:=qgw s r;simp only[T.norms,qaH];omega
end
theorem qbC{l:List T}{t:T}(h:t∈l):t.inner<=qaQ l:=by have:=T.qay h;unfold qaQ;omega
theorem qdj(l:List T):l.length<=qaQ l:=by unfold qaQ;omega
def qxO(s:List SymL)(f:Int)(ks:List T)(i:Nat):List T:=flatK s f ((ks.take i).map (T.norm s))
theorem qrY(s:List SymL)(f:Int)(ks:List T):qxO s f ks 0=[]:=by simp[qxO,flatK]
theorem qrZ(s:List SymL)(f:Int)(ks:List T)(i:Nat)(h:i<ks.length):qxO s f ks (i+1)=qxO s f ks i++qxK s f ((tAt ks i).norm s):=by
 unfold qxO;rw[qdn ks i h,List.map_append,qq9];simp[flatK]
theorem qxN(s:List SymL)(f:Int)(ks:List T):qxO s f ks ks.length=flatK s f (T.norms s ks):=by
 unfold qxO;rw[List.take_length,T.norms_map]
theorem qr0(s:List SymL)(f:Int)(ks:List T)(i:Nat):qaQ (qxO s f ks i)<=qaQ ks:=by
 unfold qxO;have h1:=qgx s f ((ks.take i).map (T.norm s));rw[<-T.norms_map]at h1⊢
 have h2:=qgw s (ks.take i);have h3:=qui ks i;omega
theorem qLR(t:T):∀(l:List T) (j:Nat),j<=l.length->(∀i,i<j->¬T.cmp t (tAt l i)<0)->(j<l.length->T.cmp t (tAt l j)<0)->ins t l=l.take j++t::l.drop j
 | [],j,hj,_,_=>by simp at hj;subst hj;rfl
 |x::r,0,hj,h1,h2=>by
  have:=h2 (by simp);simp only[tAt,List.getElem?_cons_zero,Option.getD_some]at this;simp[ins,this]
 |x::r,j+1,hj,h1,h2=>by
  have h0:=h1 0 (by omega);simp only[tAt,List.getElem?_cons_zero,Option.getD_some]at h0;have:=qLR t r j (by simpa using hj) (fun i hi=>by simpa[tAt]using h1 (i+1) (by omega)) (fun h=>by simpa[tAt]using h2 (by simpa using h));simp[ins,h0,this]
def e3(t:T):List AV:=[.d (.int .i64 t.f),.d (.int .i64 t.v),.d (qaa U t.kids)]
def e3'(t:T):List AV:=[.d (.int .i64 t.f),.d (.int .i64 t.v),.d (qaa .sub t.kids)]
def kc(l:List T):List AV:=(l.map e3).flatten
def qP1(cs:List (List AV)):Prop:=∀c,c∈cs->c.length=3
theorem qpf(l:List T):qP1 (l.map e3):=fun c hc=>by
 obtain⟨t,_,rfl⟩:=List.mem_map.1 hc;rfl
theorem qpe{cs:List (List AV)}(h:qP1 cs)(p:Nat)(x:List AV)(hx:x.length=3):qP1 (cs.set p x):=fun c hc=>by
 rcases List.mem_or_eq_of_mem_set hc with h1|h1
 ·exact h c h1
 ·rw[h1,hx]
theorem qga:∀{cs:List (List AV)},qP1 cs->cs.flatten.length=cs.length*3
 | [],_=>rfl
 |c::r,h=>by
  have:=qga (cs:=r) (fun x hx=>h x (by simp[hx]));have hc:=h c (by simp);simp only[List.flatten_cons,yg_,List.length_cons,this,hc];omega
theorem qhS:∀{cs:List (List AV)} (_:qP1 cs) (p:Nat) (hp:p<cs.length),(cs.flatten.drop (p*3)).take 3=cs[p]
 |c::r,h,0,hp=>by
  have hc:=h c (by simp);simp only[Nat.zero_mul,List.drop_zero,List.flatten_cons,List.getElem_cons_zero];rw[List.take_append_of_le_length (by omega),List.take_of_length_le (by omega)]
 |c::r,h,p+1,hp=>by
  have hc:=h c (by simp);have:=qhS (cs:=r) (fun x hx=>h x (by simp[hx])) p (by simpa using hp);simp only[List.flatten_cons,List.getElem_cons_succ];rw[List.drop_append,List.drop_of_length_le (by omega),List.nil_append,show(p+1)*3-c.length=p*3 by omega];exact this
theorem qdx:∀{cs:List (List AV)} (_:qP1 cs) (p:Nat) (hp:p<cs.length) (x:List AV) (hx:x.length=3),splice cs.flatten (p*3) x=(cs.set p x).flatten
 |c::r,h,0,hp,x,hx=>by
  have hc:=h c (by simp);unfold splice;simp only[Nat.zero_mul,List.take_zero,List.nil_append,Nat.zero_add,List.flatten_cons,List.set_cons_zero];rw[hx,List.drop_append,List.drop_of_length_le (by omega),List.nil_append,show 3-c.length=0 by omega,List.drop_zero]
 |c::r,h,p+1,hp,x,hx=>by
  have hc:=h c (by simp);have:=qdx (cs:=r) (fun y hy=>h y (by simp[hy])) p (by simpa using hp) x hx;unfold splice at this⊢
  simp only[List.flatten_cons,List.set_cons_succ];rw[List.take_append,List.take_of_length_le (l:=c) (by omega),List.drop_append,List.drop_of_length_le (l:=c) (by omega),List.nil_append,show(p+1)*3-c.length=p*3 by omega,show(p+1)*3+x.length-c.length=p*3+x.length by omega,<-this];simp only[yh_]
theorem qhJ(l:List T):(kc l).length=l.length*3:=by unfold kc;rw[qga (qpf l),List.length_map]
theorem qEq:∀l:List T,kc l=qb5 (l.map (T.enc U))
 | []=>rfl
 |t::r=>by
  have h:=qEq r;unfold qb5 kc at h⊢
  simp[e3,flat]at h⊢
  exact h
def swp(l:List T)(p q:Nat):List T:=(l.set q (tAt l p)).set p (tAt l q)
theorem qgm(l:List T)(p q:Nat)(hp:p<l.length)(hq:q<l.length)(hpq:p≠q):∃c1 c2 c3:List AV,c1.length=l.length*3/\c2.length=l.length*3/\c3.length=l.length*3/\
 ((kc l).drop (p*3)).take 3=e3 (tAt l p)/\splice (kc l) (p*3) (e3' (tAt l p))=c1/\(c1.drop (q*3)).take 3=e3 (tAt l q)/\splice c1 (q*3) (e3' (tAt l q))=c2/\splice c2 (q*3) (e3 (tAt l p))=c3/\splice c3 (p*3) (e3 (tAt l q))=kc (swp l p q):=by
 have h0:=qpf l;have h1:=qpe h0 p (e3' (tAt l p)) rfl;have h2:=qpe h1 q (e3' (tAt l q)) rfl;have h3:=qpe h2 q (e3 (tAt l p)) rfl;refine⟨_,_,_,?_,?_,?_,?_,qdx h0 p (by simpa using hp) _ rfl,?_,qdx h1 q (by simpa using hq) _ rfl,qdx h2 q (by simpa using hq) _ rfl,?_⟩
 ·rw[qga h1];simp
 ·rw[qga h2];simp
 ·rw[qga h3];simp
 ·unfold kc;rw[qhS h0 p (by simpa using hp)];simp[qap hp]
 ·rw[qhS h1 q (by simpa using hq),List.getElem_set_ne hpq];simp[qap hq]
 ·rw[qdx h3 p (by simpa using hp) _ rfl]
  unfold kc swp
  congr 1
  rw[List.map_set,List.map_set];apply List.ext_getElem (by simp);intro k k1 k2;simp only[List.getElem_set,List.getElem_map]
  by_cases e1:p=k
  ·subst e1;simp
  ·by_cases e2:q=k
   ·subst e2;simp[e1]
   ·simp[e1,e2]
theorem qjs(t:T):e3 t=[.d (.int .i64 t.f),.d (.int .i64 t.v),.d (qaa U t.kids)]:=rfl
theorem qo1(t:T):e3' t=[.d (.int .i64 t.f),.d (.int .i64 t.v),.d (qaa .sub t.kids)]:=rfl
theorem qM2(l:List T)(i:Nat)(hn:l.length<=1099511627776)(hl:i+1<l.length)(x1 x2 x3 x8:AV)(h1:x1.clr=x1)(h2:x2.clr=x2):
 qau XV [46,50] (.region true 0 [0,1,2,3,8,9] qww) ⟨[(0,.tsl true 0 3 l.length),(1,x1),(2,x2),(3,x3),(8,x8),(9,.d (.int .i64 ((i+1:Nat):Int))),(34,.d (.bool true))],[some (kc l)]⟩=some (.normal,⟨[(0,.tsl true 0 3 l.length),(1,x1),(2,x2),(3,x3),(8,x8),(9,.d (.int .i64 ((i+1:Nat):Int)))],[some (kc (swp l i (i+1)))]⟩):=by
 have hw:IntKind.i64.wrap (((i+1:Nat):Int)-1)=(i:Int):=by rw[show((i+1:Nat):Int)-1=(i:Int)by omega];exact wrap_i64 (by omega) (by omega)
 obtain⟨c1,c2,c3,l1,l2,l3,f1,f2,f3,f4,f5,f6⟩:=qgm l i (i+1) (by omega) hl (by omega);have l0:=qhJ l;generalize kc (swp l i (i+1))=c4 at f6⊢
 generalize kc l=c0 at f1 f2 l0⊢
 generalize hn':l.length=n at*
 have hj0:(0:Int)<=((i+1:Nat):Int)/\((i+1:Nat):Int)<n:=⟨by omega,by omega⟩;have hjn:((i+1:Nat):Int).toNat=i+1:=rfl;have hi0:(i:Int)<n:=by omega
 have le0:i*3+3<=n*3:=by omega
 have le1:(i+1)*3+3<=n*3:=by omega
 generalize ((i+1:Nat):Int)=J at hw hj0 hjn⊢
 simp only[qjs,qo1,qaa]at f1 f2 f3 f4 f5 f6;have hcls:∀x y z:AV,AV.clrs [x,y,z]=[x.clr,y.clr,z.clr]:=fun x y z=>by simp only[AV.clrs]
 simp[qU5,hw,hj0,hjn,hi0,l0,l1,l2,l3,f1,f2,f3,f4,f5,f6,le0,le1,hcls,qam,qaf,qai,qaC]
theorem qug(a b c d e f:Int)(B:qal)(hB:B.length=3):
 qbw XV [] 3 [2,3,26,27,28] qzP ⟨[(2,.ptr 1 0),(3,.ptr 2 0),(26,.d (.sl .sub (qzv a b c d e f))),(27,.d (.int .i64 3)),(28,.d (.int .i64 0))],B⟩=
  some (match runN (qj8 a b c d e f) 3 () 0 with
   | .inl _=>(.exit 0,⟨[(2,.ptr 1 0),(3,.ptr 2 0),(26,.d (.sl .sub (qzv a b c d e f))),(27,.d (.int .i64 3)),(28,.d (.int .i64 3)),(29,.d (.bool false))],B⟩)
   | .inr r=>(.ret,⟨[(4,.d (.int .i64 r.1))],B++[some [.d (.int .i64 r.2.1),.d (.int .i64 r.2.2)]]⟩)):=by
 obtain⟨z,x0,x1,rfl⟩:∃z x0 x1,B=[z,x0,x1]:=by
  match B,hB with
  | [z,x0,x1],_=>exact⟨z,x0,x1,rfl⟩
 have key:=qag (X:=XV) (T:=[]) (L:=3) (live:=[2,3,26,27,28]) (b:=qzP) (n:=3) (γ:=Int×(Int×Int)) (st:=fun(_:Unit) i=>⟨[(2,.ptr 1 0),(3,.ptr 2 0),(26,.d (.sl .sub (qzv a b c d e f))),(27,.d (.int .i64 3)),(28,.d (.int .i64 i))],[z,x0,x1]⟩) (step:=qj8 a b c d e f)
  (F:=fun _=>(.exit 0,⟨[(2,.ptr 1 0),(3,.ptr 2 0),(26,.d (.sl .sub (qzv a b c d e f))),(27,.d (.int .i64 3)),(28,.d (.int .i64 3)),(29,.d (.bool false))],[z,x0,x1]⟩)) (R:=fun r=>(.ret,⟨[(4,.d (.int .i64 r.1))],[z,x0,x1]++[some [.d (.int .i64 r.2.1),.d (.int .i64 r.2.2)]]⟩))
  (fun _=>⟨by simp,by simp[qzP,qH7]⟩)
  (fun _ i hi=>by
   have hw:=qae (n:=i) (by omega);have hi':(i:Int)<3:=by omega
   have hb:=qxo a b c d e f i hi;unfold qj8;generalize qf4 a b c d e f i=q at hb;obtain⟨x,y⟩:=q;simp only at hb⊢
   by_cases h1:x<y
   ·rw[if_pos h1]
    refine⟨by simp,?_⟩;simp[qzP,qH7,qNj,qNi,qNh,hi',hb,cut,h1,qaf,splice,qak,qam,qaC]
   ·rw[if_neg h1]
    by_cases h2:x>y
    ·rw[if_pos h2]
     refine⟨by simp,?_⟩;simp[qzP,qH7,qNj,qNi,qNh,qRN,qRM,hi',hb,cut,h1,h2,qaf,splice,qak,qam,qaC]
    ·rw[if_neg h2]
     refine⟨_,by simp[qzP,qH7,qNj,qNi,qNh,qRN,qRM,qWp,hi',hb,cut,h1,h2,hw,qaf,splice,qak,qam,qaC];rfl,?_⟩;simp[qad,qab])
  3 () 0 ⟨[(2,.ptr 1 0),(3,.ptr 2 0),(26,.d (.sl .sub (qzv a b c d e f))),(27,.d (.int .i64 3)),(28,.d (.int .i64 0))],[z,x0,x1]⟩ (by omega) (by simp[qad,qab])
 rw[key];cases runN (qj8 a b c d e f) 3 () 0<;>rfl
theorem quf(z:Option (List AV))(f v:Int)(ks:List T)(f' v':Int)(ks':List T)(hl:ks.length<=1099511627776)(hlen:ks.length=ks'.length)
 (hrec:∀s s',s∈ks->s'∈ks'->qac XV 6 [.d (s.enc .sub),.d (s'.enc .sub)] []=some (.d (.int .i64 (T.cmp s s')),[])):
 qbw XV [] 3 [2,3,47,48] qFZ ⟨[(2,.ptr 1 0),(3,.ptr 2 0),(47,.d (.int .i64 ks.length)),(48,.d (.int .i64 0))],z::qeR f v ks f' v' ks'⟩=
  some (if T.cmps ks ks'=0 then(.exit 3,⟨[(2,.ptr 1 0),(3,.ptr 2 0),(47,.d (.int .i64 ks.length)),(48,.d (.int .i64 ks.length)),(49,.d (.bool false))],z::qeR f v ks f' v' ks'⟩)else(.ret,⟨[(4,.d (.int .i64 (T.cmps ks ks')))],z::qeR f v ks f' v' ks'⟩)):=by
 have h:=qag (X:=XV) (T:=[]) (L:=3) (live:=[2,3,47,48]) (b:=qFZ) (n:=ks.length) (γ:=Int) (st:=fun(_:Unit) i=>⟨[(2,.ptr 1 0),(3,.ptr 2 0),(47,.d (.int .i64 ks.length)),(48,.d (.int .i64 i))],z::qeR f v ks f' v' ks'⟩) (step:=qmh ks ks')
  (F:=fun _=>(.exit 3,⟨[(2,.ptr 1 0),(3,.ptr 2 0),(47,.d (.int .i64 ks.length)),(48,.d (.int .i64 ks.length)),(49,.d (.bool false))],z::qeR f v ks f' v' ks'⟩)) (R:=fun r=>(.ret,⟨[(4,.d (.int .i64 r))],z::qeR f v ks f' v' ks'⟩))
  (fun _=>⟨by simp,by simp[qFZ,qsE]⟩)
  (fun _ i hi=>by
   have hw:=qae (n:=i) (by omega);have hi2:i<ks'.length:=by omega
   have hc:=hrec _ _ (qav hi) (qav hi2);unfold qmh qeR
   by_cases h0:T.cmp (tAt ks i) (tAt ks' i)=0
   ·rw[h0]at hc⊢
    simp only[ne_eq,not_true_eq_false,if_false];refine⟨_,by simp[qFZ,qsE,qB4,qI5,qB3,qB2,qB1,hi,hi2,hw,cut,qap hi,qap hi2,hc,qak];rfl,?_⟩;simp[qad,qab]
   ·simp only[ne_eq,h0,not_false_eq_true,if_true]
    have h0':(T.cmp (tAt ks i) (tAt ks' i) !=0)=true:=by simp[h0]
    refine⟨by simp,?_⟩;simp[qFZ,qsE,qB4,qI5,qB3,qB2,qB1,hi,hi2,cut,qap hi,qap hi2,hc,qak,h0'])
  ks.length () 0 ⟨[(2,.ptr 1 0),(3,.ptr 2 0),(47,.d (.int .i64 ks.length)),(48,.d (.int .i64 0))],z::qeR f v ks f' v' ks'⟩ (by omega) (by simp[qad,qab,qeR])
 rw[qRs ks ks' hlen _ _ (by omega)]at h;simp only[List.drop_zero]at h;rw[h]
 by_cases h0:T.cmps ks ks'=0<;>simp[h0]
theorem que(z:Option (List AV))(f v:Int)(ks:List T)(f' v':Int)(ks':List T)(hl:ks.length<=1099511627776)(hl':ks'.length<=1099511627776)
 (hrec:∀s s',s∈ks->s'∈ks'->qac XV 6 [.d (s.enc .sub),.d (s'.enc .sub)] []=some (.d (.int .i64 (T.cmp s s')),[])):
 qac XV 6 [.d ((T.node f v ks).enc .sub),.d ((T.node f' v' ks').enc .sub)] [z]=some (.d (.int .i64 (T.cmp (.node f v ks) (.node f' v' ks'))),[z]):=by
 rw[qah XV _ _ _ v6 rfl qAg rfl];have h1:=qug f f' v v' ks.length ks'.length (z::qeR f v ks f' v' ks') rfl;simp[v6,qWr,qWq,qaf,qai,qam,qaC,splice,qak,qaX,List.replicate];simp only[qzv,qeR]at h1;rw[h1,qjU];rcases qYd f f' v v' ks.length ks'.length with⟨h3,e1,e2,e3⟩|⟨r,h3,h4⟩
 ·rw[h3]
  have hlen:ks.length=ks'.length:=by omega
  have h2:=quf z f v ks f' v' ks' hl hlen hrec;simp only[qeR]at h2;subst e1;subst e2
  simp[qWo,qak];rw[h2];have h5:qrw f f v v ks.length ks'.length (T.cmps ks ks')=T.cmps ks ks':=by simp[qrw,hlen]
  rw[h5]
  by_cases c7:T.cmps ks ks'=0
  ·simp[c7,qNk]
  ·simp[c7]
 ·rw[h3,h4];simp
theorem qfv(z:Option (List AV))(a b:T)(ha:a.inner<=1099511627776)(hb:b.inner<=1099511627776):qac XV 6 [.d (a.enc .sub),.d (b.enc .sub)] [z]=some (.d (.int .i64 (T.cmp a b)),[z]):=by
 obtain⟨f,v,ks⟩:=a;obtain⟨f',v',ks'⟩:=b;simp only[T.inner]at ha hb;exact que z f v ks f' v' ks' (by omega) (by omega) (fun s s' hs hs'=>qgu s s' (by have:=T.qay hs;omega) (by have:=T.qay hs';omega))
theorem qsp(A Z:List T)(x:T):tAt (A++x::Z) A.length=x:=by simp[tAt]
theorem qnS(A M Z:List T)(x y:T)(q:Nat)(hq:q=A.length+1+M.length):swp (A++x::(M++y::Z)) A.length q=A++y::(M++x::Z):=by
 subst hq;have h1:tAt (A++x::(M++y::Z)) (A.length+1+M.length)=y:=by
  have:=qsp (A++x::M) Z y;simp only[yg_,List.length_cons,yh_,List.cons_append]at this;rw[show A.length+1+M.length=A.length+(M.length+1)by omega];exact this
 have h2:=qsp A (M++y::Z) x;unfold swp;rw[h1,h2];have s1:(A++x::(M++y::Z)).set (A.length+1+M.length) x=A++x::(M++x::Z):=by
  have:=List.set_append_right (s:=A++x::M) (t:=y::Z) (A.length+1+M.length) x (by simp;omega);simp only[yh_,List.cons_append,yg_,List.length_cons]at this;rw[this,show A.length+1+M.length-(A.length+(M.length+1))=0 by omega];rfl
 rw[s1,List.set_append_right _ _ (Nat.le_refl _),Nat.sub_self];rfl
theorem quK(l:List T)(p q:Nat)(h:p≠q):swp l p q=swp l q p:=by
 unfold swp;rw[List.set_comm _ _ h]
theorem qM1(l:List T)(a b i:Nat)(n:Int)(hn:l.length<=1099511627776)(ha:a+i<l.length)(hb:b+i<l.length)(hab:b≠a):
 qau XV [29,35] (.region true 0 [0,1,2,3,10] qws) ⟨[(0,.tsl true 0 3 l.length),(1,.d (.int .i64 a)),(2,.d (.int .i64 b)),(3,.d (.int .i64 n)),(10,.d (.int .i64 i)),(13,.d (.bool true))],[some (kc l)]⟩=some (.normal,⟨[(0,.tsl true 0 3 l.length),(1,.d (.int .i64 a)),(2,.d (.int .i64 b)),(3,.d (.int .i64 n)),(10,.d (.int .i64 i))],[some (kc (swp l (b+i) (a+i)))]⟩):=by
 have hwa:IntKind.i64.wrap ((a:Int)+i)=((a+i:Nat):Int):=by rw[wrap_i64 (by omega) (by omega)];omega
 have hwb:IntKind.i64.wrap ((b:Int)+i)=((b+i:Nat):Int):=by rw[wrap_i64 (by omega) (by omega)];omega
 obtain⟨c1,c2,c3,l1,l2,l3,f1,f2,f3,f4,f5,f6⟩:=qgm l (b+i) (a+i) hb ha (by omega);have l0:=qhJ l;generalize kc (swp l (b+i) (a+i))=c4 at f6⊢
 generalize kc l=c0 at f1 f2 l0⊢
 generalize hn':l.length=m at*
 have hj0:(0:Int)<=((a+i:Nat):Int)/\((a+i:Nat):Int)<m:=⟨by omega,by omega⟩;have hk0:(0:Int)<=((b+i:Nat):Int)/\((b+i:Nat):Int)<m:=⟨by omega,by omega⟩;have hjn:((a+i:Nat):Int).toNat=a+i:=rfl;have hkn:((b+i:Nat):Int).toNat=b+i:=rfl;have le0:(a+i)*3+3<=m*3:=by omega
 have le1:(b+i)*3+3<=m*3:=by omega
 generalize ((a+i:Nat):Int)=J at hwa hj0 hjn⊢
 generalize ((b+i:Nat):Int)=K at hwb hk0 hkn⊢
 simp only[qjs,qo1,qaa]at f1 f2 f3 f4 f5 f6;have hcls:∀x y z:AV,AV.clrs [x,y,z]=[x.clr,y.clr,z.clr]:=fun x y z=>by simp only[AV.clrs]
 simp[qU3,hwa,hwb,hj0,hjn,hk0,hkn,l0,l1,l2,l3,f1,f2,f3,f4,f5,f6,le0,le1,hcls,qam,qaf,qai,qaC]
def srS(A P Q R Z:List T)(i:Nat):List T:=A++R.take i++P.drop i++Q++P.take i++R.drop i++Z
theorem qM4(A P Q R Z:List T)(i:Nat)(h:P.length=R.length):(srS A P Q R Z i).length=(A++P++Q++R++Z).length:=by simp[srS];omega
theorem qHu(A P Q R Z:List T)(i:Nat)(h:P.length=R.length)(hi:i<P.length):swp (srS A P Q R Z i) (A.length+P.length+Q.length+i) (A.length+i)=srS A P Q R Z (i+1):=by
 have hi2:i<R.length:=by omega
 have e0:srS A P Q R Z i=(A++R.take i)++P[i]::((P.drop (i+1)++Q++P.take i)++R[i]::(R.drop (i+1)++Z)):=by
  unfold srS;rw[List.drop_eq_getElem_cons hi,List.drop_eq_getElem_cons hi2];simp only[yh_,List.cons_append]
 have e1:srS A P Q R Z (i+1)=(A++R.take i)++R[i]::((P.drop (i+1)++Q++P.take i)++P[i]::(R.drop (i+1)++Z)):=by
  unfold srS;rw[<-List.take_append_getElem hi,<-List.take_append_getElem hi2];simp only[yh_,List.cons_append,List.nil_append]
 have hl:(A++R.take i).length=A.length+i:=by simp;omega
 rw[e0,e1,quK _ _ _ (by omega),<-hl];exact qnS _ _ _ _ _ _ (by simp;omega)
theorem qpF(A P Q R Z:List T)(h:P.length=R.length)(hn:(A++P++Q++R++Z).length<=1099511627776)(f:AV)(hf:f.clr=f):
 qac XV 175 [.tsl true 0 3 (A++P++Q++R++Z).length,.d (.int .i64 A.length),.d (.int .i64 (A.length+P.length+Q.length:Nat)),.d (.int .i64 P.length),f] [some (kc (A++P++Q++R++Z))]=some (.d (.tup []),[some (kc (A++R++Q++P++Z))]):=by
 rw[qah XV _ _ _ qQ4 rfl qAW rfl];have hlen:∀i,(srS A P Q R Z i).length=(A++P++Q++R++Z).length:=fun i=>qM4 A P Q R Z i h
 have e0:srS A P Q R Z 0=A++P++Q++R++Z:=by simp[srS]
 have e1:srS A P Q R Z P.length=A++R++Q++P++Z:=by
  unfold srS;rw[List.drop_of_length_le (l:=R) (by omega),List.take_of_length_le (l:=R) (by omega)];simp
 rw[<-e0,<-e1];generalize hN:(A++P++Q++R++Z).length=N at hn hlen;have hN2:N=A.length+P.length+Q.length+R.length+Z.length:=by rw[<-hN];simp;omega
 rw[hlen 0];have hloop:=qag (X:=XV) (T:=[29,35]) (L:=1) (live:=[0,1,2,3,10]) (b:=qxF) (n:=P.length) (γ:=Unit) (st:=fun(_:Unit) i=>⟨[(0,.tsl true 0 3 N),(1,.d (.int .i64 A.length)),(2,.d (.int .i64 (A.length+P.length+Q.length:Nat))),(3,.d (.int .i64 P.length)),(10,.d (.int .i64 i))],[some (kc (srS A P Q R Z i))]⟩) (step:=fun _ _=> .inl ())
  (F:=fun _=>(.exit 0,⟨[(0,.tsl true 0 3 N),(1,.d (.int .i64 A.length)),(2,.d (.int .i64 (A.length+P.length+Q.length:Nat))),(3,.d (.int .i64 P.length)),(10,.d (.int .i64 P.length)),(13,.d (.bool false))],[some (kc (srS A P Q R Z P.length))]⟩)) (R:=fun _=>(.ret,⟨[],[]⟩))
  (fun _=>⟨by simp,by simp[qxF,qC7]⟩)
  (fun _ i hi=>by
   have hw:=qae (n:=i) (by omega);have hs:=qM1 (srS A P Q R Z i) A.length (A.length+P.length+Q.length) i P.length (by rw[hlen];exact hn) (by rw[hlen];omega) (by rw[hlen];omega) (by omega);rw[qHu A P Q R Z i h hi,hlen]at hs;have hi':(i:Int)<P.length:=by omega
   generalize hc2:kc (srS A P Q R Z (i+1))=c2 at hs;generalize kc (srS A P Q R Z i)=c1 at hs⊢
   exact⟨⟨[(0,.tsl true 0 3 N),(1,.d (.int .i64 A.length)),(2,.d (.int .i64 (A.length+P.length+Q.length:Nat))),(3,.d (.int .i64 P.length)),(10,.d (.int .i64 (i+1:Nat)))],[some c2]⟩,by
    simp[qxF,qC7,qKU,hi];simp only[Int.natCast_add]at hs;rw[hs];simp[hw],by simp[qad,qab,qaE,hc2]⟩)
  P.length () 0 ⟨[(0,.tsl true 0 3 N),(1,.d (.int .i64 A.length)),(2,.d (.int .i64 (A.length+P.length+Q.length:Nat))),(3,.d (.int .i64 P.length)),(10,.d (.int .i64 0))],[some (kc (srS A P Q R Z 0))]⟩ (by omega) (by simp[qad,qab,qaE])
 rw[qdp]at hloop;generalize kc (srS A P Q R Z P.length)=c2 at hloop⊢
 generalize kc (srS A P Q R Z 0)=c1 at hloop⊢
 generalize ((A.length+P.length+Q.length:Nat):Int)=K at hloop⊢
 simp[qQ4,qKV];rw[hloop];simp
theorem qfV(A P Q R Z:List T)(a b n N:Nat)(ha:a=A.length)(hb:b=A.length+P.length+Q.length)(hn':n=P.length)(hr:n=R.length)(hN:N=(A++P++Q++R++Z).length)(hn:N<=1099511627776)(f:AV)(hf:f.clr=f):
 qac XV 175 [.tsl true 0 3 N,.d (.int .i64 a),.d (.int .i64 b),.d (.int .i64 n),f] [some (kc (A++P++Q++R++Z))]=some (.d (.tup []),[some (kc (A++R++Q++P++Z))]):=by
 subst ha;subst hb;subst hn';subst hN
 exact qpF A P Q R Z hr hn f hf
theorem qHS(G:List T)(m N:Nat)(hN:N<=1099511627776)(f:AV)(hf:f.clr=f)(hfs:f.safe 1=true):∀(k:Nat) (A X Y Z:List T),X.length+Y.length<=k->0<X.length->0<Y.length->A.length+X.length=m->(A++X++Y++Z).length=N->G=A++Y++X++Z->
 ∃(A2 X2 Y2 Z2:List T),X2.length=Y2.length/\A2.length+X2.length=m/\(A2++X2++Y2++Z2).length=N/\G=A2++Y2++X2++Z2/\
  qbw XV [] 1 [0,2,4,10,11] qrM ⟨[(0,.tsl true 0 3 N),(2,.d (.int .i64 m)),(4,f),(10,.d (.int .i64 X.length)),(11,.d (.int .i64 Y.length))],[some (kc (A++X++Y++Z))]⟩=some (.exit 0,⟨[(0,.tsl true 0 3 N),(2,.d (.int .i64 m)),(4,f),(10,.d (.int .i64 X2.length)),(11,.d (.int .i64 X2.length)),(20,.d (.bool false))],[some (kc (A2++X2++Y2++Z2))]⟩):=by
 intro k
 induction k with
 |zero=>intro A X Y Z h1 h2;omega
 |succ k ih=>
  intro A X Y Z hk hx hy hm hl hG;have hl2:A.length+X.length+Y.length+Z.length=N:=by rw[<-hl];simp;omega
  have head:∀(x y:Nat) (c:List AV),qad 1 [0,2,4,10,11] ⟨[(0,.tsl true 0 3 N),(2,.d (.int .i64 m)),(4,f),(10,.d (.int .i64 x)),(11,.d (.int .i64 y))],[some c]⟩=some ⟨[(0,.tsl true 0 3 N),(2,.d (.int .i64 m)),(4,f),(10,.d (.int .i64 x)),(11,.d (.int .i64 y))],[some c]⟩:=fun x y c=>by
   simp[qad,qab,qaE,hfs]
  rcases Nat.lt_trichotomy X.length Y.length with hlt|heq|hgt
  ·
   have hq:(Y.take (Y.length-X.length)).length=Y.length-X.length:=by simp
   have hr:(Y.drop (Y.length-X.length)).length=X.length:=by simp;omega
   generalize hQ:Y.take (Y.length-X.length)=Q at hq;generalize hR:Y.drop (Y.length-X.length)=R at hr;have hY:Y=Q++R:=by rw[<-hQ,<-hR,List.take_append_drop]
   have hs:=qfV A X Q R Z A.length (m+Y.length-X.length) X.length N rfl (by omega) rfl hr.symm (by simp;omega) hN f hf;obtain⟨A2,X2,Y2,Z2,r1,r2,r3,r4,r5⟩:=ih A R Q (X++Z) (by omega) (by omega) (by omega) (by omega) (by simp;omega) (by rw[hG,hY];simp);refine⟨A2,X2,Y2,Z2,r1,r2,r3,r4,?_⟩;rw[<-r5,hr,hq];have e1:A++X++Y++Z=A++X++Q++R++Z:=by rw[hY];simp
   have e2:A++R++Q++(X++Z)=A++R++Q++X++Z:=by simp
   rw[e1,e2];have w1:IntKind.i64.wrap ((m:Int)-X.length)=(A.length:Int):=by rw[wrap_i64 (by omega) (by omega)];omega
   have w2:IntKind.i64.wrap ((m:Int)+Y.length)=((m+Y.length:Nat):Int):=by rw[wrap_i64 (by omega) (by omega)];omega
   have w3:IntKind.i64.wrap (((m+Y.length:Nat):Int)-X.length)=((m+Y.length-X.length:Nat):Int):=by rw[wrap_i64 (by omega) (by omega)];omega
   have w4:IntKind.i64.wrap ((Y.length:Int)-X.length)=((Y.length-X.length:Nat):Int):=by rw[wrap_i64 (by omega) (by omega)];omega
   refine qbD (head _ _ _) ?_;have n1:((X.length:Int) !=(Y.length:Int))=true:=by simp;omega
   have n2:¬((Y.length:Int)<X.length):=by omega
   generalize kc (A++X++Q++R++Z)=c1 at hs⊢
   generalize kc (A++R++Q++X++Z)=c2 at hs⊢
   generalize ((m+Y.length-X.length:Nat):Int)=gv1 at*
   generalize ((m+Y.length:Nat):Int)=gv2 at*
   generalize ((Y.length-X.length:Nat):Int)=gv3 at*
   generalize (X.length:Int)=vx at*
   generalize (Y.length:Int)=vy at*
   simp[qrM,qwt,qDc,qDb,qDa,qC9,qC8,n1,n2,w1,w2,w3,w4,hs,hf]
  ·
   refine⟨A,X,Y,Z,heq,hm,hl,hG,?_⟩;rw[<-heq];refine qa5 (head _ _ _) ?_ (by simp);simp[qrM,qwt]
  ·have hp:(X.take Y.length).length=Y.length:=by simp;omega
   have hq:(X.drop Y.length).length=X.length-Y.length:=by simp
   generalize hP:X.take Y.length=P at hp;generalize hQ:X.drop Y.length=Q at hq;have hX:X=P++Q:=by rw[<-hP,<-hQ,List.take_append_drop]
   have hs:=qfV A P Q Y Z A.length m Y.length N rfl (by omega) hp.symm rfl (by simp;omega) hN f hf;obtain⟨A2,X2,Y2,Z2,r1,r2,r3,r4,r5⟩:=ih (A++Y) Q P Z (by omega) (by omega) (by omega) (by simp;omega) (by simp;omega) (by rw[hG,hX];simp);refine⟨A2,X2,Y2,Z2,r1,r2,r3,r4,?_⟩;rw[<-r5,hp,hq];have e1:A++X++Y++Z=A++P++Q++Y++Z:=by rw[hX];simp
   rw[e1];have w1:IntKind.i64.wrap ((m:Int)-X.length)=(A.length:Int):=by rw[wrap_i64 (by omega) (by omega)];omega
   have w4:IntKind.i64.wrap ((X.length:Int)-Y.length)=((X.length-Y.length:Nat):Int):=by rw[wrap_i64 (by omega) (by omega)];omega
   refine qbD (head _ _ _) ?_;have n1:((X.length:Int) !=(Y.length:Int))=true:=by simp;omega
   have n2:((Y.length:Int)<X.length):=by omega
   generalize kc (A++P++Q++Y++Z)=c1 at hs⊢
   generalize kc (A++Y++Q++P++Z)=c2 at hs⊢
   generalize ((X.length-Y.length:Nat):Int)=gv3 at*
   generalize (X.length:Int)=vx at*
   generalize (Y.length:Int)=vy at*
   simp[qrM,qwt,qDc,qDb,qDa,qC9,qC8,n1,n2,w1,w4,hs,hf]
theorem qBN(A X Y Z:List T)(a m b N:Nat)(ha:a=A.length)(hm:m=A.length+X.length)(hb:b=A.length+X.length+Y.length)(hN:N=(A++X++Y++Z).length)(hn:N<=1099511627776)(hx:0<X.length)(hy:0<Y.length)(f:AV)(hf:f.clr=f)(hfs:f.safe 1=true):
 qac XV 174 [.tsl true 0 3 N,.d (.int .i64 a),.d (.int .i64 m),.d (.int .i64 b),f] [some (kc (A++X++Y++Z))]=some (.d (.tup []),[some (kc (A++Y++X++Z))]):=by
 have hl:A.length+X.length+Y.length+Z.length=N:=by rw[hN];simp;omega
 obtain⟨A2,X2,Y2,Z2,r1,r2,r3,r4,r5⟩:=qHS (A++Y++X++Z) m N hn f hf hfs (X.length+Y.length) A X Y Z (Nat.le_refl _) hx hy hm.symm hN.symm rfl;have hl2:A2.length+X2.length+Y2.length+Z2.length=N:=by rw[<-r3];simp;omega
 have hs:=qfV A2 X2 [] Y2 Z2 A2.length m X2.length N rfl (by simp;omega) rfl r1 (by simp;omega) hn f hf;simp only[List.append_nil]at hs;rw[qah XV _ _ _ qQ5 rfl qAX rfl,r4];have w1:IntKind.i64.wrap ((m:Int)-a)=(X.length:Int):=by rw[wrap_i64 (by omega) (by omega)];omega
 have w2:IntKind.i64.wrap ((b:Int)-m)=(Y.length:Int):=by rw[wrap_i64 (by omega) (by omega)];omega
 have w3:IntKind.i64.wrap ((m:Int)-X2.length)=(A2.length:Int):=by rw[wrap_i64 (by omega) (by omega)];omega
 generalize kc (A++X++Y++Z)=c1 at*
 generalize kc (A2++X2++Y2++Z2)=c2 at*
 generalize kc (A2++Y2++X2++Z2)=c3 at*
 simp[qQ5,qKY,qKX,w1,w2];rw[r5];simp[qKW,w3,hf,hs]
theorem qqO(l:List T)(i:Nat)(hi:i<l.length):((kc l).drop (i*3)).take 3=e3 (tAt l i):=by
 unfold kc;rw[qhS (qpf l) i (by simpa using hi)];simp[qap hi]
theorem qVd(l:List T)(a:Nat)(j:Nat)(hn:l.length<=1099511627776)(hl:j+1<l.length)(ha:a<j+1)(hb:∀t,t∈l->t.inner<=1099511627776)(x2 x8:AV):
 qau XV [46,50] (.region true 0 [0,1,2,3,8,9,34] qwx) ⟨[(0,.tsl true 0 3 l.length),(1,.d (.int .i64 a)),(2,x2),(3,.fn 6 []),(8,x8),(9,.d (.int .i64 ((j+1:Nat):Int)))],[some (kc l)]⟩=some (.normal,⟨[(0,.tsl true 0 3 l.length),(1,.d (.int .i64 a)),(2,x2),(3,.fn 6 []),(8,x8),(9,.d (.int .i64 ((j+1:Nat):Int))),(34,.d (.bool (decide (T.cmp (tAt l (j+1)) (tAt l j)<0))))],[some (kc l)]⟩):=by
 have hw:IntKind.i64.wrap (((j+1:Nat):Int)-1)=(j:Int):=by rw[show((j+1:Nat):Int)-1=(j:Int)by omega];exact wrap_i64 (by omega) (by omega)
 have hc:=qfv (some (kc l)) (tAt l (j+1)) (tAt l j) (hb _ (qav hl)) (hb _ (qav (by omega)));have f1:=qqO l j (by omega);have f2:=qqO l (j+1) hl;have l0:=qhJ l;generalize T.cmp (tAt l (j+1)) (tAt l j)=r at hc⊢
 generalize kc l=c0 at f1 f2 l0 hc⊢
 generalize hn':l.length=n at*
 have hj0:(0:Int)<=((j+1:Nat):Int)/\((j+1:Nat):Int)<n:=⟨by omega,by omega⟩;have hjn:((j+1:Nat):Int).toNat=j+1:=rfl;have hi0:(j:Int)<n:=by omega
 have le0:j*3+3<=n*3:=by omega
 have le1:(j+1)*3+3<=n*3:=by omega
 have hja:((a:Int)<((j+1:Nat):Int)):=by omega
 generalize ((j+1:Nat):Int)=J at hw hj0 hjn hja⊢
 obtain⟨fa,va,ka⟩:=tAt l (j+1);obtain⟨fb,vb,kb⟩:=tAt l j;simp only[qjs,qaa]at f1 f2;simp[qL2,hw,hj0,hjn,hi0,hja,l0,f1,f2,le0,le1,hc]
theorem qw2(A Z:List T)(x:T)(i:Nat)(h:i=A.length):tAt (A++x::Z) i=x:=by subst h;exact qsp A Z x
theorem qtI(N a:Nat)(hn:N<=1099511627776)(x2 x8:Int)(x:T):∀(k:Nat) (A S T1:List T),S.length=k->A.length=a->(A++S++x::T1).length=N->(∀t,t∈A++S++x::T1->t.inner<=1099511627776)->
 ∃S1 S2:List T,S=S1++S2/\(∀s,s∈S2->T.cmp x s<0)/\(∀s,S1.getLast?=some s->¬T.cmp x s<0)/\
  ∀(s0:XS),s0.r=[(0,.tsl true 0 3 N),(1,.d (.int .i64 a)),(2,.d (.int .i64 x2)),(3,.fn 6 []),(8,.d (.int .i64 x8)),(9,.d (.int .i64 (a+S.length:Nat)))]->s0.B=[some (kc (A++S++x::T1))]->
  ∃w,qbw XV [46,50] 1 [0,1,2,3,8,9] qrP s0=some (.exit 2,⟨[(0,.tsl true 0 3 N),(1,.d (.int .i64 a)),(2,.d (.int .i64 x2)),(3,.fn 6 []),(8,.d (.int .i64 x8)),(9,.d (.int .i64 (a+S1.length:Nat))),(34,w)],[some (kc (A++S1++x::(S2++T1)))]⟩):=by
 have head:∀(y:Int) (c:List AV) (s0:XS),s0.r=[(0,.tsl true 0 3 N),(1,.d (.int .i64 a)),(2,.d (.int .i64 x2)),(3,.fn 6 []),(8,.d (.int .i64 x8)),(9,.d (.int .i64 y))]->s0.B=[some c]->qad 1 [0,1,2,3,8,9] s0=some ⟨[(0,.tsl true 0 3 N),(1,.d (.int .i64 a)),(2,.d (.int .i64 x2)),(3,.fn 6 []),(8,.d (.int .i64 x8)),(9,.d (.int .i64 y))],[some c]⟩:=fun y c s0 h1 h2=>by
  obtain⟨r,B⟩:=s0;simp only at h1 h2;subst h1;subst h2
  simp[qad,qab,qaE,qcN,qbi]
 intro k
 induction k with
 |zero=>
  intro A S T1 hS hA hN hb;have:S=[]:=List.length_eq_zero_iff.1 hS;subst this;refine⟨[],[],rfl,by simp,by simp,fun s0 h1 h2=>⟨.d (.bool false),?_⟩⟩;refine qa5 (head _ _ s0 h1 h2) ?_ (by simp);simp[qrP,qL2,qDq]
 |succ k ih=>
  intro A S T1 hS hA hN hb;have hne:S≠[]:=by intro h;simp[h]at hS
  obtain⟨S',s,rfl⟩:∃S' s,S=S'++[s]:=⟨S.dropLast,S.getLast hne,(List.dropLast_concat_getLast hne).symm⟩;have hS':S'.length=k:=by simpa using hS
  have hl0:A++(S'++[s])++x::T1=(A++S')++s::([]++x::T1):=by simp
  have hl1:A++S'++x::(s::T1)=(A++S')++x::([]++s::T1):=by simp
  have hNl:A.length+S'.length+T1.length+2=N:=by rw[<-hN];simp;omega
  have hja:a+(S'++[s]).length=(a+S'.length)+1:=by simp;omega
  have t0:tAt (A++(S'++[s])++x::T1) (a+S'.length)=s:=by rw[hl0];exact qw2 _ _ _ _ (by simp[hA])
  have t1:tAt (A++(S'++[s])++x::T1) (a+S'.length+1)=x:=qw2 _ _ _ _ (by simp;omega);have hc:=qVd (A++(S'++[s])++x::T1) a (a+S'.length) (by rw[hN];exact hn) (by rw[hN];omega) (by omega) hb (.d (.int .i64 x2)) (.d (.int .i64 x8));rw[t0,t1,hN]at hc
  by_cases hq:T.cmp x s<0
  ·have hsw:=qM2 (A++(S'++[s])++x::T1) (a+S'.length) (by rw[hN];exact hn) (by rw[hN];omega) (.d (.int .i64 a)) (.d (.int .i64 x2)) (.fn 6 []) (.d (.int .i64 x8)) (by simp) (by simp)
   have hsp:swp (A++(S'++[s])++x::T1) (a+S'.length) (a+S'.length+1)=A++S'++x::(s::T1):=by
    rw[hl0,hl1,show a+S'.length=(A++S').length by simp[hA]];exact qnS _ [] _ _ _ _ (by simp)
   rw[hsp,hN]at hsw;obtain⟨S1,S2,e1,e2,e3,e4⟩:=ih A S' (s::T1) hS' hA (by simp;omega) (fun t ht=>hb t (by
    simp only[List.mem_append,List.mem_cons]at ht;rcases ht with(h|h)|h|h|h<;>simp[h]))
   refine⟨S1,S2++[s],by rw[e1];simp,fun y hy=> ?_,e3,fun s0 h1 h2=> ?_⟩
   ·rcases List.mem_append.1 hy with h|h
    ·exact e2 y h
    ·simp at h;subst h;exact hq
   ·rw[hja]at h1
    have hw:=wrap_i64 (n:=((a+S'.length:Nat):Int)) (by omega) (by omega);obtain⟨w,hlo⟩:=e4 ⟨[(0,.tsl true 0 3 N),(1,.d (.int .i64 a)),(2,.d (.int .i64 x2)),(3,.fn 6 []),(8,.d (.int .i64 x8)),(9,.d (.int .i64 (a+S'.length:Nat)))],[some (kc (A++S'++x::(s::T1)))]⟩ rfl rfl;refine⟨w,?_⟩;have hap:S2++[s]++T1=S2++(s::T1):=by simp
    rw[hap,<-hlo];refine qbD (head _ _ s0 h1 h2) ?_;have hw1:IntKind.i64.wrap (((a+S'.length+1:Nat):Int)-1)=((a+S'.length:Nat):Int):=by rw[show((a+S'.length+1:Nat):Int)-1=((a+S'.length:Nat):Int)by omega];exact hw
    simp only[hq,decide_true]at hc;generalize kc (A++S'++x::(s::T1))=c2 at hsw⊢
    generalize kc (A++(S'++[s])++x::T1)=c1 at hc hsw⊢
    generalize ((a+S'.length+1:Nat):Int)=J at*
    generalize ((a+S'.length:Nat):Int)=I at*
    simp only[qrP,qlL,hc];simp;rw[hsw];simp[qDq,hw1]
  ·refine⟨S'++[s],[],by simp,by simp,fun y hy=> ?_,fun s0 h1 h2=>⟨.d (.bool false),?_⟩⟩
   ·simp at hy;subst hy;exact hq
   ·rw[hja]at h1⊢
    refine qa5 (head _ _ s0 h1 h2) ?_ (by simp);simp only[hq,decide_false]at hc;simp only[List.nil_append];generalize kc (A++(S'++[s])++x::T1)=c1 at hc⊢
    generalize ((a+S'.length+1:Nat):Int)=J at*
    simp only[qrP,qlL,hc];simp
theorem qyd{S1 S2:List T}{x:T}(h:Srt (S1++S2))(h2:∀s,s∈S2->T.cmp x s<0)(h1:∀s,S1.getLast?=some s->¬T.cmp x s<0):Srt (S1++x::S2):=by
 unfold Srt at*
 rw[List.pairwise_append]at h⊢
 obtain⟨p1,p2,p3⟩:=h;have hx:∀s,s∈S1->tle s x:=by
  intro s hs;have hne:S1≠[]:=fun he=>by rw[he]at hs;simp at hs
  have hl:=qci (h1 (S1.getLast hne) (List.getLast?_eq_some_getLast hne))
  by_cases he:s=S1.getLast hne
  ·rw[he];exact hl
  ·have hd:s∈S1.dropLast:=by
    have:=List.dropLast_concat_getLast hne;rw[<-this]at hs;rcases List.mem_append.1 hs with h|h
    ·exact h
    ·simp at h;exact absurd h he
   have hp:(S1.dropLast++[S1.getLast hne]).Pairwise tle:=by rw[List.dropLast_concat_getLast];exact p1
   exact qfU ((List.pairwise_append.1 hp).2.2 s hd _ (by simp)) hl
 refine⟨p1,List.pairwise_cons.2 ⟨fun s hs=>qez (h2 s hs),p2⟩,fun s hs t ht=> ?_⟩;rcases List.mem_cons.1 ht with rfl|ht
 ·exact hx s hs
 ·exact p3 s hs t ht
theorem qqS(N a b:Nat)(hn:N<=1099511627776)(A Z:List T)(hA:A.length=a):∀(R S:List T),0<S.length->b=a+S.length+R.length->(A++S++R++Z).length=N->(∀t,t∈A++S++R++Z->t.inner<=1099511627776)->Srt S->
 ∃W:List T,W.Perm (S++R)/\Srt W/\
  ∀(s0:XS),s0.r=[(0,.tsl true 0 3 N),(1,.d (.int .i64 a)),(2,.d (.int .i64 b)),(3,.fn 6 []),(8,.d (.int .i64 (a+S.length:Nat)))]->s0.B=[some (kc (A++S++R++Z))]->
  qbw XV [46,50] 1 [0,1,2,3,8] qjx s0=some (.exit 0,⟨[(0,.tsl true 0 3 N),(1,.d (.int .i64 a)),(2,.d (.int .i64 b)),(3,.fn 6 []),(8,.d (.int .i64 b)),(14,.d (.bool false))],[some (kc (A++W++Z))]⟩):=by
 have head:∀(y:Int) (c:List AV) (s0:XS),s0.r=[(0,.tsl true 0 3 N),(1,.d (.int .i64 a)),(2,.d (.int .i64 b)),(3,.fn 6 []),(8,.d (.int .i64 y))]->s0.B=[some c]->qad 1 [0,1,2,3,8] s0=some ⟨[(0,.tsl true 0 3 N),(1,.d (.int .i64 a)),(2,.d (.int .i64 b)),(3,.fn 6 []),(8,.d (.int .i64 y))],[some c]⟩:=fun y c s0 h1 h2=>by
  obtain⟨r,B⟩:=s0;simp only at h1 h2;subst h1;subst h2
  simp[qad,qab,qaE,qcN,qbi]
 intro R
 induction R with
 |nil=>
  intro S hS hb hN hin hs;refine⟨S,by simp,hs,fun s0 h1 h2=> ?_⟩;have hb':b=a+S.length:=by simpa using hb
  rw[<-hb']at h1;rw[List.append_nil]at h2;refine qa5 (head _ _ s0 h1 h2) ?_ (by simp);simp[qjx,qqr]
 |cons x R ih=>
  intro S hS hb hN hin hs;obtain⟨S1,S2,e1,e2,e3,e4⟩:=qtI N a hn b (a+S.length:Nat) x S.length A S (R++Z) rfl hA (by rw[<-hN];simp) (fun t ht=>hin t (by
   simp only[List.mem_append,List.mem_cons]at ht⊢
   rcases ht with(h|h)|h|h|h<;>simp[h]))
  have hW:Srt (S1++x::S2):=qyd (by rw[<-e1];exact hs) e2 e3;have hlen:(S1++x::S2).length=S.length+1:=by rw[e1];simp;omega
  have hperm:(S1++x::S2).Perm (S++[x]):=by
   rw[e1];exact(List.perm_middle).trans (by
    have:=List.perm_append_comm (l₁:=[x]) (l₂:=S1++S2);simpa using this)
  have hl0:(A++(S1++x::S2)++R++Z).length=N:=by rw[<-hN,e1];simp;omega
  obtain⟨W,w1,w2,w3⟩:=ih (S1++x::S2) (by rw[hlen];omega) (by rw[hlen,hb];simp;omega) hl0 (fun t ht=>hin t (by
   rw[e1];simp only[List.mem_append,List.mem_cons]at ht⊢
   rcases ht with((h|h|h|h)|h)|h<;>simp[h])) hW
  refine⟨W,w1.trans ((hperm.append_right R).trans (by simp)),w2,fun s0 h1 h2=> ?_⟩;have hNl:A.length+S.length+(R.length+1)+Z.length=N:=by rw[<-hN];simp;omega
  have hbl:((a+S.length:Nat):Int)<(b:Int):=by
   simp only[List.length_cons]at hb;omega
  obtain⟨w,hlo⟩:=e4 ⟨[(0,.tsl true 0 3 N),(1,.d (.int .i64 a)),(2,.d (.int .i64 b)),(3,.fn 6 []),(8,.d (.int .i64 (a+S.length:Nat))),(9,.d (.int .i64 (a+S.length:Nat)))],[some (kc (A++S++x::(R++Z)))]⟩ rfl rfl;have hc0:A++S++x::R++Z=A++S++x::(R++Z):=by simp
  rw[hc0]at h2;have hw:=qae (n:=a+S.length) (by omega);have hnext:=w3 ⟨[(0,.tsl true 0 3 N),(1,.d (.int .i64 a)),(2,.d (.int .i64 b)),(3,.fn 6 []),(8,.d (.int .i64 (a+(S1++x::S2).length:Nat)))],[some (kc (A++(S1++x::S2)++R++Z))]⟩ rfl rfl;rw[<-hnext];refine qbD (head _ _ s0 h1 h2) ?_;have hc1:A++(S1++x::S2)++R++Z=A++S1++x::(S2++(R++Z)):=by simp
  rw[hc1,hlen,show a+(S.length+1)=a+S.length+1 by omega];generalize kc (A++S1++x::(S2++(R++Z)))=c2 at hlo⊢
  generalize kc (A++S++x::(R++Z))=c1 at hlo⊢
  generalize ((a+S.length+1:Nat):Int)=J at*
  generalize ((a+S.length:Nat):Int)=I at*
  simp[qjx,qqr,qK3,qK2,hbl];rw[hlo];simp[hw]
theorem qhL(A X Z:List T)(a b N:Nat)(ha:a=A.length)(hb:b=A.length+X.length)(hN:N=(A++X++Z).length)(hn:N<=1099511627776)(hin:∀t,t∈A++X++Z->t.inner<=1099511627776):
 ∃W:List T,W.Perm X/\Srt W/\qac XV 172 [.tsl true 0 3 N,.d (.int .i64 a),.d (.int .i64 b),.fn 6 []] [some (kc (A++X++Z))]=some (.d (.tup []),[some (kc (A++W++Z))]):=by
 have hNl:A.length+X.length+Z.length=N:=by rw[hN];simp;omega
 have hw:=qae (n:=a) (by omega);cases X with
 |nil=>
  refine⟨[],List.Perm.refl _,List.Pairwise.nil,?_⟩;rw[qah XV _ _ _ qHe rfl qjZ rfl];have hb':b=a:=by simp at hb;omega
  subst hb';have hlo:qbw XV [46,50] 1 [0,1,2,3,8] qjx ⟨[(0,.tsl true 0 3 N),(1,.d (.int .i64 b)),(2,.d (.int .i64 b)),(3,.fn 6 []),(8,.d (.int .i64 (b+1:Nat)))],[some (kc (A++[]++Z))]⟩=some (.exit 0,⟨[(0,.tsl true 0 3 N),(1,.d (.int .i64 b)),(2,.d (.int .i64 b)),(3,.fn 6 []),(8,.d (.int .i64 (b+1:Nat))),(14,.d (.bool false))],[some (kc (A++[]++Z))]⟩):=by
   refine qa5 (s0:=⟨[(0,.tsl true 0 3 N),(1,.d (.int .i64 b)),(2,.d (.int .i64 b)),(3,.fn 6 []),(8,.d (.int .i64 (b+1:Nat)))],[some (kc (A++[]++Z))]⟩) (by simp[qad,qab,qaE,qcN,qbi]) ?_ (by simp);have hnl:¬(((b+1:Nat):Int)<(b:Int)):=by omega
   generalize ((b+1:Nat):Int)=J at*
   simp[qjx,qqr,hnl]
  generalize kc (A++[]++Z)=c1 at hlo⊢
  generalize ((b+1:Nat):Int)=J at*
  simp[qHe,qwy,hw];rw[hlo];simp
 |cons x R=>
  obtain⟨W,w1,w2,w3⟩:=qqS N a b hn A Z ha.symm R [x] (by simp) (by rw[hb,ha];simp;omega) (by rw[hN];simp) (fun t ht=>hin t (by
   simp only[List.mem_append,List.mem_cons,List.not_mem_nil,or_false]at ht⊢
   rcases ht with((h|h)|h)|h<;>simp[h])) (List.pairwise_singleton _ _)
  refine⟨W,by simpa using w1,w2,?_⟩;rw[qah XV _ _ _ qHe rfl qjZ rfl];have hlo:=w3 ⟨[(0,.tsl true 0 3 N),(1,.d (.int .i64 a)),(2,.d (.int .i64 b)),(3,.fn 6 []),(8,.d (.int .i64 (a+1:Nat)))],[some (kc (A++[x]++R++Z))]⟩ rfl rfl;have hc:A++x::R++Z=A++[x]++R++Z:=by simp
  rw[hc];generalize kc (A++[x]++R++Z)=c1 at hlo⊢
  generalize kc (A++W++Z)=c2 at hlo⊢
  generalize ((a+1:Nat):Int)=J at*
  simp[qHe,qwy,hw];rw[hlo];simp
theorem qHr(l:List T)(k:Nat)(hn:l.length<=1099511627776)(hl:k+1<l.length)(x10:Int):
 qau XV [70,74,122,126] (.region true 0 [0,10,13] qor) ⟨[(0,.tsl true 0 3 l.length),(10,.d (.int .i64 x10)),(13,.d (.int .i64 k)),(58,.d (.bool true))],[some (kc l)]⟩=some (.normal,⟨[(0,.tsl true 0 3 l.length),(10,.d (.int .i64 x10)),(13,.d (.int .i64 k))],[some (kc (swp l (k+1) k))]⟩):=by
 have hw:=qae (n:=k) (by omega);obtain⟨c1,c2,c3,l1,l2,l3,f1,f2,f3,f4,f5,f6⟩:=qgm l (k+1) k hl (by omega) (by omega);have l0:=qhJ l;generalize kc (swp l (k+1) k)=c4 at f6⊢
 generalize kc l=c0 at f1 f2 l0⊢
 generalize hn':l.length=n at*
 have hj0:(0:Int)<=((k+1:Nat):Int)/\((k+1:Nat):Int)<n:=⟨by omega,by omega⟩;have hjn:((k+1:Nat):Int).toNat=k+1:=rfl;have hi0:(k:Int)<n:=by omega
 have le0:k*3+3<=n*3:=by omega
 have le1:(k+1)*3+3<=n*3:=by omega
 generalize ((k+1:Nat):Int)=J at hw hj0 hjn⊢
 simp only[qjs,qo1,qaa]at f1 f2 f3 f4 f5 f6;simp[qPp,hw,hj0,hjn,hi0,l0,l1,l2,l3,f1,f2,f3,f4,f5,f6,le0,le1,qam,qaf,qai,qaC]
theorem qHq(l:List T)(k:Nat)(hn:l.length<=1099511627776)(hl:k+1<l.length)(x14:Int):
 qau XV [70,74,122,126] (.region true 0 [0,14,17] qon) ⟨[(0,.tsl true 0 3 l.length),(14,.d (.int .i64 x14)),(17,.d (.int .i64 ((k+1:Nat):Int))),(110,.d (.bool true))],[some (kc l)]⟩=some (.normal,⟨[(0,.tsl true 0 3 l.length),(14,.d (.int .i64 x14)),(17,.d (.int .i64 ((k+1:Nat):Int)))],[some (kc (swp l k (k+1)))]⟩):=by
 have hw:IntKind.i64.wrap (((k+1:Nat):Int)-1)=(k:Int):=by rw[show((k+1:Nat):Int)-1=(k:Int)by omega];exact wrap_i64 (by omega) (by omega)
 obtain⟨c1,c2,c3,l1,l2,l3,f1,f2,f3,f4,f5,f6⟩:=qgm l k (k+1) (by omega) hl (by omega);have l0:=qhJ l;generalize kc (swp l k (k+1))=c4 at f6⊢
 generalize kc l=c0 at f1 f2 l0⊢
 generalize hn':l.length=n at*
 have hj0:(0:Int)<=((k+1:Nat):Int)/\((k+1:Nat):Int)<n:=⟨by omega,by omega⟩;have hjn:((k+1:Nat):Int).toNat=k+1:=rfl;have hi0:(k:Int)<n:=by omega
 have le0:k*3+3<=n*3:=by omega
 have le1:(k+1)*3+3<=n*3:=by omega
 generalize ((k+1:Nat):Int)=J at hw hj0 hjn⊢
 simp only[qjs,qo1,qaa]at f1 f2 f3 f4 f5 f6;simp[qPo,hw,hj0,hjn,hi0,l0,l1,l2,l3,f1,f2,f3,f4,f5,f6,le0,le1,qam,qaf,qai,qaC]
theorem qI9(l:List T)(a h:Nat)(hn:l.length<=1099511627776)(ha:a<l.length)(hh:h<l.length)(hb:∀t,t∈l->t.inner<=1099511627776)(x10 x11:Int):
 qau XV [70,74,122,126] (.region true 0 [0,1,4,10,11,12,50] qwu) ⟨[(0,.tsl true 0 3 l.length),(1,.d (.int .i64 a)),(4,.fn 6 []),(10,.d (.int .i64 x10)),(11,.d (.int .i64 x11)),(12,.d (.int .i64 h))],[some (kc l)]⟩=some (.normal,⟨[(0,.tsl true 0 3 l.length),(1,.d (.int .i64 a)),(4,.fn 6 []),(10,.d (.int .i64 x10)),(11,.d (.int .i64 x11)),(12,.d (.int .i64 h)),(50,.d (.bool (decide (T.cmp (tAt l h) (tAt l a)<0))))],[some (kc l)]⟩):=by
 have hc:=qfv (some (kc l)) (tAt l h) (tAt l a) (hb _ (qav hh)) (hb _ (qav ha));have f1:=qqO l h hh;have f2:=qqO l a ha;have l0:=qhJ l;generalize T.cmp (tAt l h) (tAt l a)=r at hc⊢
 generalize kc l=c0 at f1 f2 l0 hc⊢
 generalize hn':l.length=n at*
 have hi0:(h:Int)<n:=by omega
 have hj0:(a:Int)<n:=by omega
 have le0:h*3+3<=n*3:=by omega
 have le1:a*3+3<=n*3:=by omega
 obtain⟨fa,va,ka⟩:=tAt l h;obtain⟨fb,vb,kb⟩:=tAt l a;simp only[qjs,qaa]at f1 f2;simp[qU4,hi0,hj0,l0,f1,f2,le0,le1,hc]
theorem qFz(l:List T)(m h:Nat)(hn:l.length<=1099511627776)(hm:m<l.length)(hh:h<l.length)(hb:∀t,t∈l->t.inner<=1099511627776)(x14 x15:Int):
 qau XV [70,74,122,126] (.region true 0 [0,2,4,14,15,16,103] qoo) ⟨[(0,.tsl true 0 3 l.length),(2,.d (.int .i64 m)),(4,.fn 6 []),(14,.d (.int .i64 x14)),(15,.d (.int .i64 x15)),(16,.d (.int .i64 h))],[some (kc l)]⟩=some (.normal,⟨[(0,.tsl true 0 3 l.length),(2,.d (.int .i64 m)),(4,.fn 6 []),(14,.d (.int .i64 x14)),(15,.d (.int .i64 x15)),(16,.d (.int .i64 h)),(103,.d (.bool (!decide (T.cmp (tAt l m) (tAt l h)<0))))],[some (kc l)]⟩):=by
 have hc:=qfv (some (kc l)) (tAt l m) (tAt l h) (hb _ (qav hm)) (hb _ (qav hh));have f1:=qqO l h hh;have f2:=qqO l m hm;have l0:=qhJ l;generalize T.cmp (tAt l m) (tAt l h)=r at hc⊢
 generalize kc l=c0 at f1 f2 l0 hc⊢
 generalize hn':l.length=n at*
 have hi0:(h:Int)<n:=by omega
 have hj0:(m:Int)<n:=by omega
 have le0:h*3+3<=n*3:=by omega
 have le1:m*3+3<=n*3:=by omega
 obtain⟨fa,va,ka⟩:=tAt l h;obtain⟨fb,vb,kb⟩:=tAt l m;simp only[qjs,qaa]at f1 f2
 by_cases hr:r<0
 ·simp[qFn,hi0,hj0,l0,f1,f2,le0,le1,hc,hr]
 ·simp[qFn,hi0,hj0,l0,f1,f2,le0,le1,hc,hr]
theorem qFy(l:List T)(p c:Nat)(hn:l.length<=1099511627776)(hcp:c<=p)(hp:p-c<l.length)(hh:c<l.length)(hpp:p<=4398046511104)(hb:∀t,t∈l->t.inner<=1099511627776)(x1 x2 x3 x18 x19 x20 x21:Int):
 qau XV [70,74,122,126] (.region true 0 [0,1,2,3,4,18,19,20,21,22,23,171] qol) ⟨[(0,.tsl true 0 3 l.length),(1,.d (.int .i64 x1)),(2,.d (.int .i64 x2)),(3,.d (.int .i64 x3)),(4,.fn 6 []),(18,.d (.int .i64 x18)),(19,.d (.int .i64 x19)),(20,.d (.int .i64 x20)),(21,.d (.int .i64 x21)),(22,.d (.int .i64 p)),(23,.d (.int .i64 c))],[some (kc l)]⟩=some (.normal,⟨[(0,.tsl true 0 3 l.length),(1,.d (.int .i64 x1)),(2,.d (.int .i64 x2)),(3,.d (.int .i64 x3)),(4,.fn 6 []),(18,.d (.int .i64 x18)),(19,.d (.int .i64 x19)),(20,.d (.int .i64 x20)),(21,.d (.int .i64 x21)),(22,.d (.int .i64 p)),(23,.d (.int .i64 c)),(171,.d (.bool (!decide (T.cmp (tAt l (p-c)) (tAt l c)<0))))],[some (kc l)]⟩):=by
 have hw:IntKind.i64.wrap ((p:Int)-c)=((p-c:Nat):Int):=by rw[wrap_i64 (by omega) (by omega)];omega
 have hc:=qfv (some (kc l)) (tAt l (p-c)) (tAt l c) (hb _ (qav hp)) (hb _ (qav hh));have f1:=qqO l c hh;have f2:=qqO l (p-c) hp;have l0:=qhJ l;generalize T.cmp (tAt l (p-c)) (tAt l c)=r at hc⊢
 generalize kc l=c0 at f1 f2 l0 hc⊢
 generalize hn':l.length=n at*
 generalize hq:p-c=q at*
 have hi0:(c:Int)<n:=by omega
 have hj0:(q:Int)<n:=by omega
 have le0:c*3+3<=n*3:=by omega
 have le1:q*3+3<=n*3:=by omega
 obtain⟨fa,va,ka⟩:=tAt l c;obtain⟨fb,vb,kb⟩:=tAt l q;simp only[qjs,qaa]at f1 f2
 by_cases hr:r<0
 ·simp[qFm,hw,hi0,hj0,l0,f1,f2,le0,le1,hc,hr]
 ·simp[qFm,hw,hi0,hj0,l0,f1,f2,le0,le1,hc,hr]
end Go.Proofs.YtbcbkiaineacpaaGreat.VS
