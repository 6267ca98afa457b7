/- Contracts of the program's functions on the evaluator without names, and plain lemmas: part 2. -/
import Derived.Test.YtbcbkiaineacpaaGreatXP1
set_option linter.unusedSimpArgs false
set_option linter.unusedVariables false
namespace Go.Proofs.YtbcbkiaineacpaaGreat.VS
def mk:Nat->Nat->List Int
 |0,_=>[]
 |n+1,k=>(k:Int)::mk n (k+1)
mutual
def T.nb:T->Nat
 | .node _ _ []=>0
 | .node _ _ (t::r)=>T.nbs (t::r)+1
def T.nbs:List T->Nat
 | []=>0
 |t::r=>t.nb+T.nbs r
end
def qTu(ks:List T):Nat:=if ks=[]then 0 else T.nbs ks+1
def qTt(b:Nat)(ks:List T):AV:=if ks=[]then .d (qaa .sub [])else .tsl true (b+T.nbs ks) 3 ks.length
def qGZ(b:Nat):List T->List AV
 | []=>[]
 | .node f v ks::r=> .d (.int .i64 f):: .d (.int .i64 v)::qTt b ks::qGZ (b+qTu ks) r
mutual
def T.bx(b:Nat):T->qao
 | .node _ _ []=>[]
 | .node _ _ (t::r)=>T.bxs b (t::r)++[some (qGZ b (t::r))]
def T.bxs(b:Nat):List T->qao
 | []=>[]
 |t::r=>t.bx b++T.bxs (b+t.nb) r
end
def qcm(l:List T):Nat:=l.length+T.inners l
theorem qmq(t:T):qcm t.kids=t.inner:=by cases t;simp[qcm,T.inner]
theorem qfV:∀(a c:List T),T.inners (a++c)=T.inners a+T.inners c
 | [],c=>by simp[T.inners]
 |t::r,c=>by simp[T.inners,qfV r c];omega
theorem qaJ(t:T)(l:List T):qcm (t::l)=(t.inner+1)+qcm l:=by unfold qcm;simp[T.inners];omega
theorem qhF(ks:List T)(i:Nat)(hi:i<ks.length):ks.take (i+1)=ks.take i++[tAt ks i]:=by
 rw[<-qan hi,List.take_append_getElem hi]
theorem qKF(ks:List T)(i:Nat):qcm (ks.take i)<=qcm ks:=by
 have h:qcm (ks.take i++ks.drop i)=qcm (ks.take i)+qcm (ks.drop i):=by unfold qcm;rw[qfV];simp;omega
 rw[List.take_append_drop]at h;omega
theorem qim(a c:List T)(g:Tag)(h:(a.length+c.length)*40<=140737488355328):qaX 3 40 (.sl U (a.map (T.enc U))) (.sl g (c.map (T.enc U)))=some (.sl U ((a++c).map (T.enc U))):=by
 have h1:(c.map (T.enc U)).all (fun e=>decide (e.cells.length=3/\e.cells.all DV.isCell=true))=true:=by
  simp[qae,qaf]
 have h2:(a.map (T.enc U)).all (fun e=>decide (e.cells.length=3))=true:=by simp
 unfold qaX;simp only;rw[if_pos h1];cases c with
 |nil=>simp
 |cons x r=>
  simp only[List.map_cons,List.isEmpty_cons,Bool.false_eq_true,if_false];rw[if_pos ⟨by simpa using h,trivial,h2⟩];simp
theorem qqm(l:List T)(i:Nat)(h:i<l.length)(hl:l.length<=1099511627776):qaX 3 40 (.sl U ((l.take i).map (T.enc U))) (.sl U [(tAt l i).enc U])=some (.sl U ((l.take (i+1)).map (T.enc U))):=by
 have:=qim (l.take i) [tAt l i] U (by simp;omega);rw[qhF l i h];exact this
theorem qCn(f v:Int)(ks:List T)(hl:ks.length<=1099511627776)(hc:∀t,t∈ks->qac XV 146 [.d (t.enc .sub)] []=some (.d (t.enc U),[])):
 qac XV 146 [.d ((T.node f v ks).enc .sub)] []=some (.d ((T.node f v ks).enc U),[]):=by
 rw[qah XV _ _ _ qLc rfl qz0 rfl];have hloop:=qal (X:=XV) (T:=XV.lin 146) (L:=3) (live:=[1,2,3,4]) (b:=qwG) (n:=ks.length) (γ:=Unit) (st:=fun(_:Unit) i=>⟨[(1,.ptr 0 0),(2,.ptr 1 0),(3,.ptr 2 0),(4,.d (.int .i64 i))],[some [.d (.int .i64 f),.d (.int .i64 v),.d (qaa .sub ks)],some [.d (.int .i64 0),.d (.int .i64 0),.d (.sl U [])],some [.d (.int .i64 f),.d (.int .i64 v),.d (.sl U ((ks.take i).map (T.enc U)))]]⟩) (step:=fun _ _=> .inl ())
  (F:=fun _=>(.exit 0,⟨[(1,.ptr 0 0),(2,.ptr 1 0),(3,.ptr 2 0),(4,.d (.int .i64 ks.length)),(14,.d (.bool false))],[some [.d (.int .i64 f),.d (.int .i64 v),.d (qaa .sub ks)],some [.d (.int .i64 0),.d (.int .i64 0),.d (.sl U [])],some [.d (.int .i64 f),.d (.int .i64 v),.d (.sl U ((ks.take ks.length).map (T.enc U)))]]⟩)) (R:=fun _=>(.ret,⟨[],[]⟩))
  (fun _=>⟨by simp,by simp[qwG,qrR,qrQ,qrP,qrO,qwm,qrN,qrM]⟩)
  (fun _ i hi=>by
   have hw:=qai (n:=i) (by omega);have hc':=hc _ (qav hi);have ha:=qqm ks i hi hl;generalize hl2:(ks.take (i+1)).map (T.enc U)=l2 at ha;generalize (ks.take i).map (T.enc U)=l1 at ha⊢
   exact⟨⟨[(1,.ptr 0 0),(2,.ptr 1 0),(3,.ptr 2 0),(4,.d (.int .i64 (i+1:Nat)))],[some [.d (.int .i64 f),.d (.int .i64 v),.d (qaa .sub ks)],some [.d (.int .i64 0),.d (.int .i64 0),.d (.sl U [])],some [.d (.int .i64 f),.d (.int .i64 v),.d (.sl U l2)]]⟩,by simp[qwG,qrR,qrQ,qrP,qrO,qwm,qrN,qrM,hi,hw,cut,qan hi,hc',ha,splice,AV.qaw,qae,qaf,qag,qaB],by simp[qad,qab,<-hl2]⟩)
  ks.length () 0 ⟨[(1,.ptr 0 0),(2,.ptr 1 0),(3,.ptr 2 0),(4,.d (.int .i64 0))],[some [.d (.int .i64 f),.d (.int .i64 v),.d (qaa .sub ks)],some [.d (.int .i64 0),.d (.int .i64 0),.d (.sl U [])],some [.d (.int .i64 f),.d (.int .i64 v),.d (.sl U [])]]⟩ (by omega) (by simp[qad,qab])
 rw[qjj,List.take_length]at hloop;simp only[qJ2,qaa]at hloop;simp[qLc,qrR,qrQ,qrP,qrO,qwm,qrN,qrM,splice,qae,qaf,qag,qaB,qaj];rw[hloop];simp[qLc,qrR,qrQ,qrP,qrO,qwm,qrN,qrM,splice,qae,qaf,qag,qaB,qaj]
theorem qgE(t:T)(ht:t.inner<=1099511627776):qac XV 146 [.d (t.enc .sub)] []=some (.d (t.enc U),[]):=by
 match t,ht with
 | .node f v ks,ht=>
  simp only[T.inner]at ht;exact qCn f v ks (by omega) fun s hs=>qgE s (by have:=T.qaA hs;omega)
termination_by t
decreasing_by
 simp_wf
 have:=List.sizeOf_lt_of_mem hs;omega
theorem qj3(ks:List T)(hl:ks.length<=1099511627776)(hc:∀t,t∈ks->qac XV 150 [.d (t.enc .sub)] []=some (.d (t.enc U),[])):
 qac XV 151 [.d (qaa .sub ks)] []=some (.d (qaa U ks),[]):=by
 rw[qah XV _ _ _ qL9 rfl qzW rfl];have hloop:=qal (X:=XV) (T:=XV.lin 151) (L:=0) (live:=[3,7,8,9]) (b:=qwF) (n:=ks.length) (γ:=Unit) (st:=fun(_:Unit) i=>⟨[(3,.d (.sl U ((ks.take i).map (T.enc U)))),(7,.d (qaa .sub ks)),(8,.d (.int .i64 ks.length)),(9,.d (.int .i64 i))],[]⟩) (step:=fun _ _=> .inl ())
  (F:=fun _=>(.exit 0,⟨[(3,.d (.sl U ((ks.take ks.length).map (T.enc U)))),(7,.d (qaa .sub ks)),(8,.d (.int .i64 ks.length)),(9,.d (.int .i64 ks.length)),(10,.d (.bool false))],[]⟩)) (R:=fun _=>(.ret,⟨[],[]⟩))
  (fun _=>⟨by simp,by simp[qwF,qvC,qvB,qvA,qBN,qBM,qBL,qBK,qrJ]⟩)
  (fun _ i hi=>by
   have hw:=qai (n:=i) (by omega);have hc':=hc _ (qav hi);have ha:=qqm ks i hi hl;generalize hl2:(ks.take (i+1)).map (T.enc U)=l2 at ha;generalize (ks.take i).map (T.enc U)=l1 at ha⊢
   exact⟨⟨[(3,.d (.sl U l2)),(7,.d (qaa .sub ks)),(8,.d (.int .i64 ks.length)),(9,.d (.int .i64 (i+1:Nat)))],[some [.d (.int .i64 (tAt ks i).f),.d (.int .i64 (tAt ks i).v),.d (qaa .sub (tAt ks i).kids)]]⟩,by simp[qwF,qvC,qvB,qvA,qBN,qBM,qBL,qBK,qrJ,hi,hw,cut,qan hi,hc',ha,splice,qae,qaf,qag,qaB,qaj],qfW (e:=[some [.d (.int .i64 (tAt ks i).f),.d (.int .i64 (tAt ks i).v),.d (qaa .sub (tAt ks i).kids)]]) (by simp[<-hl2]) (by simp[qab]) (by simp) (by simp)⟩)
  ks.length () 0 ⟨[(3,.d (.sl U [])),(7,.d (qaa .sub ks)),(8,.d (.int .i64 ks.length)),(9,.d (.int .i64 0))],[]⟩ (by omega) (by simp[qad,qab])
 rw[qjj,List.take_length]at hloop;simp only[qJ0]at hloop;simp[qL9,qvC,qvB,qvA,qrJ];rw[hloop];simp[qrJ]
theorem quC(f v:Int)(ks:List T)(h:qac XV 151 [.d (qaa .sub ks)] []=some (.d (qaa U ks),[])):qac XV 150 [.d ((T.node f v ks).enc .sub)] []=some (.d ((T.node f v ks).enc U),[]):=by
 rw[qah XV _ _ _ qMa rfl qzX rfl];simp only[qaa]at h;simp[qMa,qHz,qHy,qHx,h,splice,qae,qaf,qag,qaB,qaj]
theorem qhu(t:T)(ht:t.inner<=1099511627776):qac XV 150 [.d (t.enc .sub)] []=some (.d (t.enc U),[]):=by
 match t,ht with
 | .node f v ks,ht=>
  simp only[T.inner]at ht;exact quC f v ks (qj3 ks (by omega) fun s hs=>qhu s (by have:=T.qaA hs;omega))
termination_by t
decreasing_by
 simp_wf
 have:=List.sizeOf_lt_of_mem hs;omega
theorem qsu(ks:List T)(hl:qcm ks<=1099511627776):qac XV 151 [.d (qaa .sub ks)] []=some (.d (qaa U ks),[]):=
 qj3 ks (by unfold qcm at hl;omega) fun s hs=>qhu s (by have:=T.qaA hs;unfold qcm at hl;omega)
theorem qFU(n:Int):qac XV 147 [.d (.int .i64 n)] []=some (.d ((T.node (-1) n []).enc U),[]):=by
 rw[qah XV _ _ _ qMc rfl qzZ rfl];simp[qMc,qHB,qHA,splice,qae,qaf,qag,qaB,qaj];rw[T.qcJ];rfl
def qbV(l:List Bd)(n:Int):Option Nat:=qau (fun i=>(bAt l i).v==n) l.length 0
def qpW(l:List Bd)(n:Int):T:=match qbV l n with
 |some i=>(bAt l i).t
 |none=> .node (-1) n []
theorem qhh(l:List Bd)(n:Int)(hl:l.length<=1099511627776)(hb:∀i,i<l.length->(bAt l i).t.inner<=1099511627776):qac XV 145 [.d (binds .sub l),.d (.int .i64 n)] []=some (.d ((qpW l n).enc U),[]):=by
 rw[qah XV _ _ _ qMd rfl qz1 rfl];have h:=qal (X:=XV) (T:=XV.lin 145) (L:=1) (live:=[0,1,4,5]) (b:=qsQ) (n:=l.length) (st:=fun(_:Unit) i=>⟨[(0,.d (binds .sub l)),(1,.d (.int .i64 n)),(4,.ptr 0 0),(5,.d (.int .i64 i))],[some [.d (.int .i64 0),.d (.int .i64 0),.d (.sl U [])]]⟩) (step:=qb8 fun i=>(bAt l i).v==n)
  (F:=fun _=>(.exit 0,⟨[(0,.d (binds .sub l)),(1,.d (.int .i64 n)),(4,.ptr 0 0),(5,.d (.int .i64 l.length)),(9,.d (.bool false))],[some [.d (.int .i64 0),.d (.int .i64 0),.d (.sl U [])]]⟩)) (R:=fun(j:Nat)=>(.ret,⟨[(4,.ptr 0 0)],[some [.d (.int .i64 (bAt l j).t.f),.d (.int .i64 (bAt l j).t.v),.d (qaa U (bAt l j).t.kids)]]⟩))
  (fun a=>⟨by simp,by simp[qsQ,qrT,qrS,qvL,qvJ,qvI,qvK,qlO]⟩)
  (fun a i hi=>by
   have hw:=qai (n:=i) (by omega);have hc:=qgE (bAt l i).t (hb i hi);unfold qb8
   by_cases hq:((bAt l i).v==n)=true
   ·rw[if_pos hq]
    exact⟨by simp,by simp[qsQ,qrT,qrS,qvL,qvJ,qvI,qvK,qlO,hi,hw,cut,qcj hi,hq,hc,splice,qae,qaf,qag,qaB,qaj]⟩
   ·rw[if_neg hq]
    have hq':((bAt l i).v==n)=false:=by simpa using hq
    exact⟨_,by simp[qsQ,qrT,qrS,qvL,qvJ,qvI,qvK,qlO,hi,hw,cut,qcj hi,hq',qae,qaf,qag,qaB];rfl,by simp[qad,qab]⟩)
  l.length () 0 ⟨[(0,.d (binds .sub l)),(1,.d (.int .i64 n)),(4,.ptr 0 0),(5,.d (.int .i64 0))],[some [.d (.int .i64 0),.d (.int .i64 0),.d (.sl U [])]]⟩ (by omega) (by simp[qad,qab])
 rw[qqw]at h;simp only[qJ3,binds]at h;unfold qpW qbV;simp[qMd,qrT,qrS,qlO];rw[h];have hv:=qFU n;cases hq:qau (fun i=>(bAt l i).v==n) l.length 0 with
 |none=>
  simp[qlO,hv,splice,qae,qaf,qag,qaB,qaj]
 |some j=>
  simp[qlO,splice,qae,qaf,qag,qaB,qaj]
theorem qku(l:List Bd)(n:Int)(hl:l.length<=1099511627776):qac XV 148 [.d (binds .sub l),.d (.int .i64 n)] []=some (.d (match qbV l n with|some j=> .tup [(bAt l j).t.enc .sub,.bool true]|none=> .tup [(T.node 0 0 []).enc .sub,.bool false]),[]):=by
 rw[qah XV _ _ _ qMb rfl qzY rfl];have h:=qal (X:=XV) (T:=XV.lin 148) (L:=1) (live:=[1,4,8,9,10]) (b:=qsP) (n:=l.length) (st:=fun(_:Unit) i=>⟨[(1,.d (.int .i64 n)),(4,.ptr 0 0),(8,.d (binds .sub l)),(9,.d (.int .i64 l.length)),(10,.d (.int .i64 i))],[some [.d (.int .i64 0),.d (.int .i64 0),.d (.sl U [])]]⟩) (step:=qb8 fun i=>(bAt l i).v==n)
  (F:=fun _=>(.exit 0,⟨[(1,.d (.int .i64 n)),(4,.ptr 0 0),(8,.d (binds .sub l)),(9,.d (.int .i64 l.length)),(10,.d (.int .i64 l.length)),(11,.d (.bool false))],[some [.d (.int .i64 0),.d (.int .i64 0),.d (.sl U [])]]⟩)) (R:=fun(j:Nat)=>(.ret,⟨[(4,.ptr 0 0),(5,.d (.bool true))],[some [.d (.int .i64 (bAt l j).t.f),.d (.int .i64 (bAt l j).t.v),.d (qaa .sub (bAt l j).t.kids)],some [.d (.int .i64 (bAt l j).v),.d (.int .i64 (bAt l j).t.f),.d (.int .i64 (bAt l j).t.v),.d (qaa .sub (bAt l j).t.kids)]]⟩))
  (fun a=>⟨by simp,by simp[qsP,qrL,qrK,qvH,qvG,qvF,qvE,qvD,qlN]⟩)
  (fun a i hi=>by
   have hw:=qai (n:=i) (by omega);unfold qb8
   by_cases hq:((bAt l i).v==n)=true
   ·rw[if_pos hq]
    exact⟨by simp,by simp[qsP,qrL,qrK,qvH,qvG,qvF,qvE,qvD,qlN,hi,hw,cut,qcj hi,hq,splice,AV.qaw,qae,qaf,qag,qaB,qaj]⟩
   ·rw[if_neg hq]
    have hq':((bAt l i).v==n)=false:=by simpa using hq
    exact⟨⟨[(1,.d (.int .i64 n)),(4,.ptr 0 0),(8,.d (binds .sub l)),(9,.d (.int .i64 l.length)),(10,.d (.int .i64 (i+1:Nat)))],[some [.d (.int .i64 0),.d (.int .i64 0),.d (.sl U [])],some [.d (.int .i64 (bAt l i).v),.d (.int .i64 (bAt l i).t.f),.d (.int .i64 (bAt l i).t.v),.d (qaa .sub (bAt l i).t.kids)]]⟩,by simp[qsP,qrL,qrK,qvH,qvG,qvF,qvE,qvD,qlN,hi,hw,cut,qcj hi,hq',splice,AV.qaw,qae,qaf,qag,qaB,qaj],qfW (e:=[some [.d (.int .i64 (bAt l i).v),.d (.int .i64 (bAt l i).t.f),.d (.int .i64 (bAt l i).t.v),.d (qaa .sub (bAt l i).t.kids)]]) (by simp) (by simp[qab]) (by simp) (by simp)⟩)
  l.length () 0 ⟨[(1,.d (.int .i64 n)),(4,.ptr 0 0),(8,.d (binds .sub l)),(9,.d (.int .i64 l.length)),(10,.d (.int .i64 0))],[some [.d (.int .i64 0),.d (.int .i64 0),.d (.sl U [])]]⟩ (by omega) (by simp[qad,qab])
 rw[qqw]at h;simp only[qJ1,binds]at h;unfold qbV;simp[qMb,qrL,qrK,qlN];rw[h];cases hq:qau (fun i=>(bAt l i).v==n) l.length 0 with
 |none=>
  simp[qlN,splice,qae,qaf,qag,qaB,qaj];rw[T.qcJ];rfl
 |some j=>
  simp[qlN,splice,qae,qaf,qag,qaB,qaj]
theorem qJ5(l:List T)(t:T)(hl:l.length<=1099511627776)(bl:∀x,x∈l->x.inner<=1099511627776)(ht:t.inner<=1099511627776):
 qac XV 259 [.d (qaa .sub l),.d (t.enc .sub)] []=some (.d (.int .i64 (qhm (qau (qdO l t) l.length 0))),[]):=by
 rw[qah XV _ _ _ qK9 rfl qzL rfl];obtain⟨f,v,ks⟩:=t;have h:=qal (X:=XV) (T:=XV.lin 259) (L:=1) (live:=[0,3,5]) (b:=qsI) (n:=l.length) (γ:=Nat) (st:=fun(_:Unit) i=>⟨[(0,.d (qaa .sub l)),(3,.ptr 0 0),(5,.d (.int .i64 i))],[some [.d (.int .i64 f),.d (.int .i64 v),.d (qaa .sub ks)]]⟩) (step:=qb8 (qdO l (.node f v ks)))
  (F:=fun _=>(.exit 0,⟨[(0,.d (qaa .sub l)),(3,.ptr 0 0),(5,.d (.int .i64 l.length)),(9,.d (.bool false))],[some [.d (.int .i64 f),.d (.int .i64 v),.d (qaa .sub ks)]]⟩)) (R:=fun j=>(.ret,⟨[(4,.d (.int .i64 j))],[some [.d (.int .i64 f),.d (.int .i64 v),.d (qaa .sub ks)]]⟩))
  (fun a=>⟨by simp,by simp[qsI,qod,qoc,qob,qst,qn9,qoa,qn8]⟩)
  (fun a i hi=>by
   have hw:=qai (n:=i) (by omega);have hc:=qdV (tAt l i) (.node f v ks) (bl _ (qav hi)) ht;unfold qb8
   by_cases hq:qdO l (.node f v ks) i=true
   ·rw[if_pos hq]
    unfold qdO at hq;rw[hq]at hc;exact⟨by simp,by simp[qsI,qod,qoc,qob,qst,qn9,qoa,qn8,hi,hw,cut,qan hi,hc]⟩
   ·rw[if_neg hq]
    have hq':qdO l (.node f v ks) i=false:=by simpa using hq
    unfold qdO at hq';rw[hq']at hc;exact⟨_,by simp[qsI,qod,qoc,qob,qst,qn9,qoa,qn8,hi,hw,cut,qan hi,hc];rfl,by simp[qad,qab]⟩)
  l.length () 0 ⟨[(0,.d (qaa .sub l)),(3,.ptr 0 0),(5,.d (.int .i64 0))],[some [.d (.int .i64 f),.d (.int .i64 v),.d (qaa .sub ks)]]⟩ (by omega) (by simp[qad,qab])
 rw[qqw]at h;simp only[qJU]at h;simp[qK9,qod,qoc,qob,qst,qn9,qoa,qn8];rw[h];cases hq:qau (qdO l (.node f v ks)) l.length 0<;>simp[qhm,qK9,qod,qoc,qob,qst,qn9,qoa,qn8]
theorem qg4(a c:List T)(g:Tag)(h:(a.length+c.length)*40<=140737488355328):qaX 3 40 (.sl U (a.map (T.enc .sub))) (.sl g (c.map (T.enc .sub)))=some (.sl U ((a++c).map (T.enc .sub))):=by
 have h1:(c.map (T.enc .sub)).all (fun e=>decide (e.cells.length=3/\e.cells.all DV.isCell=true))=true:=by
  simp[qae,qaf]
 have h2:(a.map (T.enc .sub)).all (fun e=>decide (e.cells.length=3))=true:=by simp
 unfold qaX;simp only;rw[if_pos h1];cases c with
 |nil=>simp
 |cons x r=>
  simp only[List.map_cons,List.isEmpty_cons,Bool.false_eq_true,if_false];rw[if_pos ⟨by simpa using h,trivial,h2⟩];simp
theorem qjW(l:List T)(j:Nat)(hj:j<l.length)(hl:l.length<=1099511627776):
 qac XV 260 [.d (qaa .sub l),.d (.int .i64 j)] []=some (.d (.sl U ((qbj l j).map (T.enc .sub))),[]):=by
 rw[qah XV _ _ _ qL2 rfl qzK rfl];have hw:=qai (n:=j) (by omega);have h1:j<=l.length:=by omega
 have h2:j+1<=l.length:=by omega
 have a1:=qg4 [] (l.take j) .sub (by simp;omega);have a2:=qg4 (l.take j) (l.drop (j+1)) .sub (by simp;omega);simp only[List.map_nil,List.nil_append,List.map_take,List.map_drop,List.map_append]at a1 a2;have h3:(0:Int)<=(j:Int)+1:=by omega
 have h4:List.take l.length (l.map (T.enc .sub))=l.map (T.enc .sub):=List.take_of_length_le (by simp);simp[qL2,qHm,qHl,qHk,hw,h1,h2,h3,h4,cut,a1,a2,qbj]
theorem qfy(l:List Bd)(n:Int)(hl:l.length<=1099511627776):qac XV 312 [.d (binds .sub l),.d (.int .i64 n)] []=some (.d (.bool (qbV l n).isSome),[]):=by
 rw[qah XV _ _ _ qK3 rfl qzw rfl];have h:=qal (X:=XV) (T:=XV.lin 312) (L:=0) (live:=[0,1,5]) (b:=qsC) (n:=l.length) (γ:=Nat) (st:=fun(_:Unit) i=>⟨[(0,.d (binds .sub l)),(1,.d (.int .i64 n)),(5,.d (.int .i64 i))],[]⟩) (step:=qb8 fun i=>(bAt l i).v==n)
  (F:=fun _=>(.exit 0,⟨[(0,.d (binds .sub l)),(1,.d (.int .i64 n)),(5,.d (.int .i64 l.length)),(9,.d (.bool false))],[]⟩)) (R:=fun _=>(.ret,⟨[(4,.d (.bool true))],[]⟩))
  (fun a=>⟨by simp,by simp[qsC,qnz,qny,qnx,qnv,qnu,qnw,qnt]⟩)
  (fun a i hi=>by
   have hw:=qai (n:=i) (by omega);unfold qb8
   by_cases hq:((bAt l i).v==n)=true
   ·rw[if_pos hq]
    exact⟨by simp,by simp[qsC,qnz,qny,qnx,qnv,qnu,qnw,qnt,hi,hw,cut,qcj hi,hq]⟩
   ·rw[if_neg hq]
    have hq':((bAt l i).v==n)=false:=by simpa using hq
    exact⟨_,by simp[qsC,qnz,qny,qnx,qnv,qnu,qnw,qnt,hi,hw,cut,qcj hi,hq'];rfl,by simp[qad,qab]⟩)
  l.length () 0 ⟨[(0,.d (binds .sub l)),(1,.d (.int .i64 n)),(5,.d (.int .i64 0))],[]⟩ (by omega) (by simp[qad,qab])
 rw[qqw]at h;simp only[qJL,binds]at h;unfold qbV;simp[qK3,qnz,qny,qnx,qnv,qnu,qnw,qnt];rw[h];cases hq:qau (fun i=>(bAt l i).v==n) l.length 0<;>simp[qK3,qnz,qny,qnx,qnv,qnu,qnw,qnt]
def qpk:List T->List T->List T⊕List T
 |l,[]=> .inl l
 |l,t::ts=>match qau (qdO l t) l.length 0 with
  |none=> .inr l
  |some j=>qpk (qbj l j) ts
abbrev qkd(q:Tag×List T):DV:= .sl q.1 (q.2.map (T.enc .sub))
def qu4(ts:List T)(q:Tag×List T)(i:Nat):(Tag×List T)⊕(Tag×List T):=
 match qau (qdO q.2 (tAt ts i)) q.2.length 0 with
 |some j=> .inl (U,qbj q.2 j)
 |none=> .inr q
theorem qMj(ts:List T):∀(k i:Nat) (q:Tag×List T),(q.1= .sub\/q.1=U)->i+k=ts.length->∃g,(g= .sub\/g=U)/\runN (qu4 ts) k q i=match qpk q.2 (ts.drop i)with| .inl r=> .inl (g,r)| .inr r=> .inr (g,r)
 |0,i,q,hq,h=>by
  have h1:ts.drop i=[]:=List.drop_eq_nil_of_le (by omega);exact⟨q.1,hq,by simp[runN,h1,qpk]⟩
 |k+1,i,q,hq,h=>by
  have hlt:i<ts.length:=by omega
  rw[List.drop_eq_getElem_cons hlt,qan hlt];simp only[runN,qu4,qpk];cases qau (qdO q.2 (tAt ts i)) q.2.length 0 with
  |none=>exact⟨q.1,hq,rfl⟩
  |some j=>exact qMj ts k (i+1) _ (.inr rfl) (by omega)
theorem qAh:∀(l ts:List T),(match qpk l ts with| .inl r=>some r| .inr _=>none)=(match takeN l ts with| .inl r=>some r| .inr _=>none)
 |l,[]=>rfl
 |l,t::ts=>by
  simp only[qpk,takeN];cases qau (qdO l t) l.length 0 with
  |none=>rfl
  |some j=>exact qAh (qbj l j) ts
theorem qCj(l ts:List T)(hl:l.length<=1099511627776)(ht:ts.length<=1099511627776)(bl:∀x,x∈l->x.inner<=1099511627776)(bt:∀x,x∈ts->x.inner<=1099511627776):
 ∃g,(g= .sub\/g=U)/\qac XV 316 [.d (qaa .sub l),.d (qaa .sub ts)] []=some (match qpk l ts with| .inl r=> .d (.tup [qkd (g,r),.bool true])| .inr r=> .d (.tup [qkd (g,r),.bool false]),[]):=by
 rw[qah XV _ _ _ qK0 rfl qzs rfl];have h:=qfw (X:=XV) (T:=XV.lin 316) (L:=0) (live:=[1,6,7]) (b:=qsA) (n:=ts.length) (γ:=Tag×List T) (st:=fun(r:Tag×List T) i=>⟨[(1,.d (qaa .sub ts)),(6,.d (qkd r)),(7,.d (.int .i64 i))],[]⟩) (step:=qu4 ts)
  (F:=fun r=>(.exit 0,⟨[(1,.d (qaa .sub ts)),(6,.d (qkd r)),(7,.d (.int .i64 ts.length)),(13,.d (.bool false))],[]⟩)) (R:=fun r=>(.ret,⟨[(4,.d (qkd r)),(5,.d (.bool false))],[]⟩))
  (fun r _=>(r.1= .sub\/r.1=U)/\r.2.length<=1099511627776/\∀x,x∈r.2->x.inner<=1099511627776)
  (fun a ha=>⟨by simp,by rcases ha.1 with h|h<;>simp[qsA,qnj,qni,qnh,qng,qne,qnd,qnc,qnb,qnf,qna,qkd,h]⟩)
  (fun a i hi hinv=>by
   have hw:=qai (n:=i) (by omega);obtain⟨g,a⟩:=a;obtain⟨hg,i1,i2⟩:=hinv;simp only at hg i1 i2;have hc:=qJ5 a (tAt ts i) i1 i2 (bt _ (qav hi));unfold qu4;cases hfa:qau (qdO a (tAt ts i)) a.length 0 with
   |none=>
    rw[hfa]at hc;exact⟨⟨by simp,by rcases hg with rfl|rfl<;>simp[qsA,qnj,qni,qnh,qng,qne,qnd,qnc,qnb,qnf,qna,hi,cut,qan hi,hc,qhm]⟩,fun a' h=>by simp at h⟩
   |some j=>
    rw[hfa]at hc;obtain⟨_,hj,_⟩:=qci _ _ _ _ hfa;have hj0:¬((j:Int)<0):=by omega
    have hw2:=qjW a j (by omega) i1;refine⟨by rcases hg with rfl|rfl<;>exact⟨_,by simp[qsA,qnj,qni,qnh,qng,qne,qnd,qnc,qnb,qnf,qna,hi,hw,cut,qan hi,hc,qhm,hw2,hj0];rfl,by simp[qad,qab]⟩,fun a' h=> ?_⟩;simp only[Sum.inl.injEq]at h;subst h;exact⟨.inr rfl,Nat.le_trans qoU i1,fun x hx=>i2 x (qoT hx)⟩)
  ts.length (.sub,l) 0 ⟨[(1,.d (qaa .sub ts)),(6,.d (qaa .sub l)),(7,.d (.int .i64 0))],[]⟩ (by omega) ⟨.inl rfl,hl,bl⟩ (by simp[qad,qab])
 obtain⟨g,hg,hr⟩:=qMj ts ts.length 0 (.sub,l) (.inl rfl) (by omega);rw[hr]at h;simp only[qJI,List.drop_zero]at h;refine⟨g,hg,?_⟩;simp[qK0,qnj,qni,qnh,qng,qne,qnd,qnc,qnb,qnf,qna];rw[h];cases qpk l ts<;>rcases hg with rfl|rfl<;>simp[qK0,qnj,qni,qnh,qng,qne,qnd,qnc,qnb,qnf,qna,qkd]
theorem qRc{x:Bool}(h:(!x)=true):x=false:=by cases x<;>simp_all
theorem qRd{x:Bool}(h:¬(!x)=true):x=true:=by cases x<;>simp_all
theorem qAv(b c:Bd)(B:qao)(hb:b.t.inner<=1099511627776)(hc:c.t.inner<=1099511627776):
 qac XV 290 [.d (b.enc .sub),.d (c.enc .sub)] B=some (.d (.bool (b.v==c.v&&T.cmp b.t c.t==0)),B):=by
 rw[qah XV _ _ _ qK4 rfl qzA rfl];have hs:=same_eq b.t c.t hb hc
 by_cases e:b.v=c.v
 ·have e1:(b.v==c.v)=true:=by simpa using e
  rw[e1,Bool.true_and];simp[qK4,qAX,qAW,e,qE1,hs,get_at,qbb,qaS,qbg]
 ·have e1:(b.v==c.v)=false:=by simpa using e
  rw[e1,Bool.false_and];simp[qK4,qAX,qAW,e,e1,qE1,hs,get_at,qbb,qaS,qbg]
theorem qsm(u w:List Bd)(hu:u.length<=1099511627776)(hw:w.length<=1099511627776)(bu:∀i,i<u.length->(bAt u i).t.inner<=1099511627776)(bw:∀i,i<w.length->(bAt w i).t.inner<=1099511627776):
 qac XV 289 [.d (binds .sub u),.d (binds .sub w),.fn 290 []] []=some (.d (.bool (qiC u w)),[]):=by
 rw[qah XV _ _ _ qIK rfl qzB rfl];unfold qiC
 by_cases hl:u.length=w.length
 ·have hlI:(u.length:Int)=w.length:=by omega
  have h:=qal (X:=XV) (T:=XV.lin 289) (L:=0) (live:=[1,2,15,16,17]) (b:=qsE) (n:=u.length) (γ:=Nat) (st:=fun(_:Unit) i=>⟨[(1,.d (binds .sub w)),(2,.fn 290 []),(15,.d (binds .sub u)),(16,.d (.int .i64 u.length)),(17,.d (.int .i64 i))],[]⟩) (step:=qb8 (qDa u w))
   (F:=fun _=>(.exit 0,⟨[(1,.d (binds .sub w)),(2,.fn 290 []),(15,.d (binds .sub u)),(16,.d (.int .i64 u.length)),(17,.d (.int .i64 u.length)),(18,.d (.bool false))],[]⟩)) (R:=fun j=>(.ret,⟨[(6,.d (.bool false))],[some (bAt u j|>.enc .sub|>.cells.map .d),some (bAt w j|>.enc .sub|>.cells.map .d)]⟩))
   (fun a=>⟨by simp,by simp[qsE,qly,qlx,qlw,qlv,qlu,qlt,qls,qlr,qlq,qlp,qhl]⟩)
   (fun a i hi=>by
    have hi':i<w.length:=by omega
    have hwr:=qai (n:=i) (by omega);have hc:=qAv (bAt u i) (bAt w i) [some (bAt u i|>.enc .sub|>.cells.map .d),some (bAt w i|>.enc .sub|>.cells.map .d)] (bu i hi) (bw i hi');unfold qb8
    by_cases hq:qDa u w i=true
    ·rw[if_pos hq]
     unfold qDa at hq;have hq':((bAt u i).v==(bAt w i).v&&T.cmp (bAt u i).t (bAt w i).t==0)=false:=qRc hq;rw[hq']at hc;simp only[Bd.qfC,List.map_cons,List.map_nil]at hc;exact⟨by simp,by simp[qsE,qly,qlx,qlw,qlv,qlu,qlt,qls,qlr,qlq,qlp,qhl,hi,hi',hwr,cut,qcj hi,qcj hi',hc,splice]⟩
    ·rw[if_neg hq]
     unfold qDa at hq;have hq':((bAt u i).v==(bAt w i).v&&T.cmp (bAt u i).t (bAt w i).t==0)=true:=qRd hq;rw[hq']at hc;simp only[Bd.qfC,List.map_cons,List.map_nil]at hc;exact⟨_,by simp[qsE,qly,qlx,qlw,qlv,qlu,qlt,qls,qlr,qlq,qlp,qhl,hi,hi',hwr,cut,qcj hi,qcj hi',hc,splice];rfl,by simp[qad,qab]⟩)
   u.length () 0 ⟨[(1,.d (binds .sub w)),(2,.fn 290 []),(15,.d (binds .sub u)),(16,.d (.int .i64 u.length)),(17,.d (.int .i64 0))],[]⟩ (by omega) (by simp[qad,qab])
  rw[qqw]at h;have e0:decide (u.length=w.length)=true:=by simpa using hl
  rw[e0];simp only[qJO,binds]at h;simp[qIK,qly,qlx,qlw,qlv,qlu,qlt,qls,qlr,qlq,qlp,qhl,hlI];simp only[hlI]at h;rw[h];cases hq:qau (qDa u w) u.length 0<;>simp[qIK,qly,qlx,qlw,qlv,qlu,qlt,qls,qlr,qlq,qlp,qhl]
 ·have e0:decide (u.length=w.length)=false:=by simpa using hl
  have hlI:¬(u.length:Int)=w.length:=by omega
  have h3:((u.length:Int) !=w.length)=true:=by simpa using hlI
  rw[e0];simp[qIK,qly,qlx,qlw,qlv,qlu,qlt,qls,qlr,qlq,qlp,qhl,h3]
theorem qp3(u w:List Bd)(hu:u.length<=1099511627776)(hw:w.length<=1099511627776)(bu:∀i,i<u.length->(bAt u i).t.inner<=1099511627776)(bw:∀i,i<w.length->(bAt w i).t.inner<=1099511627776):
 qac XV 288 [.d (binds .sub u),.d (binds .sub w)] []=some (.d (.bool (qiC u w)),[]):=by
 rw[qah XV _ _ _ qLZ rfl qzC rfl];have h:=qsm u w hu hw bu bw;simp[qLZ,qHf,qHe,h]
def wAt(ws:List (List Bd))(i:Nat):List Bd:=(ws[i]?).getD []
theorem qqL{ws:List (List Bd)}{i:Nat}(h:i<ws.length):ws[i]=wAt ws i:=by simp[wAt,h]
theorem qAd{ws:List (List Bd)}{i:Nat}(h:i<ws.length):wAt ws i∈ws:=by rw[<-qqL h];exact List.getElem_mem h
abbrev qpg(g:Tag)(ws:List (List Bd)):DV:= .sl g (ws.map (binds .sub))
@[simp] theorem qD5:DV.clr∘binds .sub=binds .sub:=funext fun w=>by simp[binds]
def small(u:List Bd):Prop:=u.length<=1099511627776/\∀i,i<u.length->(bAt u i).t.inner<=1099511627776
def qv8(ws:List (List Bd))(u:List Bd):Bool:=(qau (fun i=>qiC (wAt ws i) u) ws.length 0).isSome
theorem qGf(w u:List Bd)(pre r:qao)(hw:small w)(hu:small u):
 qac XV 320 [.d (binds .sub w),.ptr pre.length 0] (pre++some [.d (binds .sub u)]::r)=some (.d (.bool (qiC w u)),pre++some [.d (binds .sub u)]::r):=by
 rw[qah XV _ _ _ qLX rfl qzp rfl];have h:=qp3 w u hw.1 hu.1 hw.2 hu.2;have hn:¬(pre.length+(r.length+1)<=pre.length):=by omega
 simp[qLX,qG9,qG8,h,get_at,hn,qdy]
theorem qp0(l:List (List Bd))(fk:Nat)(caps:List AV)(B:qao)(P:List Bd->Bool)(hl:l.length<=1099511627776)(hs:AV.safe.safes B.length caps=true)(hcc:caps.map AV.clr=caps)(hk:¬0∈XV.lin fk)
 (hf:∀s,s∈l->qac XV fk (.d (binds .sub s)::caps) B=some (.d (.bool (P s)),B)):
 qac XV 269 [.d (qpg .sub l),.fn fk caps] B=some (.d (.int .i64 (qhm (qau (fun i=>P (wAt l i)) l.length 0))),B):=by
 rw[qah XV _ _ _ qK7 rfl qzG rfl];have h:=qal (X:=XV) (T:=XV.lin 269) (L:=B.length) (live:=[0,1,7,8]) (b:=qsH) (n:=l.length) (st:=fun(_:Unit) i=>⟨[(0,.d (qpg .sub l)),(1,.fn fk caps),(7,.d (.int .i64 l.length)),(8,.d (.int .i64 i))],B⟩) (step:=qb8 fun i=>P (wAt l i))
  (F:=fun _=>(.exit 0,⟨[(0,.d (qpg .sub l)),(1,.fn fk caps),(7,.d (.int .i64 l.length)),(8,.d (.int .i64 l.length)),(9,.d (.bool false))],B⟩)) (R:=fun(j:Nat)=>(.ret,⟨[(4,.d (.int .i64 j))],B⟩))
  (fun a=>⟨by simp,by simp[qsH,qn7,qn6,qn5,qn4,qn3,qn2,qn1,qn0,hcc]⟩)
  (fun a i hi=>by
   have hw:=qai (n:=i) (by omega);have hc:=hf _ (qAd hi);unfold qb8
   by_cases hq:P (wAt l i)=true
   ·rw[if_pos hq];rw[hq]at hc
    exact⟨by simp,by simp[qsH,qn7,qn6,qn5,qn4,qn3,qn2,qn1,qn0,hi,hw,cut,qqL hi,hc,hcc,hk]⟩
   ·rw[if_neg hq]
    have hq':P (wAt l i)=false:=by simpa using hq
    rw[hq']at hc;exact⟨_,by simp[qsH,qn7,qn6,qn5,qn4,qn3,qn2,qn1,qn0,hi,hw,cut,qqL hi,hc,hcc,hk];rfl,by simp[qad,qab,hs]⟩)
  l.length () 0 ⟨[(0,.d (qpg .sub l)),(1,.fn fk caps),(7,.d (.int .i64 l.length)),(8,.d (.int .i64 0))],B⟩ (by omega) (by simp[qad,qab,hs])
 rw[qqw]at h;simp only[qJR]at h;simp[qK7,qn7,qn6,qn5,qn4,qn3,qn2,qn1,qn0,hcc];rw[h];cases hq:qau (fun i=>P (wAt l i)) l.length 0<;>simp[qhm,qK7,qn7,qn6,qn5,qn4,qn3,qn2,qn1,qn0]
theorem quD(ws:List (List Bd))(u:List Bd)(pre r:qao)(hl:ws.length<=1099511627776)(hw:∀w,w∈ws->small w)(hu:small u):
 qac XV 265 [.d (qpg .sub ws),.fn 320 [.ptr pre.length 0]] (pre++some [.d (binds .sub u)]::r)=some (.d (.bool (qv8 ws u)),pre++some [.d (binds .sub u)]::r):=by
 rw[qah XV _ _ _ qL1 rfl qzI rfl];have h:=qp0 ws 320 [.ptr pre.length 0] (pre++some [.d (binds .sub u)]::r) (fun w=>qiC w u) hl (by simp[AV.safe.safes,AV.safe]) (by simp) (by simp) (fun w hx=>qGf w u pre r (hw w hx) hu);have hn:pre.length<pre.length+(r.length+1):=by omega
 simp[qL1,qHj,qHi,h,hn,qdy,qv8];cases qau (fun i=>qiC (wAt ws i) u) ws.length 0<;>simp[qhm]
theorem qx3(u w:List Bd)(hu:small u)(hw:small w):
 qac XV 261 [.d (binds .sub u),.d (binds .sub w)] []=some (.d (.bool (qiC u w)),[]):=by
 rw[qah XV _ _ _ qIL rfl qzJ rfl];obtain⟨hu,bu⟩:=hu;obtain⟨hw,bw⟩:=hw;unfold qiC
 by_cases hl:u.length=w.length
 ·have hloop:=qal (X:=XV) (T:=XV.lin 261) (L:=0) (live:=[0,1,5]) (b:=qo3) (n:=u.length) (γ:=Nat) (st:=fun(_:Unit) i=>⟨[(0,.d (binds .sub u)),(1,.d (binds .sub w)),(5,.d (.int .i64 i))],[]⟩) (step:=qb8 (qDa u w))
   (F:=fun _=>(.exit 0,⟨[(0,.d (binds .sub u)),(1,.d (binds .sub w)),(5,.d (.int .i64 u.length)),(14,.d (.bool false))],[]⟩)) (R:=fun _=>(.ret,⟨[(4,.d (.bool false))],[]⟩))
   (fun _=>⟨by simp,by simp[qo3,qjL,qjK,qjJ,qjI,qjH,qmm,qjF,qjG,qjE]⟩)
   (fun _ i hi=>by
    have hi':i<w.length:=by omega
    have hwr:=qai (n:=i) (by omega);have hc:=qdV (bAt u i).t (bAt w i).t (bu i hi) (bw i hi');unfold qb8;cases hq:qDa u w i with
    |true=>
     simp only[if_true];refine⟨by simp,?_⟩;unfold qDa at hq
     by_cases e:(bAt u i).v=(bAt w i).v
     ·have e2:(T.cmp (bAt u i).t (bAt w i).t==0)=false:=by
       have e1:((bAt u i).v==(bAt w i).v)=true:=by simpa using e
       rw[e1]at hq;simpa using hq
      rw[e2]at hc;simp[qo3,qjL,qjK,qjJ,qjI,qjH,qmm,qjF,qjG,qjE,hi,hi',cut,qcj hi,qcj hi',e,qE1,hc]
     ·have e1:((bAt u i).v==(bAt w i).v)=false:=by simpa using e
      have e3:((bAt u i).v !=(bAt w i).v)=true:=by simpa using e
      simp[qo3,qjL,qjK,qjJ,qjI,qjH,qmm,qjF,qjG,qjE,hi,hi',cut,qcj hi,qcj hi',e3]
    |false=>
     simp only[Bool.false_eq_true,if_false];unfold qDa at hq;simp only[Bool.not_eq_false',Bool.and_eq_true,beq_iff_eq]at hq;have e2:(T.cmp (bAt u i).t (bAt w i).t==0)=true:=by simpa using hq.2
     rw[e2]at hc;refine⟨_,by simp[qo3,qjL,qjK,qjJ,qjI,qjH,qmm,qjF,qjG,qjE,hi,hi',hwr,cut,qcj hi,qcj hi',hq.1,qE1,hc];rfl,by simp[qad,qab]⟩)
   u.length () 0 ⟨[(0,.d (binds .sub u)),(1,.d (binds .sub w)),(5,.d (.int .i64 0))],[]⟩ (by omega) (by simp[qad,qab])
  rw[qqw]at hloop;have hlI:(u.length:Int)=w.length:=by omega
  have e0:decide (u.length=w.length)=true:=by simpa using hl
  rw[e0];simp only[qJT]at hloop;simp[qIL,qjL,qjK,qjJ,qjI,qjH,qmm,qjF,qjG,qjE,hlI];simp only[binds]at hloop;rw[hloop];cases qau (qDa u w) u.length 0 with
  |none=>simp[qIL,qjL,qjK,qjJ,qjI,qjH,qmm,qjF,qjG,qjE]
  |some j=>simp
 ·have e0:decide (u.length=w.length)=false:=by simpa using hl
  have hlI:¬(u.length:Int)=w.length:=by omega
  have h3:((u.length:Int) !=w.length)=true:=by simpa using hlI
  rw[e0];simp[qIL,qjL,qjK,qjJ,qjI,qjH,qmm,qjF,qjG,qjE,h3]
theorem qFT(ws:List (List Bd))(u:List Bd)(hl:ws.length<=1099511627776)(hw:∀w,w∈ws->small w)(hu:small u):
 qac XV 249 [.d (qpg .sub ws),.d (binds .sub u)] []=some (.d (.bool (qv8 ws u)),[]):=by
 rw[qah XV _ _ _ qLb rfl qzN rfl];have h:=qal (X:=XV) (T:=XV.lin 249) (L:=0) (live:=[0,1,5]) (b:=qsJ) (n:=ws.length) (γ:=Nat) (st:=fun(_:Unit) i=>⟨[(0,.d (qpg .sub ws)),(1,.d (binds .sub u)),(5,.d (.int .i64 i))],[]⟩) (step:=qb8 fun i=>qiC (wAt ws i) u)
  (F:=fun _=>(.exit 0,⟨[(0,.d (qpg .sub ws)),(1,.d (binds .sub u)),(5,.d (.int .i64 ws.length)),(9,.d (.bool false))],[]⟩)) (R:=fun _=>(.ret,⟨[(4,.d (.bool true))],[]⟩))
  (fun a=>⟨by simp,by simp[qsJ,qok,qoj,qoi,qog,qof,qoh,qoe]⟩)
  (fun a i hi=>by
   have hwr:=qai (n:=i) (by omega);have hc:=qx3 (wAt ws i) u (hw _ (qAd hi)) hu;unfold qb8
   by_cases hq:qiC (wAt ws i) u=true
   ·rw[if_pos hq];rw[hq]at hc
    exact⟨by simp,by simp[qsJ,qok,qoj,qoi,qog,qof,qoh,qoe,hi,hwr,cut,qqL hi,hc]⟩
   ·rw[if_neg hq]
    have hq':qiC (wAt ws i) u=false:=by simpa using hq
    rw[hq']at hc;exact⟨_,by simp[qsJ,qok,qoj,qoi,qog,qof,qoh,qoe,hi,hwr,cut,qqL hi,hc];rfl,by simp[qad,qab]⟩)
  ws.length () 0 ⟨[(0,.d (qpg .sub ws)),(1,.d (binds .sub u)),(5,.d (.int .i64 0))],[]⟩ (by omega) (by simp[qad,qab])
 rw[qqw]at h;simp only[qJW]at h;unfold qv8;simp[qLb,qok,qoj,qoi,qog,qof,qoh,qoe];rw[h];cases hq:qau (fun i=>qiC (wAt ws i) u) ws.length 0<;>simp[qLb,qok,qoj,qoi,qog,qof,qoh,qoe]
def ins(t:T):List T->List T
 | []=>[t]
 |x::r=>if T.cmp t x<0 then t::x::r else x::ins t r
def qdk:List T->List T->List T
 |acc,[]=>acc
 |acc,t::r=>qdk (ins t acc) r
def qfU(l:List T):List T:=qdk [] l
theorem qkr(t:T):∀l:List T,(ins t l).Perm (t::l)
 | []=> .refl _
 |x::r=>by
  simp only[ins];split
  ·exact .refl _
  ·exact((qkr t r).cons x).trans (.swap t x r)
theorem qCs(t:T):∀l:List T,Srt l->Srt (ins t l)
 | [],_=>List.pairwise_singleton _ _
 |x::r,h=>by
  have h':=List.pairwise_cons.1 h;simp only[ins];split
  ·rename_i hlt
   refine List.pairwise_cons.2 ⟨fun y hy=> ?_,h⟩;rcases List.mem_cons.1 hy with rfl|hy
   ·exact qft hlt
   ·exact qge (qft hlt) (h'.1 y hy)
  ·rename_i hlt
   refine List.pairwise_cons.2 ⟨fun y hy=> ?_,qCs t r h'.2⟩;have:=(qkr t r).mem_iff.1 hy;rcases List.mem_cons.1 this with rfl|hy
   ·exact qcn hlt
   ·exact h'.1 y hy
theorem qjX:∀(l acc:List T),(qdk acc l).Perm (acc++l)
 | [],acc=>by simp[qdk]
 |t::r,acc=>by
  simp only[qdk];refine(qjX r _).trans ?_;refine((qkr t acc).append_right r).trans ?_;exact List.perm_middle.symm
theorem ql5:∀(l acc:List T),Srt acc->Srt (qdk acc l)
 | [],acc,h=>h
 |t::r,acc,h=>by
  simp only[qdk];exact ql5 r _ (qCs t acc h)
theorem qez(l:List T):(qfU l).Perm l:=qjX l []
theorem qr2(l:List T):Srt (qfU l):=ql5 l [] List.Pairwise.nil
theorem qFZ{l l':List T}(h:l'.Perm l)(hs:Srt l'):l'=qfU l:=qE6 hs (qr2 l) (h.trans (qez l).symm)
theorem qfl:∀(a acc b:List T),qdk acc (a++b)=qdk (qdk acc a) b
 | [],acc,b=>rfl
 |t::r,acc,b=>by simp only[List.cons_append,qdk];exact qfl r _ b
def qwI(s:List SymL)(f:Int)(k:T):List T:=if(qaK s f&&k.f==f)=true then k.kids else [k]
def flatK(s:List SymL)(f:Int)(l:List T):List T:=l.flatMap (qwI s f)
mutual
def T.norm(s:List SymL):T->T
 | .node f v ks=> .node f v (if qaK s f=true then qfU (flatK s f (T.norms s ks))else flatK s f (T.norms s ks))
def T.norms(s:List SymL):List T->List T
 | []=>[]
 |t::r=>t.norm s::T.norms s r
end
theorem T.norms_map(s:List SymL):∀l:List T,T.norms s l=l.map (T.norm s)
 | []=>by simp[T.norms]
 |t::r=>by simp[T.norms,T.norms_map s r]
theorem qB7(s:List SymL)(t:T):(t.norm s).f=t.f:=by cases t;simp[T.norm]
theorem qB6(s:List SymL)(t:T):(t.norm s).v=t.v:=by cases t;simp[T.norm]
theorem qhv(a b:List T):qcm (a++b)=qcm a+qcm b:=by unfold qcm;rw[qfV,yg_];omega
theorem qie{a b:List T}(h:a.Perm b):qcm a=qcm b:=by
 induction h with
 |nil=>rfl
 |cons x _ ih=>rw[qaJ,qaJ,ih]
 |swap x y l=>rw[qaJ,qaJ,qaJ,qaJ];omega
 |trans _ _ h1 h2=>rw[h1,h2]
theorem qDn(s:List SymL)(f:Int)(k:T):qcm (qwI s f k)<=k.inner+1:=by
 unfold qwI;split
 ·rw[qmq];omega
 ·rw[qaJ];simp[qcm,T.inners]
theorem qoN(s:List SymL)(f:Int)(k:T)(l:List T):flatK s f (k::l)=qwI s f k++flatK s f l:=rfl
theorem qsh(s:List SymL)(f:Int)(a b:List T):flatK s f (a++b)=flatK s f a++flatK s f b:=by unfold flatK;simp
theorem qg2(s:List SymL)(f:Int):∀l:List T,qcm (flatK s f l)<=qcm l
 | []=>by simp[flatK,qcm,T.inners]
 |k::l=>by
  rw[qoN,qhv,qaJ];have:=qDn s f k;have:=qg2 s f l;omega
theorem T.qd3(f v:Int)(ks:List T):(T.node f v ks).inner=qcm ks:=by simp[T.inner,qcm]
mutual
theorem qfz(s:List SymL):∀t:T,(t.norm s).inner<=t.inner
 | .node f v ks=>by
  have h:=qg1 s ks;have h2:=qg2 s f (T.norms s ks);simp only[T.norm,T.qd3];split
  ·rw[qie (qez _)];omega
  ·omega
theorem qg1(s:List SymL):∀l:List T,qcm (T.norms s l)<=qcm l
 | []=>by simp[T.norms]
 |t::r=>by
  have h1:=qfz s t;have h2:=qg1 s r;simp only[T.norms,qaJ];omega
end
theorem qbi{l:List T}{t:T}(h:t∈l):t.inner<=qcm l:=by have:=T.qaA h;unfold qcm;omega
theorem qcN(l:List T):l.length<=qcm l:=by unfold qcm;omega
def qwM(s:List SymL)(f:Int)(ks:List T)(i:Nat):List T:=flatK s f ((ks.take i).map (T.norm s))
theorem qsV(s:List SymL)(f:Int)(ks:List T):qwM s f ks 0=[]:=by simp[qwM,flatK]
theorem qsW(s:List SymL)(f:Int)(ks:List T)(i:Nat)(h:i<ks.length):qwM s f ks (i+1)=qwM s f ks i++qwI s f ((tAt ks i).norm s):=by
 unfold qwM;rw[qhF ks i h,List.map_append,qsh];simp[flatK]
theorem qwL(s:List SymL)(f:Int)(ks:List T):qwM s f ks ks.length=flatK s f (T.norms s ks):=by
 unfold qwM;rw[List.take_length,T.norms_map]
theorem qsX(s:List SymL)(f:Int)(ks:List T)(i:Nat):qcm (qwM s f ks i)<=qcm ks:=by
 unfold qwM;have h1:=qg2 s f ((ks.take i).map (T.norm s));rw[<-T.norms_map]at h1⊢
 have h2:=qg1 s (ks.take i);have h3:=qKF ks i;omega
theorem qHP(t:T):∀(l:List T) (j:Nat),j<=l.length->(∀i,i<j->¬T.cmp t (tAt l i)<0)->(j<l.length->T.cmp t (tAt l j)<0)->ins t l=l.take j++t::l.drop j
 | [],j,hj,_,_=>by simp at hj;subst hj;rfl
 |x::r,0,hj,h1,h2=>by
  have:=h2 (by simp);simp only[tAt,List.getElem?_cons_zero,Option.getD_some]at this;simp[ins,this]
 |x::r,j+1,hj,h1,h2=>by
  have h0:=h1 0 (by omega);simp only[tAt,List.getElem?_cons_zero,Option.getD_some]at h0;have:=qHP t r j (by simpa using hj) (fun i hi=>by simpa[tAt]using h1 (i+1) (by omega)) (fun h=>by simpa[tAt]using h2 (by simpa using h));simp[ins,h0,this]
def e3(t:T):List AV:=[.d (.int .i64 t.f),.d (.int .i64 t.v),.d (qaa U t.kids)]
def e3'(t:T):List AV:=[.d (.int .i64 t.f),.d (.int .i64 t.v),.d (qaa .sub t.kids)]
def kc(l:List T):List AV:=(l.map e3).flatten
def qLe(cs:List (List AV)):Prop:=∀c,c∈cs->c.length=3
theorem qqp(l:List T):qLe (l.map e3):=fun c hc=>by
 obtain⟨t,_,rfl⟩:=List.mem_map.1 hc;rfl
theorem qqo{cs:List (List AV)}(h:qLe cs)(p:Nat)(x:List AV)(hx:x.length=3):qLe (cs.set p x):=fun c hc=>by
 rcases List.mem_or_eq_of_mem_set hc with h1|h1
 ·exact h c h1
 ·rw[h1,hx]
theorem qgG:∀{cs:List (List AV)},qLe cs->cs.flatten.length=cs.length*3
 | [],_=>rfl
 |c::r,h=>by
  have:=qgG (cs:=r) (fun x hx=>h x (by simp[hx]));have hc:=h c (by simp);simp only[List.flatten_cons,yg_,List.length_cons,this,hc];omega
theorem qh4:∀{cs:List (List AV)} (_:qLe cs) (p:Nat) (hp:p<cs.length),(cs.flatten.drop (p*3)).take 3=cs[p]
 |c::r,h,0,hp=>by
  have hc:=h c (by simp);simp only[Nat.zero_mul,List.drop_zero,List.flatten_cons,List.getElem_cons_zero];rw[List.take_append_of_le_length (by omega),List.take_of_length_le (by omega)]
 |c::r,h,p+1,hp=>by
  have hc:=h c (by simp);have:=qh4 (cs:=r) (fun x hx=>h x (by simp[hx])) p (by simpa using hp);simp only[List.flatten_cons,List.getElem_cons_succ];rw[List.drop_append,List.drop_of_length_le (by omega),List.nil_append,show(p+1)*3-c.length=p*3 by omega];exact this
theorem qeg:∀{cs:List (List AV)} (_:qLe cs) (p:Nat) (hp:p<cs.length) (x:List AV) (hx:x.length=3),splice cs.flatten (p*3) x=(cs.set p x).flatten
 |c::r,h,0,hp,x,hx=>by
  have hc:=h c (by simp);unfold splice;simp only[Nat.zero_mul,List.take_zero,List.nil_append,Nat.zero_add,List.flatten_cons,List.set_cons_zero];rw[hx,List.drop_append,List.drop_of_length_le (by omega),List.nil_append,show 3-c.length=0 by omega,List.drop_zero]
 |c::r,h,p+1,hp,x,hx=>by
  have hc:=h c (by simp);have:=qeg (cs:=r) (fun y hy=>h y (by simp[hy])) p (by simpa using hp) x hx;unfold splice at this⊢
  simp only[List.flatten_cons,List.set_cons_succ];rw[List.take_append,List.take_of_length_le (l:=c) (by omega),List.drop_append,List.drop_of_length_le (l:=c) (by omega),List.nil_append,show(p+1)*3-c.length=p*3 by omega,show(p+1)*3+x.length-c.length=p*3+x.length by omega,<-this];simp only[yh_]
theorem qhX(l:List T):(kc l).length=l.length*3:=by unfold kc;rw[qgG (qqp l),List.length_map]
theorem qCp:∀l:List T,kc l=qca (l.map (T.enc U))
 | []=>rfl
 |t::r=>by
  have h:=qCp r;unfold qca kc at h⊢
  simp[e3,flat]at h⊢
  exact h
def swp(l:List T)(p q:Nat):List T:=(l.set q (tAt l p)).set p (tAt l q)
theorem qgR(l:List T)(p q:Nat)(hp:p<l.length)(hq:q<l.length)(hpq:p≠q):∃c1 c2 c3:List AV,c1.length=l.length*3/\c2.length=l.length*3/\c3.length=l.length*3/\
 ((kc l).drop (p*3)).take 3=e3 (tAt l p)/\splice (kc l) (p*3) (e3' (tAt l p))=c1/\(c1.drop (q*3)).take 3=e3 (tAt l q)/\splice c1 (q*3) (e3' (tAt l q))=c2/\splice c2 (q*3) (e3 (tAt l p))=c3/\splice c3 (p*3) (e3 (tAt l q))=kc (swp l p q):=by
 have h0:=qqp l;have h1:=qqo h0 p (e3' (tAt l p)) rfl;have h2:=qqo h1 q (e3' (tAt l q)) rfl;have h3:=qqo h2 q (e3 (tAt l p)) rfl;refine⟨_,_,_,?_,?_,?_,?_,qeg h0 p (by simpa using hp) _ rfl,?_,qeg h1 q (by simpa using hq) _ rfl,qeg h2 q (by simpa using hq) _ rfl,?_⟩
 ·rw[qgG h1];simp
 ·rw[qgG h2];simp
 ·rw[qgG h3];simp
 ·unfold kc;rw[qh4 h0 p (by simpa using hp)];simp[qan hp]
 ·rw[qh4 h1 q (by simpa using hq),List.getElem_set_ne hpq];simp[qan hq]
 ·rw[qeg h3 p (by simpa using hp) _ rfl]
  unfold kc swp
  congr 1
  rw[List.map_set,List.map_set];apply List.ext_getElem (by simp);intro k k1 k2;simp only[List.getElem_set,List.getElem_map]
  by_cases e1:p=k
  ·subst e1;simp
  ·by_cases e2:q=k
   ·subst e2;simp[e1]
   ·simp[e1,e2]
theorem qj0(t:T):e3 t=[.d (.int .i64 t.f),.d (.int .i64 t.v),.d (qaa U t.kids)]:=rfl
theorem qqa(t:T):e3' t=[.d (.int .i64 t.f),.d (.int .i64 t.v),.d (qaa .sub t.kids)]:=rfl
theorem qIP(l:List T)(i:Nat)(hn:l.length<=1099511627776)(hl:i+1<l.length)(x1 x2 x3 x8:AV)(h1:x1.clr=x1)(h2:x2.clr=x2):
 qay XV [46,50] (.region true 0 [0,1,2,3,8,9] qvw) ⟨[(0,.tsl true 0 3 l.length),(1,x1),(2,x2),(3,x3),(8,x8),(9,.d (.int .i64 ((i+1:Nat):Int))),(34,.d (.bool true))],[some (kc l)]⟩=some (.normal,⟨[(0,.tsl true 0 3 l.length),(1,x1),(2,x2),(3,x3),(8,x8),(9,.d (.int .i64 ((i+1:Nat):Int)))],[some (kc (swp l i (i+1)))]⟩):=by
 have hw:IntKind.i64.wrap (((i+1:Nat):Int)-1)=(i:Int):=by rw[show((i+1:Nat):Int)-1=(i:Int)by omega];exact wrap_i64 (by omega) (by omega)
 obtain⟨c1,c2,c3,l1,l2,l3,f1,f2,f3,f4,f5,f6⟩:=qgR l i (i+1) (by omega) hl (by omega);have l0:=qhX l;generalize kc (swp l i (i+1))=c4 at f6⊢
 generalize kc l=c0 at f1 f2 l0⊢
 generalize hn':l.length=n at*
 have hj0:(0:Int)<=((i+1:Nat):Int)/\((i+1:Nat):Int)<n:=⟨by omega,by omega⟩;have hjn:((i+1:Nat):Int).toNat=i+1:=rfl;have hi0:(i:Int)<n:=by omega
 have le0:i*3+3<=n*3:=by omega
 have le1:(i+1)*3+3<=n*3:=by omega
 generalize ((i+1:Nat):Int)=J at hw hj0 hjn⊢
 simp only[qj0,qqa,qaa]at f1 f2 f3 f4 f5 f6;have hcls:∀x y z:AV,AV.clrs [x,y,z]=[x.clr,y.clr,z.clr]:=fun x y z=>by simp only[AV.clrs]
 simp[qHW,hw,hj0,hjn,hi0,l0,l1,l2,l3,f1,f2,f3,f4,f5,f6,le0,le1,hcls,qag,qae,qaf,qaB]
theorem quG(a b c d e f:Int)(B:qao)(hB:B.length=3):
 qbq XV [] 3 [2,3,26,27,28] qyU ⟨[(2,.ptr 1 0),(3,.ptr 2 0),(26,.d (.sl .sub (qyA a b c d e f))),(27,.d (.int .i64 3)),(28,.d (.int .i64 0))],B⟩=
  some (match runN (qkE a b c d e f) 3 () 0 with
   | .inl _=>(.exit 0,⟨[(2,.ptr 1 0),(3,.ptr 2 0),(26,.d (.sl .sub (qyA a b c d e f))),(27,.d (.int .i64 3)),(28,.d (.int .i64 3)),(29,.d (.bool false))],B⟩)
   | .inr r=>(.ret,⟨[(4,.d (.int .i64 r.1))],B++[some [.d (.int .i64 r.2.1),.d (.int .i64 r.2.2)]]⟩)):=by
 obtain⟨z,x0,x1,rfl⟩:∃z x0 x1,B=[z,x0,x1]:=by
  match B,hB with
  | [z,x0,x1],_=>exact⟨z,x0,x1,rfl⟩
 have key:=qal (X:=XV) (T:=[]) (L:=3) (live:=[2,3,26,27,28]) (b:=qyU) (n:=3) (γ:=Int×(Int×Int)) (st:=fun(_:Unit) i=>⟨[(2,.ptr 1 0),(3,.ptr 2 0),(26,.d (.sl .sub (qyA a b c d e f))),(27,.d (.int .i64 3)),(28,.d (.int .i64 i))],[z,x0,x1]⟩) (step:=qkE a b c d e f)
  (F:=fun _=>(.exit 0,⟨[(2,.ptr 1 0),(3,.ptr 2 0),(26,.d (.sl .sub (qyA a b c d e f))),(27,.d (.int .i64 3)),(28,.d (.int .i64 3)),(29,.d (.bool false))],[z,x0,x1]⟩)) (R:=fun r=>(.ret,⟨[(4,.d (.int .i64 r.1))],[z,x0,x1]++[some [.d (.int .i64 r.2.1),.d (.int .i64 r.2.2)]]⟩))
  (fun _=>⟨by simp,by simp[qyU,qFH]⟩)
  (fun _ i hi=>by
   have hw:=qai (n:=i) (by omega);have hi':(i:Int)<3:=by omega
   have hb:=qwo a b c d e f i hi;unfold qkE;generalize qgz a b c d e f i=q at hb;obtain⟨x,y⟩:=q;simp only at hb⊢
   by_cases h1:x<y
   ·rw[if_pos h1]
    refine⟨by simp,?_⟩;simp[qyU,qFH,qI6,qI5,qI4,hi',hb,cut,h1,qae,splice,qaj,qag,qaB]
   ·rw[if_neg h1]
    by_cases h2:x>y
    ·rw[if_pos h2]
     refine⟨by simp,?_⟩;simp[qyU,qFH,qI6,qI5,qI4,qMu,qMt,hi',hb,cut,h1,h2,qae,splice,qaj,qag,qaB]
    ·rw[if_neg h2]
     refine⟨_,by simp[qyU,qFH,qI6,qI5,qI4,qMu,qMt,qQt,hi',hb,cut,h1,h2,hw,qae,splice,qaj,qag,qaB];rfl,?_⟩;simp[qad,qab])
  3 () 0 ⟨[(2,.ptr 1 0),(3,.ptr 2 0),(26,.d (.sl .sub (qyA a b c d e f))),(27,.d (.int .i64 3)),(28,.d (.int .i64 0))],[z,x0,x1]⟩ (by omega) (by simp[qad,qab])
 rw[key];cases runN (qkE a b c d e f) 3 () 0<;>rfl
theorem quF(z:Option (List AV))(f v:Int)(ks:List T)(f' v':Int)(ks':List T)(hl:ks.length<=1099511627776)(hlen:ks.length=ks'.length)
 (hrec:∀s s',s∈ks->s'∈ks'->qac XV 6 [.d (s.enc .sub),.d (s'.enc .sub)] []=some (.d (.int .i64 (T.cmp s s')),[])):
 qbq XV [] 3 [2,3,47,48] qDN ⟨[(2,.ptr 1 0),(3,.ptr 2 0),(47,.d (.int .i64 ks.length)),(48,.d (.int .i64 0))],z::qfE f v ks f' v' ks'⟩=
  some (if T.cmps ks ks'=0 then(.exit 3,⟨[(2,.ptr 1 0),(3,.ptr 2 0),(47,.d (.int .i64 ks.length)),(48,.d (.int .i64 ks.length)),(49,.d (.bool false))],z::qfE f v ks f' v' ks'⟩)else(.ret,⟨[(4,.d (.int .i64 (T.cmps ks ks')))],z::qfE f v ks f' v' ks'⟩)):=by
 have h:=qal (X:=XV) (T:=[]) (L:=3) (live:=[2,3,47,48]) (b:=qDN) (n:=ks.length) (γ:=Int) (st:=fun(_:Unit) i=>⟨[(2,.ptr 1 0),(3,.ptr 2 0),(47,.d (.int .i64 ks.length)),(48,.d (.int .i64 i))],z::qfE f v ks f' v' ks'⟩) (step:=qmO ks ks')
  (F:=fun _=>(.exit 3,⟨[(2,.ptr 1 0),(3,.ptr 2 0),(47,.d (.int .i64 ks.length)),(48,.d (.int .i64 ks.length)),(49,.d (.bool false))],z::qfE f v ks f' v' ks'⟩)) (R:=fun r=>(.ret,⟨[(4,.d (.int .i64 r))],z::qfE f v ks f' v' ks'⟩))
  (fun _=>⟨by simp,by simp[qDN,qtt]⟩)
  (fun _ i hi=>by
   have hw:=qai (n:=i) (by omega);have hi2:i<ks'.length:=by omega
   have hc:=hrec _ _ (qav hi) (qav hi2);unfold qmO qfE
   by_cases h0:T.cmp (tAt ks i) (tAt ks' i)=0
   ·rw[h0]at hc⊢
    simp only[ne_eq,not_true_eq_false,if_false];refine⟨_,by simp[qDN,qtt,qAI,qGp,qAH,qAG,qAF,hi,hi2,hw,cut,qan hi,qan hi2,hc,qaj];rfl,?_⟩;simp[qad,qab]
   ·simp only[ne_eq,h0,not_false_eq_true,if_true]
    have h0':(T.cmp (tAt ks i) (tAt ks' i) !=0)=true:=by simp[h0]
    refine⟨by simp,?_⟩;simp[qDN,qtt,qAI,qGp,qAH,qAG,qAF,hi,hi2,hw,cut,qan hi,qan hi2,hc,qaj,h0'])
  ks.length () 0 ⟨[(2,.ptr 1 0),(3,.ptr 2 0),(47,.d (.int .i64 ks.length)),(48,.d (.int .i64 0))],z::qfE f v ks f' v' ks'⟩ (by omega) (by simp[qad,qab,qfE])
 rw[qMl ks ks' hlen _ _ (by omega)]at h;simp only[List.drop_zero]at h;rw[h]
 by_cases h0:T.cmps ks ks'=0<;>simp[h0]
theorem quE(z:Option (List AV))(f v:Int)(ks:List T)(f' v':Int)(ks':List T)(hl:ks.length<=1099511627776)(hl':ks'.length<=1099511627776)
 (hrec:∀s s',s∈ks->s'∈ks'->qac XV 6 [.d (s.enc .sub),.d (s'.enc .sub)] []=some (.d (.int .i64 (T.cmp s s')),[])):
 qac XV 6 [.d ((T.node f v ks).enc .sub),.d ((T.node f' v' ks').enc .sub)] [z]=some (.d (.int .i64 (T.cmp (.node f v ks) (.node f' v' ks'))),[z]):=by
 rw[qah XV _ _ _ v6 rfl qzh rfl];have h1:=quG f f' v v' ks.length ks'.length (z::qfE f v ks f' v' ks') rfl;simp[v6,qQv,qQu,qae,qaf,qag,qaB,splice,qaj,qaR,List.replicate];simp only[qyA,qfE]at h1;rw[h1,qkt];rcases qSf f f' v v' ks.length ks'.length with⟨h3,e1,e2,e3⟩|⟨r,h3,h4⟩
 ·rw[h3]
  have hlen:ks.length=ks'.length:=by omega
  have h2:=quF z f v ks f' v' ks' hl hlen hrec;simp only[qfE]at h2;subst e1;subst e2
  simp[qQs,qaj];rw[h2];have h5:qsv f f v v ks.length ks'.length (T.cmps ks ks')=T.cmps ks ks':=by simp[qsv,hlen]
  rw[h5]
  by_cases c7:T.cmps ks ks'=0
  ·simp[c7,qI7]
  ·simp[c7]
 ·rw[h3,h4];simp
theorem qfZ(z:Option (List AV))(a b:T)(ha:a.inner<=1099511627776)(hb:b.inner<=1099511627776):qac XV 6 [.d (a.enc .sub),.d (b.enc .sub)] [z]=some (.d (.int .i64 (T.cmp a b)),[z]):=by
 obtain⟨f,v,ks⟩:=a;obtain⟨f',v',ks'⟩:=b;simp only[T.inner]at ha hb;exact quE z f v ks f' v' ks' (by omega) (by omega) (fun s s' hs hs'=>qgZ s s' (by have:=T.qaA hs;omega) (by have:=T.qaA hs';omega))
theorem qtg(A Z:List T)(x:T):tAt (A++x::Z) A.length=x:=by simp[tAt]
theorem qpl(A M Z:List T)(x y:T)(q:Nat)(hq:q=A.length+1+M.length):swp (A++x::(M++y::Z)) A.length q=A++y::(M++x::Z):=by
 subst hq;have h1:tAt (A++x::(M++y::Z)) (A.length+1+M.length)=y:=by
  have:=qtg (A++x::M) Z y;simp only[yg_,List.length_cons,yh_,List.cons_append]at this;rw[show A.length+1+M.length=A.length+(M.length+1)by omega];exact this
 have h2:=qtg A (M++y::Z) x;unfold swp;rw[h1,h2];have s1:(A++x::(M++y::Z)).set (A.length+1+M.length) x=A++x::(M++x::Z):=by
  have:=List.set_append_right (s:=A++x::M) (t:=y::Z) (A.length+1+M.length) x (by simp;omega);simp only[yh_,List.cons_append,yg_,List.length_cons]at this;rw[this,show A.length+1+M.length-(A.length+(M.length+1))=0 by omega];rfl
 rw[s1,List.set_append_right _ _ (Nat.le_refl _),Nat.sub_self];rfl
theorem qu2(l:List T)(p q:Nat)(h:p≠q):swp l p q=swp l q p:=by
 unfold swp;rw[List.set_comm _ _ h]
theorem qIO(l:List T)(a b i:Nat)(n:Int)(hn:l.length<=1099511627776)(ha:a+i<l.length)(hb:b+i<l.length)(hab:b≠a):
 qay XV [29,35] (.region true 0 [0,1,2,3,10] qvp) ⟨[(0,.tsl true 0 3 l.length),(1,.d (.int .i64 a)),(2,.d (.int .i64 b)),(3,.d (.int .i64 n)),(10,.d (.int .i64 i)),(13,.d (.bool true))],[some (kc l)]⟩=some (.normal,⟨[(0,.tsl true 0 3 l.length),(1,.d (.int .i64 a)),(2,.d (.int .i64 b)),(3,.d (.int .i64 n)),(10,.d (.int .i64 i))],[some (kc (swp l (b+i) (a+i)))]⟩):=by
 have hwa:IntKind.i64.wrap ((a:Int)+i)=((a+i:Nat):Int):=by rw[wrap_i64 (by omega) (by omega)];omega
 have hwb:IntKind.i64.wrap ((b:Int)+i)=((b+i:Nat):Int):=by rw[wrap_i64 (by omega) (by omega)];omega
 obtain⟨c1,c2,c3,l1,l2,l3,f1,f2,f3,f4,f5,f6⟩:=qgR l (b+i) (a+i) hb ha (by omega);have l0:=qhX l;generalize kc (swp l (b+i) (a+i))=c4 at f6⊢
 generalize kc l=c0 at f1 f2 l0⊢
 generalize hn':l.length=m at*
 have hj0:(0:Int)<=((a+i:Nat):Int)/\((a+i:Nat):Int)<m:=⟨by omega,by omega⟩;have hk0:(0:Int)<=((b+i:Nat):Int)/\((b+i:Nat):Int)<m:=⟨by omega,by omega⟩;have hjn:((a+i:Nat):Int).toNat=a+i:=rfl;have hkn:((b+i:Nat):Int).toNat=b+i:=rfl;have le0:(a+i)*3+3<=m*3:=by omega
 have le1:(b+i)*3+3<=m*3:=by omega
 generalize ((a+i:Nat):Int)=J at hwa hj0 hjn⊢
 generalize ((b+i:Nat):Int)=K at hwb hk0 hkn⊢
 simp only[qj0,qqa,qaa]at f1 f2 f3 f4 f5 f6;have hcls:∀x y z:AV,AV.clrs [x,y,z]=[x.clr,y.clr,z.clr]:=fun x y z=>by simp only[AV.clrs]
 simp[qPb,hwa,hwb,hj0,hjn,hk0,hkn,l0,l1,l2,l3,f1,f2,f3,f4,f5,f6,le0,le1,hcls,qag,qae,qaf,qaB]
def srS(A P Q R Z:List T)(i:Nat):List T:=A++R.take i++P.drop i++Q++P.take i++R.drop i++Z
theorem qIR(A P Q R Z:List T)(i:Nat)(h:P.length=R.length):(srS A P Q R Z i).length=(A++P++Q++R++Z).length:=by simp[srS];omega
theorem qE7(A P Q R Z:List T)(i:Nat)(h:P.length=R.length)(hi:i<P.length):swp (srS A P Q R Z i) (A.length+P.length+Q.length+i) (A.length+i)=srS A P Q R Z (i+1):=by
 have hi2:i<R.length:=by omega
 have e0:srS A P Q R Z i=(A++R.take i)++P[i]::((P.drop (i+1)++Q++P.take i)++R[i]::(R.drop (i+1)++Z)):=by
  unfold srS;rw[List.drop_eq_getElem_cons hi,List.drop_eq_getElem_cons hi2];simp only[yh_,List.cons_append,List.nil_append]
 have e1:srS A P Q R Z (i+1)=(A++R.take i)++R[i]::((P.drop (i+1)++Q++P.take i)++P[i]::(R.drop (i+1)++Z)):=by
  unfold srS;rw[<-List.take_append_getElem hi,<-List.take_append_getElem hi2];simp only[yh_,List.cons_append,List.nil_append]
 have hl:(A++R.take i).length=A.length+i:=by simp;omega
 rw[e0,e1,qu2 _ _ _ (by omega),<-hl];exact qpl _ _ _ _ _ _ (by simp;omega)
theorem qqS(A P Q R Z:List T)(h:P.length=R.length)(hn:(A++P++Q++R++Z).length<=1099511627776)(f:AV)(hf:f.clr=f):
 qac XV 175 [.tsl true 0 3 (A++P++Q++R++Z).length,.d (.int .i64 A.length),.d (.int .i64 (A.length+P.length+Q.length:Nat)),.d (.int .i64 P.length),f] [some (kc (A++P++Q++R++Z))]=some (.d (.tup []),[some (kc (A++R++Q++P++Z))]):=by
 rw[qah XV _ _ _ qL4 rfl qzR rfl];have hlen:∀i,(srS A P Q R Z i).length=(A++P++Q++R++Z).length:=fun i=>qIR A P Q R Z i h
 have e0:srS A P Q R Z 0=A++P++Q++R++Z:=by simp[srS]
 have e1:srS A P Q R Z P.length=A++R++Q++P++Z:=by
  unfold srS;rw[List.drop_of_length_le (l:=R) (by omega),List.take_of_length_le (l:=R) (by omega)];simp
 rw[<-e0,<-e1];generalize hN:(A++P++Q++R++Z).length=N at hn hlen;have hN2:N=A.length+P.length+Q.length+R.length+Z.length:=by rw[<-hN];simp;omega
 rw[hlen 0];have hloop:=qal (X:=XV) (T:=[29,35]) (L:=1) (live:=[0,1,2,3,10]) (b:=qwD) (n:=P.length) (γ:=Unit) (st:=fun(_:Unit) i=>⟨[(0,.tsl true 0 3 N),(1,.d (.int .i64 A.length)),(2,.d (.int .i64 (A.length+P.length+Q.length:Nat))),(3,.d (.int .i64 P.length)),(10,.d (.int .i64 i))],[some (kc (srS A P Q R Z i))]⟩) (step:=fun _ _=> .inl ())
  (F:=fun _=>(.exit 0,⟨[(0,.tsl true 0 3 N),(1,.d (.int .i64 A.length)),(2,.d (.int .i64 (A.length+P.length+Q.length:Nat))),(3,.d (.int .i64 P.length)),(10,.d (.int .i64 P.length)),(13,.d (.bool false))],[some (kc (srS A P Q R Z P.length))]⟩)) (R:=fun _=>(.ret,⟨[],[]⟩))
  (fun _=>⟨by simp,by simp[qwD,qA5]⟩)
  (fun _ i hi=>by
   have hw:=qai (n:=i) (by omega);have hs:=qIO (srS A P Q R Z i) A.length (A.length+P.length+Q.length) i P.length (by rw[hlen];exact hn) (by rw[hlen];omega) (by rw[hlen];omega) (by omega);rw[qE7 A P Q R Z i h hi,hlen]at hs;have hi':(i:Int)<P.length:=by omega
   generalize hc2:kc (srS A P Q R Z (i+1))=c2 at hs;generalize kc (srS A P Q R Z i)=c1 at hs⊢
   exact⟨⟨[(0,.tsl true 0 3 N),(1,.d (.int .i64 A.length)),(2,.d (.int .i64 (A.length+P.length+Q.length:Nat))),(3,.d (.int .i64 P.length)),(10,.d (.int .i64 (i+1:Nat)))],[some c2]⟩,by
    simp[qwD,qA5,qHn,hi];simp only[Int.natCast_add]at hs;rw[hs];simp[hw],by simp[qad,qab,qba,hc2]⟩)
  P.length () 0 ⟨[(0,.tsl true 0 3 N),(1,.d (.int .i64 A.length)),(2,.d (.int .i64 (A.length+P.length+Q.length:Nat))),(3,.d (.int .i64 P.length)),(10,.d (.int .i64 0))],[some (kc (srS A P Q R Z 0))]⟩ (by omega) (by simp[qad,qab,qba])
 rw[qjj]at hloop;generalize kc (srS A P Q R Z P.length)=c2 at hloop⊢
 generalize kc (srS A P Q R Z 0)=c1 at hloop⊢
 generalize ((A.length+P.length+Q.length:Nat):Int)=K at hloop⊢
 simp[qL4,qHo,hf];rw[hloop];simp
theorem qgf(A P Q R Z:List T)(a b n N:Nat)(ha:a=A.length)(hb:b=A.length+P.length+Q.length)(hn':n=P.length)(hr:n=R.length)(hN:N=(A++P++Q++R++Z).length)(hn:N<=1099511627776)(f:AV)(hf:f.clr=f):
 qac XV 175 [.tsl true 0 3 N,.d (.int .i64 a),.d (.int .i64 b),.d (.int .i64 n),f] [some (kc (A++P++Q++R++Z))]=some (.d (.tup []),[some (kc (A++R++Q++P++Z))]):=by
 subst ha;subst hb;subst hn';subst hN
 exact qqS A P Q R Z hr hn f hf
theorem qFu(G:List T)(m N:Nat)(hN:N<=1099511627776)(f:AV)(hf:f.clr=f)(hfs:f.safe 1=true):∀(k:Nat) (A X Y Z:List T),X.length+Y.length<=k->0<X.length->0<Y.length->A.length+X.length=m->(A++X++Y++Z).length=N->G=A++Y++X++Z->
 ∃(A2 X2 Y2 Z2:List T),X2.length=Y2.length/\A2.length+X2.length=m/\(A2++X2++Y2++Z2).length=N/\G=A2++Y2++X2++Z2/\
  qbq XV [] 1 [0,2,4,10,11] qsK ⟨[(0,.tsl true 0 3 N),(2,.d (.int .i64 m)),(4,f),(10,.d (.int .i64 X.length)),(11,.d (.int .i64 Y.length))],[some (kc (A++X++Y++Z))]⟩=some (.exit 0,⟨[(0,.tsl true 0 3 N),(2,.d (.int .i64 m)),(4,f),(10,.d (.int .i64 X2.length)),(11,.d (.int .i64 X2.length)),(20,.d (.bool false))],[some (kc (A2++X2++Y2++Z2))]⟩):=by
 intro k
 induction k with
 |zero=>intro A X Y Z h1 h2;omega
 |succ k ih=>
  intro A X Y Z hk hx hy hm hl hG;have hl2:A.length+X.length+Y.length+Z.length=N:=by rw[<-hl];simp;omega
  have head:∀(x y:Nat) (c:List AV),qad 1 [0,2,4,10,11] ⟨[(0,.tsl true 0 3 N),(2,.d (.int .i64 m)),(4,f),(10,.d (.int .i64 x)),(11,.d (.int .i64 y))],[some c]⟩=some ⟨[(0,.tsl true 0 3 N),(2,.d (.int .i64 m)),(4,f),(10,.d (.int .i64 x)),(11,.d (.int .i64 y))],[some c]⟩:=fun x y c=>by
   simp[qad,qab,qba,hfs]
  rcases Nat.lt_trichotomy X.length Y.length with hlt|heq|hgt
  ·
   have hq:(Y.take (Y.length-X.length)).length=Y.length-X.length:=by simp
   have hr:(Y.drop (Y.length-X.length)).length=X.length:=by simp;omega
   generalize hQ:Y.take (Y.length-X.length)=Q at hq;generalize hR:Y.drop (Y.length-X.length)=R at hr;have hY:Y=Q++R:=by rw[<-hQ,<-hR,List.take_append_drop]
   have hs:=qgf A X Q R Z A.length (m+Y.length-X.length) X.length N rfl (by omega) rfl hr.symm (by simp;omega) hN f hf;obtain⟨A2,X2,Y2,Z2,r1,r2,r3,r4,r5⟩:=ih A R Q (X++Z) (by omega) (by omega) (by omega) (by omega) (by simp;omega) (by rw[hG,hY];simp);refine⟨A2,X2,Y2,Z2,r1,r2,r3,r4,?_⟩;rw[<-r5,hr,hq];have e1:A++X++Y++Z=A++X++Q++R++Z:=by rw[hY];simp
   have e2:A++R++Q++(X++Z)=A++R++Q++X++Z:=by simp
   rw[e1,e2];have w1:IntKind.i64.wrap ((m:Int)-X.length)=(A.length:Int):=by rw[wrap_i64 (by omega) (by omega)];omega
   have w2:IntKind.i64.wrap ((m:Int)+Y.length)=((m+Y.length:Nat):Int):=by rw[wrap_i64 (by omega) (by omega)];omega
   have w3:IntKind.i64.wrap (((m+Y.length:Nat):Int)-X.length)=((m+Y.length-X.length:Nat):Int):=by rw[wrap_i64 (by omega) (by omega)];omega
   have w4:IntKind.i64.wrap ((Y.length:Int)-X.length)=((Y.length-X.length:Nat):Int):=by rw[wrap_i64 (by omega) (by omega)];omega
   refine qbO (head _ _ _) ?_;have n1:((X.length:Int) !=(Y.length:Int))=true:=by simp;omega
   have n2:¬((Y.length:Int)<X.length):=by omega
   generalize kc (A++X++Q++R++Z)=c1 at hs⊢
   generalize kc (A++R++Q++X++Z)=c2 at hs⊢
   generalize ((m+Y.length-X.length:Nat):Int)=gv1 at*
   generalize ((m+Y.length:Nat):Int)=gv2 at*
   generalize ((Y.length-X.length:Nat):Int)=gv3 at*
   generalize (X.length:Int)=vx at*
   generalize (Y.length:Int)=vy at*
   simp[qsK,qvt,qvs,qvr,qBa,qA9,qA8,qA7,qA6,qvq,n1,n2,w1,w2,w3,w4,hs,hf]
  ·
   refine⟨A,X,Y,Z,heq,hm,hl,hG,?_⟩;rw[<-heq];refine qa3 (head _ _ _) ?_ (by simp);simp[qsK,qvr]
  ·have hp:(X.take Y.length).length=Y.length:=by simp;omega
   have hq:(X.drop Y.length).length=X.length-Y.length:=by simp
   generalize hP:X.take Y.length=P at hp;generalize hQ:X.drop Y.length=Q at hq;have hX:X=P++Q:=by rw[<-hP,<-hQ,List.take_append_drop]
   have hs:=qgf A P Q Y Z A.length m Y.length N rfl (by omega) hp.symm rfl (by simp;omega) hN f hf;obtain⟨A2,X2,Y2,Z2,r1,r2,r3,r4,r5⟩:=ih (A++Y) Q P Z (by omega) (by omega) (by omega) (by simp;omega) (by simp;omega) (by rw[hG,hX];simp);refine⟨A2,X2,Y2,Z2,r1,r2,r3,r4,?_⟩;rw[<-r5,hp,hq];have e1:A++X++Y++Z=A++P++Q++Y++Z:=by rw[hX];simp
   rw[e1];have w1:IntKind.i64.wrap ((m:Int)-X.length)=(A.length:Int):=by rw[wrap_i64 (by omega) (by omega)];omega
   have w4:IntKind.i64.wrap ((X.length:Int)-Y.length)=((X.length-Y.length:Nat):Int):=by rw[wrap_i64 (by omega) (by omega)];omega
   refine qbO (head _ _ _) ?_;have n1:((X.length:Int) !=(Y.length:Int))=true:=by simp;omega
   have n2:((Y.length:Int)<X.length):=by omega
   generalize kc (A++P++Q++Y++Z)=c1 at hs⊢
   generalize kc (A++Y++Q++P++Z)=c2 at hs⊢
   generalize ((X.length-Y.length:Nat):Int)=gv3 at*
   generalize (X.length:Int)=vx at*
   generalize (Y.length:Int)=vy at*
   simp[qsK,qvt,qvs,qvr,qBa,qA9,qA8,qA7,qA6,qvq,n1,n2,w1,w4,hs,hf]
theorem qAz(A X Y Z:List T)(a m b N:Nat)(ha:a=A.length)(hm:m=A.length+X.length)(hb:b=A.length+X.length+Y.length)(hN:N=(A++X++Y++Z).length)(hn:N<=1099511627776)(hx:0<X.length)(hy:0<Y.length)(f:AV)(hf:f.clr=f)(hfs:f.safe 1=true):
 qac XV 174 [.tsl true 0 3 N,.d (.int .i64 a),.d (.int .i64 m),.d (.int .i64 b),f] [some (kc (A++X++Y++Z))]=some (.d (.tup []),[some (kc (A++Y++X++Z))]):=by
 have hl:A.length+X.length+Y.length+Z.length=N:=by rw[hN];simp;omega
 obtain⟨A2,X2,Y2,Z2,r1,r2,r3,r4,r5⟩:=qFu (A++Y++X++Z) m N hn f hf hfs (X.length+Y.length) A X Y Z (Nat.le_refl _) hx hy hm.symm hN.symm rfl;have hl2:A2.length+X2.length+Y2.length+Z2.length=N:=by rw[<-r3];simp;omega
 have hs:=qgf A2 X2 [] Y2 Z2 A2.length m X2.length N rfl (by simp;omega) rfl r1 (by simp;omega) hn f hf;simp only[List.append_nil]at hs;rw[qah XV _ _ _ qL5 rfl qzS rfl,r4];have w1:IntKind.i64.wrap ((m:Int)-a)=(X.length:Int):=by rw[wrap_i64 (by omega) (by omega)];omega
 have w2:IntKind.i64.wrap ((b:Int)-m)=(Y.length:Int):=by rw[wrap_i64 (by omega) (by omega)];omega
 have w3:IntKind.i64.wrap ((m:Int)-X2.length)=(A2.length:Int):=by rw[wrap_i64 (by omega) (by omega)];omega
 generalize kc (A++X++Y++Z)=c1 at*
 generalize kc (A2++X2++Y2++Z2)=c2 at*
 generalize kc (A2++Y2++X2++Z2)=c3 at*
 simp[qL5,qvt,qvs,w1,w2,hf];rw[r5];simp[qvq,w3,hf,hs]
theorem qr1(l:List T)(i:Nat)(hi:i<l.length):((kc l).drop (i*3)).take 3=e3 (tAt l i):=by
 unfold kc;rw[qh4 (qqp l) i (by simpa using hi)];simp[qan hi]
theorem qi2(f v:Int)(ks:List T):DV.agg [.int .i64 f,.int .i64 v,.sl .sub (ks.map (T.enc .sub))]=(T.node f v ks).enc .sub:=(T.qcJ .sub (.node f v ks)).symm
theorem qPi(l:List T)(a:Nat)(j:Nat)(hn:l.length<=1099511627776)(hl:j+1<l.length)(ha:a<j+1)(hb:∀t,t∈l->t.inner<=1099511627776)(x2 x8:AV):
 qay XV [46,50] (.region true 0 [0,1,2,3,8,9,34] qvx) ⟨[(0,.tsl true 0 3 l.length),(1,.d (.int .i64 a)),(2,x2),(3,.fn 6 []),(8,x8),(9,.d (.int .i64 ((j+1:Nat):Int)))],[some (kc l)]⟩=some (.normal,⟨[(0,.tsl true 0 3 l.length),(1,.d (.int .i64 a)),(2,x2),(3,.fn 6 []),(8,x8),(9,.d (.int .i64 ((j+1:Nat):Int))),(34,.d (.bool (decide (T.cmp (tAt l (j+1)) (tAt l j)<0))))],[some (kc l)]⟩):=by
 have hw:IntKind.i64.wrap (((j+1:Nat):Int)-1)=(j:Int):=by rw[show((j+1:Nat):Int)-1=(j:Int)by omega];exact wrap_i64 (by omega) (by omega)
 have hc:=qfZ (some (kc l)) (tAt l (j+1)) (tAt l j) (hb _ (qav hl)) (hb _ (qav (by omega)));have f1:=qr1 l j (by omega);have f2:=qr1 l (j+1) hl;have l0:=qhX l;generalize T.cmp (tAt l (j+1)) (tAt l j)=r at hc⊢
 generalize kc l=c0 at f1 f2 l0 hc⊢
 generalize hn':l.length=n at*
 have hj0:(0:Int)<=((j+1:Nat):Int)/\((j+1:Nat):Int)<n:=⟨by omega,by omega⟩;have hjn:((j+1:Nat):Int).toNat=j+1:=rfl;have hi0:(j:Int)<n:=by omega
 have le0:j*3+3<=n*3:=by omega
 have le1:(j+1)*3+3<=n*3:=by omega
 have hja:((a:Int)<((j+1:Nat):Int)):=by omega
 generalize ((j+1:Nat):Int)=J at hw hj0 hjn hja⊢
 obtain⟨fa,va,ka⟩:=tAt l (j+1);obtain⟨fb,vb,kb⟩:=tAt l j;simp only[qj0,qaa,T.qaW,T.qdR,T.qaQ]at f1 f2;simp[qHX,hw,hj0,hjn,hi0,hja,l0,f1,f2,le0,le1,hc,qag,qae,qaf,qaB,qi2]
theorem qv0(A Z:List T)(x:T)(i:Nat)(h:i=A.length):tAt (A++x::Z) i=x:=by subst h;exact qtg A Z x
theorem que(N a:Nat)(hn:N<=1099511627776)(x2 x8:Int)(x:T):∀(k:Nat) (A S T1:List T),S.length=k->A.length=a->(A++S++x::T1).length=N->(∀t,t∈A++S++x::T1->t.inner<=1099511627776)->
 ∃S1 S2:List T,S=S1++S2/\(∀s,s∈S2->T.cmp x s<0)/\(∀s,S1.getLast?=some s->¬T.cmp x s<0)/\
  ∀(s0:XS),s0.r=[(0,.tsl true 0 3 N),(1,.d (.int .i64 a)),(2,.d (.int .i64 x2)),(3,.fn 6 []),(8,.d (.int .i64 x8)),(9,.d (.int .i64 (a+S.length:Nat)))]->s0.B=[some (kc (A++S++x::T1))]->
  ∃w,qbq XV [46,50] 1 [0,1,2,3,8,9] qsN s0=some (.exit 2,⟨[(0,.tsl true 0 3 N),(1,.d (.int .i64 a)),(2,.d (.int .i64 x2)),(3,.fn 6 []),(8,.d (.int .i64 x8)),(9,.d (.int .i64 (a+S1.length:Nat))),(34,w)],[some (kc (A++S1++x::(S2++T1)))]⟩):=by
 have head:∀(y:Int) (c:List AV) (s0:XS),s0.r=[(0,.tsl true 0 3 N),(1,.d (.int .i64 a)),(2,.d (.int .i64 x2)),(3,.fn 6 []),(8,.d (.int .i64 x8)),(9,.d (.int .i64 y))]->s0.B=[some c]->qad 1 [0,1,2,3,8,9] s0=some ⟨[(0,.tsl true 0 3 N),(1,.d (.int .i64 a)),(2,.d (.int .i64 x2)),(3,.fn 6 []),(8,.d (.int .i64 x8)),(9,.d (.int .i64 y))],[some c]⟩:=fun y c s0 h1 h2=>by
  obtain⟨r,B⟩:=s0;simp only at h1 h2;subst h1;subst h2
  simp[qad,qab,qba,qdz,qbh]
 intro k
 induction k with
 |zero=>
  intro A S T1 hS hA hN hb;have:S=[]:=List.length_eq_zero_iff.1 hS;subst this;refine⟨[],[],rfl,by simp,by simp,fun s0 h1 h2=>⟨.d (.bool false),?_⟩⟩;refine qa3 (head _ _ s0 h1 h2) ?_ (by simp);simp[qsN,qrv,qoB,qBp,qHX,qHW,qBo,qBq]
 |succ k ih=>
  intro A S T1 hS hA hN hb;have hne:S≠[]:=by intro h;simp[h]at hS
  obtain⟨S',s,rfl⟩:∃S' s,S=S'++[s]:=⟨S.dropLast,S.getLast hne,(List.dropLast_concat_getLast hne).symm⟩;have hS':S'.length=k:=by simpa using hS
  have hl0:A++(S'++[s])++x::T1=(A++S')++s::([]++x::T1):=by simp
  have hl1:A++S'++x::(s::T1)=(A++S')++x::([]++s::T1):=by simp
  have hNl:A.length+S'.length+T1.length+2=N:=by rw[<-hN];simp;omega
  have hja:a+(S'++[s]).length=(a+S'.length)+1:=by simp;omega
  have t0:tAt (A++(S'++[s])++x::T1) (a+S'.length)=s:=by rw[hl0];exact qv0 _ _ _ _ (by simp[hA])
  have t1:tAt (A++(S'++[s])++x::T1) (a+S'.length+1)=x:=qv0 _ _ _ _ (by simp;omega);have hc:=qPi (A++(S'++[s])++x::T1) a (a+S'.length) (by rw[hN];exact hn) (by rw[hN];omega) (by omega) hb (.d (.int .i64 x2)) (.d (.int .i64 x8));rw[t0,t1,hN]at hc
  by_cases hq:T.cmp x s<0
  ·have hsw:=qIP (A++(S'++[s])++x::T1) (a+S'.length) (by rw[hN];exact hn) (by rw[hN];omega) (.d (.int .i64 a)) (.d (.int .i64 x2)) (.fn 6 []) (.d (.int .i64 x8)) (by simp) (by simp)
   have hsp:swp (A++(S'++[s])++x::T1) (a+S'.length) (a+S'.length+1)=A++S'++x::(s::T1):=by
    rw[hl0,hl1,show a+S'.length=(A++S').length by simp[hA]];exact qpl _ [] _ _ _ _ (by simp)
   rw[hsp,hN]at hsw;obtain⟨S1,S2,e1,e2,e3,e4⟩:=ih A S' (s::T1) hS' hA (by simp;omega) (fun t ht=>hb t (by
    simp only[List.mem_append,List.mem_cons]at ht;rcases ht with(h|h)|h|h|h<;>simp[h]))
   refine⟨S1,S2++[s],by rw[e1];simp,fun y hy=> ?_,e3,fun s0 h1 h2=> ?_⟩
   ·rcases List.mem_append.1 hy with h|h
    ·exact e2 y h
    ·simp at h;subst h;exact hq
   ·rw[hja]at h1
    have hw:=wrap_i64 (n:=((a+S'.length:Nat):Int)) (by omega) (by omega);obtain⟨w,hlo⟩:=e4 ⟨[(0,.tsl true 0 3 N),(1,.d (.int .i64 a)),(2,.d (.int .i64 x2)),(3,.fn 6 []),(8,.d (.int .i64 x8)),(9,.d (.int .i64 (a+S'.length:Nat)))],[some (kc (A++S'++x::(s::T1)))]⟩ rfl rfl;refine⟨w,?_⟩;have hap:S2++[s]++T1=S2++(s::T1):=by simp
    rw[hap,<-hlo];refine qbO (head _ _ s0 h1 h2) ?_;have hw1:IntKind.i64.wrap (((a+S'.length+1:Nat):Int)-1)=((a+S'.length:Nat):Int):=by rw[show((a+S'.length+1:Nat):Int)-1=((a+S'.length:Nat):Int)by omega];exact hw
    simp only[hq,decide_true]at hc;generalize kc (A++S'++x::(s::T1))=c2 at hsw⊢
    generalize kc (A++(S'++[s])++x::T1)=c1 at hc hsw⊢
    generalize ((a+S'.length+1:Nat):Int)=J at*
    generalize ((a+S'.length:Nat):Int)=I at*
    simp only[qsN,qmp,hc];simp;rw[hsw];simp[qBo,hw1]
  ·refine⟨S'++[s],[],by simp,by simp,fun y hy=> ?_,fun s0 h1 h2=>⟨.d (.bool false),?_⟩⟩
   ·simp at hy;subst hy;exact hq
   ·rw[hja]at h1⊢
    refine qa3 (head _ _ s0 h1 h2) ?_ (by simp);simp only[hq,decide_false]at hc;simp only[List.nil_append];generalize kc (A++(S'++[s])++x::T1)=c1 at hc⊢
    generalize ((a+S'.length+1:Nat):Int)=J at*
    simp only[qsN,qmp,hc];simp
theorem qxa{S1 S2:List T}{x:T}(h:Srt (S1++S2))(h2:∀s,s∈S2->T.cmp x s<0)(h1:∀s,S1.getLast?=some s->¬T.cmp x s<0):Srt (S1++x::S2):=by
 unfold Srt at*
 rw[List.pairwise_append]at h⊢
 obtain⟨p1,p2,p3⟩:=h;have hx:∀s,s∈S1->tle s x:=by
  intro s hs;have hne:S1≠[]:=fun he=>by rw[he]at hs;simp at hs
  have hl:=qcn (h1 (S1.getLast hne) (List.getLast?_eq_some_getLast hne))
  by_cases he:s=S1.getLast hne
  ·rw[he];exact hl
  ·have hd:s∈S1.dropLast:=by
    have:=List.dropLast_concat_getLast hne;rw[<-this]at hs;rcases List.mem_append.1 hs with h|h
    ·exact h
    ·simp at h;exact absurd h he
   have hp:(S1.dropLast++[S1.getLast hne]).Pairwise tle:=by rw[List.dropLast_concat_getLast];exact p1
   exact qge ((List.pairwise_append.1 hp).2.2 s hd _ (by simp)) hl
 refine⟨p1,List.pairwise_cons.2 ⟨fun s hs=>qft (h2 s hs),p2⟩,fun s hs t ht=> ?_⟩;rcases List.mem_cons.1 ht with rfl|ht
 ·exact hx s hs
 ·exact p3 s hs t ht
theorem qr5(N a b:Nat)(hn:N<=1099511627776)(A Z:List T)(hA:A.length=a):∀(R S:List T),0<S.length->b=a+S.length+R.length->(A++S++R++Z).length=N->(∀t,t∈A++S++R++Z->t.inner<=1099511627776)->Srt S->
 ∃W:List T,W.Perm (S++R)/\Srt W/\
  ∀(s0:XS),s0.r=[(0,.tsl true 0 3 N),(1,.d (.int .i64 a)),(2,.d (.int .i64 b)),(3,.fn 6 []),(8,.d (.int .i64 (a+S.length:Nat)))]->s0.B=[some (kc (A++S++R++Z))]->
  qbq XV [46,50] 1 [0,1,2,3,8] qj7 s0=some (.exit 0,⟨[(0,.tsl true 0 3 N),(1,.d (.int .i64 a)),(2,.d (.int .i64 b)),(3,.fn 6 []),(8,.d (.int .i64 b)),(14,.d (.bool false))],[some (kc (A++W++Z))]⟩):=by
 have head:∀(y:Int) (c:List AV) (s0:XS),s0.r=[(0,.tsl true 0 3 N),(1,.d (.int .i64 a)),(2,.d (.int .i64 b)),(3,.fn 6 []),(8,.d (.int .i64 y))]->s0.B=[some c]->qad 1 [0,1,2,3,8] s0=some ⟨[(0,.tsl true 0 3 N),(1,.d (.int .i64 a)),(2,.d (.int .i64 b)),(3,.fn 6 []),(8,.d (.int .i64 y))],[some c]⟩:=fun y c s0 h1 h2=>by
  obtain⟨r,B⟩:=s0;simp only at h1 h2;subst h1;subst h2
  simp[qad,qab,qba,qdz,qbh]
 intro R
 induction R with
 |nil=>
  intro S hS hb hN hin hs;refine⟨S,by simp,hs,fun s0 h1 h2=> ?_⟩;have hb':b=a+S.length:=by simpa using hb
  rw[<-hb']at h1;rw[List.append_nil]at h2;refine qa3 (head _ _ s0 h1 h2) ?_ (by simp);simp[qj7,qoB]
 |cons x R ih=>
  intro S hS hb hN hin hs;obtain⟨S1,S2,e1,e2,e3,e4⟩:=que N a hn b (a+S.length:Nat) x S.length A S (R++Z) rfl hA (by rw[<-hN];simp) (fun t ht=>hin t (by
   simp only[List.mem_append,List.mem_cons]at ht⊢
   rcases ht with(h|h)|h|h|h<;>simp[h]))
  have hW:Srt (S1++x::S2):=qxa (by rw[<-e1];exact hs) e2 e3;have hlen:(S1++x::S2).length=S.length+1:=by rw[e1];simp;omega
  have hperm:(S1++x::S2).Perm (S++[x]):=by
   rw[e1];exact(List.perm_middle).trans (by
    have:=List.perm_append_comm (l₁:=[x]) (l₂:=S1++S2);simpa using this)
  have hl0:(A++(S1++x::S2)++R++Z).length=N:=by rw[<-hN,e1];simp;omega
  obtain⟨W,w1,w2,w3⟩:=ih (S1++x::S2) (by rw[hlen];omega) (by rw[hlen,hb];simp;omega) hl0 (fun t ht=>hin t (by
   rw[e1];simp only[List.mem_append,List.mem_cons]at ht⊢
   rcases ht with((h|h|h|h)|h)|h<;>simp[h])) hW
  refine⟨W,w1.trans ((hperm.append_right R).trans (by simp)),w2,fun s0 h1 h2=> ?_⟩;have hNl:A.length+S.length+(R.length+1)+Z.length=N:=by rw[<-hN];simp;omega
  have hbl:((a+S.length:Nat):Int)<(b:Int):=by
   simp only[List.length_cons]at hb;omega
  obtain⟨w,hlo⟩:=e4 ⟨[(0,.tsl true 0 3 N),(1,.d (.int .i64 a)),(2,.d (.int .i64 b)),(3,.fn 6 []),(8,.d (.int .i64 (a+S.length:Nat))),(9,.d (.int .i64 (a+S.length:Nat)))],[some (kc (A++S++x::(R++Z)))]⟩ rfl rfl;have hc0:A++S++x::R++Z=A++S++x::(R++Z):=by simp
  rw[hc0]at h2;have hw:=qai (n:=a+S.length) (by omega);have hnext:=w3 ⟨[(0,.tsl true 0 3 N),(1,.d (.int .i64 a)),(2,.d (.int .i64 b)),(3,.fn 6 []),(8,.d (.int .i64 (a+(S1++x::S2).length:Nat)))],[some (kc (A++(S1++x::S2)++R++Z))]⟩ rfl rfl;rw[<-hnext];refine qbO (head _ _ s0 h1 h2) ?_;have hc1:A++(S1++x::S2)++R++Z=A++S1++x::(S2++(R++Z)):=by simp
  rw[hc1,hlen,show a+(S.length+1)=a+S.length+1 by omega];generalize kc (A++S1++x::(S2++(R++Z)))=c2 at hlo⊢
  generalize kc (A++S++x::(R++Z))=c1 at hlo⊢
  generalize ((a+S.length+1:Nat):Int)=J at*
  generalize ((a+S.length:Nat):Int)=I at*
  simp[qj7,qoB,qBq,qBp,hbl];rw[hlo];simp[hw]
theorem qhY(A X Z:List T)(a b N:Nat)(ha:a=A.length)(hb:b=A.length+X.length)(hN:N=(A++X++Z).length)(hn:N<=1099511627776)(hin:∀t,t∈A++X++Z->t.inner<=1099511627776):
 ∃W:List T,W.Perm X/\Srt W/\qac XV 172 [.tsl true 0 3 N,.d (.int .i64 a),.d (.int .i64 b),.fn 6 []] [some (kc (A++X++Z))]=some (.d (.tup []),[some (kc (A++W++Z))]):=by
 have hNl:A.length+X.length+Z.length=N:=by rw[hN];simp;omega
 have hw:=qai (n:=a) (by omega);cases X with
 |nil=>
  refine⟨[],List.Perm.refl _,List.Pairwise.nil,?_⟩;rw[qah XV _ _ _ qEW rfl qky rfl];have hb':b=a:=by simp at hb;omega
  subst hb';have hlo:qbq XV [46,50] 1 [0,1,2,3,8] qj7 ⟨[(0,.tsl true 0 3 N),(1,.d (.int .i64 b)),(2,.d (.int .i64 b)),(3,.fn 6 []),(8,.d (.int .i64 (b+1:Nat)))],[some (kc (A++[]++Z))]⟩=some (.exit 0,⟨[(0,.tsl true 0 3 N),(1,.d (.int .i64 b)),(2,.d (.int .i64 b)),(3,.fn 6 []),(8,.d (.int .i64 (b+1:Nat))),(14,.d (.bool false))],[some (kc (A++[]++Z))]⟩):=by
   refine qa3 (s0:=⟨[(0,.tsl true 0 3 N),(1,.d (.int .i64 b)),(2,.d (.int .i64 b)),(3,.fn 6 []),(8,.d (.int .i64 (b+1:Nat)))],[some (kc (A++[]++Z))]⟩) (by simp[qad,qab,qba,qdz,qbh]) ?_ (by simp);have hnl:¬(((b+1:Nat):Int)<(b:Int)):=by omega
   generalize ((b+1:Nat):Int)=J at*
   simp[qj7,qoB,hnl]
  generalize kc (A++[]++Z)=c1 at hlo⊢
  generalize ((b+1:Nat):Int)=J at*
  simp[qEW,qrv,hw];rw[hlo];simp
 |cons x R=>
  obtain⟨W,w1,w2,w3⟩:=qr5 N a b hn A Z ha.symm R [x] (by simp) (by rw[hb,ha];simp;omega) (by rw[hN];simp) (fun t ht=>hin t (by
   simp only[List.mem_append,List.mem_cons,List.not_mem_nil,or_false]at ht⊢
   rcases ht with((h|h)|h)|h<;>simp[h])) (List.pairwise_singleton _ _)
  refine⟨W,by simpa using w1,w2,?_⟩;rw[qah XV _ _ _ qEW rfl qky rfl];have hlo:=w3 ⟨[(0,.tsl true 0 3 N),(1,.d (.int .i64 a)),(2,.d (.int .i64 b)),(3,.fn 6 []),(8,.d (.int .i64 (a+1:Nat)))],[some (kc (A++[x]++R++Z))]⟩ rfl rfl;have hc:A++x::R++Z=A++[x]++R++Z:=by simp
  rw[hc];generalize kc (A++[x]++R++Z)=c1 at hlo⊢
  generalize kc (A++W++Z)=c2 at hlo⊢
  generalize ((a+1:Nat):Int)=J at*
  simp[qEW,qrv,hw];rw[hlo];simp
theorem qOJ(x y z:AV):AV.clrs [x,y,z]=[x.clr,y.clr,z.clr]:=by simp only[AV.clrs]
theorem qE4(l:List T)(k:Nat)(hn:l.length<=1099511627776)(hl:k+1<l.length)(x10:Int):
 qay XV [70,74,122,126] (.region true 0 [0,10,13] qpK) ⟨[(0,.tsl true 0 3 l.length),(10,.d (.int .i64 x10)),(13,.d (.int .i64 k)),(58,.d (.bool true))],[some (kc l)]⟩=some (.normal,⟨[(0,.tsl true 0 3 l.length),(10,.d (.int .i64 x10)),(13,.d (.int .i64 k))],[some (kc (swp l (k+1) k))]⟩):=by
 have hw:=qai (n:=k) (by omega);obtain⟨c1,c2,c3,l1,l2,l3,f1,f2,f3,f4,f5,f6⟩:=qgR l (k+1) k hl (by omega) (by omega);have l0:=qhX l;generalize kc (swp l (k+1) k)=c4 at f6⊢
 generalize kc l=c0 at f1 f2 l0⊢
 generalize hn':l.length=n at*
 have hj0:(0:Int)<=((k+1:Nat):Int)/\((k+1:Nat):Int)<n:=⟨by omega,by omega⟩;have hjn:((k+1:Nat):Int).toNat=k+1:=rfl;have hi0:(k:Int)<n:=by omega
 have le0:k*3+3<=n*3:=by omega
 have le1:(k+1)*3+3<=n*3:=by omega
 generalize ((k+1:Nat):Int)=J at hw hj0 hjn⊢
 simp only[qj0,qqa,qaa]at f1 f2 f3 f4 f5 f6;simp[qKB,hw,hj0,hjn,hi0,l0,l1,l2,l3,f1,f2,f3,f4,f5,f6,le0,le1,qOJ,qag,qae,qaf,qaB]
theorem qE3(l:List T)(k:Nat)(hn:l.length<=1099511627776)(hl:k+1<l.length)(x14:Int):
 qay XV [70,74,122,126] (.region true 0 [0,14,17] qpG) ⟨[(0,.tsl true 0 3 l.length),(14,.d (.int .i64 x14)),(17,.d (.int .i64 ((k+1:Nat):Int))),(110,.d (.bool true))],[some (kc l)]⟩=some (.normal,⟨[(0,.tsl true 0 3 l.length),(14,.d (.int .i64 x14)),(17,.d (.int .i64 ((k+1:Nat):Int)))],[some (kc (swp l k (k+1)))]⟩):=by
 have hw:IntKind.i64.wrap (((k+1:Nat):Int)-1)=(k:Int):=by rw[show((k+1:Nat):Int)-1=(k:Int)by omega];exact wrap_i64 (by omega) (by omega)
 obtain⟨c1,c2,c3,l1,l2,l3,f1,f2,f3,f4,f5,f6⟩:=qgR l k (k+1) (by omega) hl (by omega);have l0:=qhX l;generalize kc (swp l k (k+1))=c4 at f6⊢
 generalize kc l=c0 at f1 f2 l0⊢
 generalize hn':l.length=n at*
 have hj0:(0:Int)<=((k+1:Nat):Int)/\((k+1:Nat):Int)<n:=⟨by omega,by omega⟩;have hjn:((k+1:Nat):Int).toNat=k+1:=rfl;have hi0:(k:Int)<n:=by omega
 have le0:k*3+3<=n*3:=by omega
 have le1:(k+1)*3+3<=n*3:=by omega
 generalize ((k+1:Nat):Int)=J at hw hj0 hjn⊢
 simp only[qj0,qqa,qaa]at f1 f2 f3 f4 f5 f6;simp[qKA,hw,hj0,hjn,hi0,l0,l1,l2,l3,f1,f2,f3,f4,f5,f6,le0,le1,qOJ,qag,qae,qaf,qaB]
theorem qGu(l:List T)(a h:Nat)(hn:l.length<=1099511627776)(ha:a<l.length)(hh:h<l.length)(hb:∀t,t∈l->t.inner<=1099511627776)(x10 x11:Int):
 qay XV [70,74,122,126] (.region true 0 [0,1,4,10,11,12,50] qvu) ⟨[(0,.tsl true 0 3 l.length),(1,.d (.int .i64 a)),(4,.fn 6 []),(10,.d (.int .i64 x10)),(11,.d (.int .i64 x11)),(12,.d (.int .i64 h))],[some (kc l)]⟩=some (.normal,⟨[(0,.tsl true 0 3 l.length),(1,.d (.int .i64 a)),(4,.fn 6 []),(10,.d (.int .i64 x10)),(11,.d (.int .i64 x11)),(12,.d (.int .i64 h)),(50,.d (.bool (decide (T.cmp (tAt l h) (tAt l a)<0))))],[some (kc l)]⟩):=by
 have hc:=qfZ (some (kc l)) (tAt l h) (tAt l a) (hb _ (qav hh)) (hb _ (qav ha));have f1:=qr1 l h hh;have f2:=qr1 l a ha;have l0:=qhX l;generalize T.cmp (tAt l h) (tAt l a)=r at hc⊢
 generalize kc l=c0 at f1 f2 l0 hc⊢
 generalize hn':l.length=n at*
 have hi0:(h:Int)<n:=by omega
 have hj0:(a:Int)<n:=by omega
 have le0:h*3+3<=n*3:=by omega
 have le1:a*3+3<=n*3:=by omega
 obtain⟨fa,va,ka⟩:=tAt l h;obtain⟨fb,vb,kb⟩:=tAt l a;simp only[qj0,qaa,T.qaW,T.qdR,T.qaQ]at f1 f2;simp[qPc,hi0,hj0,ha,hh,l0,f1,f2,le0,le1,hc,qag,qae,qaf,qaB,qi2]
theorem qDr(l:List T)(m h:Nat)(hn:l.length<=1099511627776)(hm:m<l.length)(hh:h<l.length)(hb:∀t,t∈l->t.inner<=1099511627776)(x14 x15:Int):
 qay XV [70,74,122,126] (.region true 0 [0,2,4,14,15,16,103] qpH) ⟨[(0,.tsl true 0 3 l.length),(2,.d (.int .i64 m)),(4,.fn 6 []),(14,.d (.int .i64 x14)),(15,.d (.int .i64 x15)),(16,.d (.int .i64 h))],[some (kc l)]⟩=some (.normal,⟨[(0,.tsl true 0 3 l.length),(2,.d (.int .i64 m)),(4,.fn 6 []),(14,.d (.int .i64 x14)),(15,.d (.int .i64 x15)),(16,.d (.int .i64 h)),(103,.d (.bool (!decide (T.cmp (tAt l m) (tAt l h)<0))))],[some (kc l)]⟩):=by
 have hc:=qfZ (some (kc l)) (tAt l m) (tAt l h) (hb _ (qav hm)) (hb _ (qav hh));have f1:=qr1 l h hh;have f2:=qr1 l m hm;have l0:=qhX l;generalize T.cmp (tAt l m) (tAt l h)=r at hc⊢
 generalize kc l=c0 at f1 f2 l0 hc⊢
 generalize hn':l.length=n at*
 have hi0:(h:Int)<n:=by omega
 have hj0:(m:Int)<n:=by omega
 have le0:h*3+3<=n*3:=by omega
 have le1:m*3+3<=n*3:=by omega
 obtain⟨fa,va,ka⟩:=tAt l h;obtain⟨fb,vb,kb⟩:=tAt l m;simp only[qj0,qaa,T.qaW,T.qdR,T.qaQ]at f1 f2
 by_cases hr:r<0
 ·simp[qDh,hi0,hj0,hm,hh,l0,f1,f2,le0,le1,hc,hr,qag,qae,qaf,qaB,qi2]
 ·simp[qDh,hi0,hj0,hm,hh,l0,f1,f2,le0,le1,hc,hr,qag,qae,qaf,qaB,qi2]
theorem qDq(l:List T)(p c:Nat)(hn:l.length<=1099511627776)(hcp:c<=p)(hp:p-c<l.length)(hh:c<l.length)(hpp:p<=4398046511104)(hb:∀t,t∈l->t.inner<=1099511627776)(x1 x2 x3 x18 x19 x20 x21:Int):
 qay XV [70,74,122,126] (.region true 0 [0,1,2,3,4,18,19,20,21,22,23,171] qpE) ⟨[(0,.tsl true 0 3 l.length),(1,.d (.int .i64 x1)),(2,.d (.int .i64 x2)),(3,.d (.int .i64 x3)),(4,.fn 6 []),(18,.d (.int .i64 x18)),(19,.d (.int .i64 x19)),(20,.d (.int .i64 x20)),(21,.d (.int .i64 x21)),(22,.d (.int .i64 p)),(23,.d (.int .i64 c))],[some (kc l)]⟩=some (.normal,⟨[(0,.tsl true 0 3 l.length),(1,.d (.int .i64 x1)),(2,.d (.int .i64 x2)),(3,.d (.int .i64 x3)),(4,.fn 6 []),(18,.d (.int .i64 x18)),(19,.d (.int .i64 x19)),(20,.d (.int .i64 x20)),(21,.d (.int .i64 x21)),(22,.d (.int .i64 p)),(23,.d (.int .i64 c)),(171,.d (.bool (!decide (T.cmp (tAt l (p-c)) (tAt l c)<0))))],[some (kc l)]⟩):=by
 have hw:IntKind.i64.wrap ((p:Int)-c)=((p-c:Nat):Int):=by rw[wrap_i64 (by omega) (by omega)];omega
 have hc:=qfZ (some (kc l)) (tAt l (p-c)) (tAt l c) (hb _ (qav hp)) (hb _ (qav hh));have f1:=qr1 l c hh;have f2:=qr1 l (p-c) hp;have l0:=qhX l;generalize T.cmp (tAt l (p-c)) (tAt l c)=r at hc⊢
 generalize kc l=c0 at f1 f2 l0 hc⊢
 generalize hn':l.length=n at*
 generalize hq:p-c=q at*
 have hi0:(c:Int)<n:=by omega
 have hj0:(q:Int)<n:=by omega
 have le0:c*3+3<=n*3:=by omega
 have le1:q*3+3<=n*3:=by omega
 obtain⟨fa,va,ka⟩:=tAt l c;obtain⟨fb,vb,kb⟩:=tAt l q;simp only[qj0,qaa,T.qaW,T.qdR,T.qaQ]at f1 f2
 by_cases hr:r<0
 ·simp[qDg,hw,hi0,hj0,hp,hh,l0,f1,f2,le0,le1,hc,hr,qag,qae,qaf,qaB,qi2]
 ·simp[qDg,hw,hi0,hj0,hp,hh,l0,f1,f2,le0,le1,hc,hr,qag,qae,qaf,qaB,qi2]
def bs(P:Nat->Bool):Nat->Nat->Nat->Nat
 |0,i,_=>i
 |k+1,i,j=>if i<j then(if P ((i+j)/2)=true then bs P k ((i+j)/2+1) j else bs P k i ((i+j)/2))else i
theorem qmw(P:Nat->Bool):∀(k i j:Nat),i<=j->j-i<=k->i<=bs P k i j/\bs P k i j<=j/\(bs P k i j=i\/P (bs P k i j-1)=true)/\(bs P k i j=j\/P (bs P k i j)=false)
 |0,i,j,h,hk=>by
  have e:bs P 0 i j=i:=rfl;rw[e];exact⟨Nat.le_refl _,h,.inl rfl,.inl (by omega)⟩
 |k+1,i,j,h,hk=>by
  simp only[bs]
  by_cases hij:i<j
  ·rw[if_pos hij]
   by_cases hP:P ((i+j)/2)=true
   ·rw[if_pos hP]
    obtain⟨h1,h2,h3,h4⟩:=qmw P k ((i+j)/2+1) j (by omega) (by omega);refine⟨by omega,h2,?_,h4⟩;rcases h3 with h3|h3
    ·right;rw[h3];simpa using hP
    ·exact .inr h3
   ·rw[if_neg hP]
    obtain⟨h1,h2,h3,h4⟩:=qmw P k i ((i+j)/2) (by omega) (by omega);refine⟨h1,by omega,h3,?_⟩;rcases h4 with h4|h4
    ·right;rw[h4];simpa using hP
    ·exact .inr h4
  ·rw[if_neg hij]
   exact⟨Nat.le_refl _,h,.inl rfl,.inl (by omega)⟩
theorem wrap_u64{n:Int}(h0:0<=n)(h1:n<=18446744073709551615):IntKind.u64.wrap n=n:=by
 simp[IntKind.wrap,IntKind.bits,IntKind.signed];omega
theorem qdr(x:Int):qe1 .shr .u64 x 1=some (.int .u64 (x.fdiv 2)):=rfl
theorem qF3(n:Nat):(n:Int).fdiv 2=((n/2:Nat):Int):=by
 rw[Int.fdiv_eq_ediv_of_nonneg _ (by omega)];omega
theorem qhV(i j:Nat)(h:i+j<=4398046511104):IntKind.i64.wrap ((i:Int)+j)=((i+j:Nat):Int)/\IntKind.u64.wrap ((i+j:Nat):Int)=((i+j:Nat):Int)/\((i+j:Nat):Int).fdiv 2=(((i+j)/2:Nat):Int)/\IntKind.i64.wrap (((i+j)/2:Nat):Int)=(((i+j)/2:Nat):Int):=
 ⟨by rw[wrap_i64 (by omega) (by omega)];omega,wrap_u64 (by omega) (by omega),qF3 _,wrap_i64 (by omega) (by omega)⟩
theorem qGI(l:List T)(a:Nat)(hn:l.length<=1099511627776)(ha:a<l.length)(hb:∀t,t∈l->t.inner<=1099511627776):∀(k i j:Nat),i<=j->j-i<=k->j<=l.length->
 qbq XV [70,74,122,126] 1 [0,1,4,10,11] qo5 ⟨[(0,.tsl true 0 3 l.length),(1,.d (.int .i64 a)),(4,.fn 6 []),(10,.d (.int .i64 i)),(11,.d (.int .i64 j))],[some (kc l)]⟩=
  some (.exit 0,⟨[(0,.tsl true 0 3 l.length),(1,.d (.int .i64 a)),(4,.fn 6 []),(10,.d (.int .i64 (bs (fun h=>decide (T.cmp (tAt l h) (tAt l a)<0)) k i j:Nat))),(11,.d (.int .i64 (bs (fun h=>decide (T.cmp (tAt l h) (tAt l a)<0)) k i j:Nat))),(33,.d (.bool false))],[some (kc l)]⟩):=by
 have head:∀(i j:Nat),qad 1 [0,1,4,10,11] ⟨[(0,.tsl true 0 3 l.length),(1,.d (.int .i64 a)),(4,.fn 6 []),(10,.d (.int .i64 i)),(11,.d (.int .i64 j))],[some (kc l)]⟩=some ⟨[(0,.tsl true 0 3 l.length),(1,.d (.int .i64 a)),(4,.fn 6 []),(10,.d (.int .i64 i)),(11,.d (.int .i64 j))],[some (kc l)]⟩:=fun i j=>by
  simp[qad,qab,qba,qdz,qbh]
 have stop:∀i:Nat,qbq XV [70,74,122,126] 1 [0,1,4,10,11] qo5 ⟨[(0,.tsl true 0 3 l.length),(1,.d (.int .i64 a)),(4,.fn 6 []),(10,.d (.int .i64 i)),(11,.d (.int .i64 i))],[some (kc l)]⟩=
  some (.exit 0,⟨[(0,.tsl true 0 3 l.length),(1,.d (.int .i64 a)),(4,.fn 6 []),(10,.d (.int .i64 i)),(11,.d (.int .i64 i)),(33,.d (.bool false))],[some (kc l)]⟩):=fun i=>by
  refine qa3 (head _ _) ?_ (by simp);simp[qo5,qvv]
 intro k
 induction k with
 |zero=>
  intro i j h hk hj;have:i=j:=by omega
  subst this;exact stop i
 |succ k ih=>
  intro i j h hk hj;simp only[bs]
  by_cases hij:i<j
  ·rw[if_pos hij]
   obtain⟨m1,m2,m3,m4⟩:=qhV i j (by omega);have hc:=qGu l a ((i+j)/2) hn ha (by omega) hb i j;have hw:=qai (n:=(i+j)/2) (by omega);have hij':(i:Int)<j:=by omega
   by_cases hP:T.cmp (tAt l ((i+j)/2)) (tAt l a)<0
   ·rw[if_pos (by simpa using hP)]
    rw[<-ih ((i+j)/2+1) j (by omega) (by omega) hj];refine qbO (head _ _) ?_;simp only[hP,decide_true]at hc;generalize kc l=c0 at hc⊢
    generalize (((i+j)/2+1:Nat):Int)=gv1 at*
    generalize (((i+j)/2:Nat):Int)=gv2 at*
    generalize ((i+j:Nat):Int)=gv3 at*
    generalize (i:Int)=gv4 at*
    generalize (j:Int)=gv5 at*
    simp[qo5,qvv,qBe,qBd,qBc,hij',m1,m2,m3,m4,qeh,qdr];rw[hc];simp[hw]
   ·rw[if_neg (by simpa using hP)]
    rw[<-ih i ((i+j)/2) (by omega) (by omega) (by omega)];refine qbO (head _ _) ?_;simp only[hP,decide_false]at hc;generalize kc l=c0 at hc⊢
    generalize (((i+j)/2+1:Nat):Int)=gv1 at*
    generalize (((i+j)/2:Nat):Int)=gv2 at*
    generalize ((i+j:Nat):Int)=gv3 at*
    generalize (i:Int)=gv4 at*
    generalize (j:Int)=gv5 at*
    simp[qo5,qvv,qBe,qBd,qBc,hij',m1,m2,m3,m4,qeh,qdr];rw[hc];simp
  ·rw[if_neg hij]
   have:i=j:=by omega
   subst this;exact stop i
theorem qGH(l:List T)(a:Nat)(hn:l.length<=1099511627776)(ha:a<l.length)(hb:∀t,t∈l->t.inner<=1099511627776):∀(k i j:Nat),i<=j->j-i<=k->j<=l.length->
 qbq XV [70,74,122,126] 1 [0,2,4,14,15] qo4 ⟨[(0,.tsl true 0 3 l.length),(2,.d (.int .i64 a)),(4,.fn 6 []),(14,.d (.int .i64 i)),(15,.d (.int .i64 j))],[some (kc l)]⟩=
  some (.exit 4,⟨[(0,.tsl true 0 3 l.length),(2,.d (.int .i64 a)),(4,.fn 6 []),(14,.d (.int .i64 (bs (fun h=> !decide (T.cmp (tAt l a) (tAt l h)<0)) k i j:Nat))),(15,.d (.int .i64 (bs (fun h=> !decide (T.cmp (tAt l a) (tAt l h)<0)) k i j:Nat))),(85,.d (.bool false))],[some (kc l)]⟩):=by
 have head:∀(i j:Nat),qad 1 [0,2,4,14,15] ⟨[(0,.tsl true 0 3 l.length),(2,.d (.int .i64 a)),(4,.fn 6 []),(14,.d (.int .i64 i)),(15,.d (.int .i64 j))],[some (kc l)]⟩=some ⟨[(0,.tsl true 0 3 l.length),(2,.d (.int .i64 a)),(4,.fn 6 []),(14,.d (.int .i64 i)),(15,.d (.int .i64 j))],[some (kc l)]⟩:=fun i j=>by
  simp[qad,qab,qba,qdz,qbh]
 have stop:∀i:Nat,qbq XV [70,74,122,126] 1 [0,2,4,14,15] qo4 ⟨[(0,.tsl true 0 3 l.length),(2,.d (.int .i64 a)),(4,.fn 6 []),(14,.d (.int .i64 i)),(15,.d (.int .i64 i))],[some (kc l)]⟩=
  some (.exit 4,⟨[(0,.tsl true 0 3 l.length),(2,.d (.int .i64 a)),(4,.fn 6 []),(14,.d (.int .i64 i)),(15,.d (.int .i64 i)),(85,.d (.bool false))],[some (kc l)]⟩):=fun i=>by
  refine qa3 (head _ _) ?_ (by simp);simp[qo4,qpI]
 intro k
 induction k with
 |zero=>
  intro i j h hk hj;have:i=j:=by omega
  subst this;exact stop i
 |succ k ih=>
  intro i j h hk hj;simp only[bs]
  by_cases hij:i<j
  ·rw[if_pos hij]
   obtain⟨m1,m2,m3,m4⟩:=qhV i j (by omega);have hc:=qDr l a ((i+j)/2) hn ha (by omega) hb i j;have hw:=qai (n:=(i+j)/2) (by omega);have hij':(i:Int)<j:=by omega
   by_cases hP:¬T.cmp (tAt l a) (tAt l ((i+j)/2))<0
   ·rw[if_pos (by simpa using hP)]
    rw[<-ih ((i+j)/2+1) j (by omega) (by omega) hj];refine qbO (head _ _) ?_;simp only[hP,decide_false,Bool.not_false]at hc;generalize kc l=c0 at hc⊢
    generalize (((i+j)/2+1:Nat):Int)=gv1 at*
    generalize (((i+j)/2:Nat):Int)=gv2 at*
    generalize ((i+j:Nat):Int)=gv3 at*
    generalize (i:Int)=gv4 at*
    generalize (j:Int)=gv5 at*
    simp[qo4,qpI,qtS,qtR,qtQ,hij',m1,m2,m3,m4,qeh,qdr];rw[hc];simp[hw]
   ·rw[if_neg (by simpa using hP)]
    rw[<-ih i ((i+j)/2) (by omega) (by omega) (by omega)];refine qbO (head _ _) ?_;simp only[Classical.not_not.1 hP,decide_true,Bool.not_true]at hc;generalize kc l=c0 at hc⊢
    generalize (((i+j)/2+1:Nat):Int)=gv1 at*
    generalize (((i+j)/2:Nat):Int)=gv2 at*
    generalize ((i+j:Nat):Int)=gv3 at*
    generalize (i:Int)=gv4 at*
    generalize (j:Int)=gv5 at*
    simp[qo4,qpI,qtS,qtR,qtQ,hij',m1,m2,m3,m4,qeh,qdr];rw[hc];simp
  ·rw[if_neg hij]
   have:i=j:=by omega
   subst this;exact stop i
theorem qGG(l:List T)(p:Nat)(x1 x2 x3 x18 x19:Int)(hn:l.length<=1099511627776)(hpp:p<=4398046511104)(hb:∀t,t∈l->t.inner<=1099511627776):∀(k i j:Nat),i<=j->j-i<=k->j<=l.length->(∀c,i<=c->c<j->c<=p/\p-c<l.length)->
 qbq XV [70,74,122,126] 1 [0,1,2,3,4,18,19,20,21,22] qik ⟨[(0,.tsl true 0 3 l.length),(1,.d (.int .i64 x1)),(2,.d (.int .i64 x2)),(3,.d (.int .i64 x3)),(4,.fn 6 []),(18,.d (.int .i64 x18)),(19,.d (.int .i64 x19)),(20,.d (.int .i64 i)),(21,.d (.int .i64 j)),(22,.d (.int .i64 p))],[some (kc l)]⟩=
  some (.exit 8,⟨[(0,.tsl true 0 3 l.length),(1,.d (.int .i64 x1)),(2,.d (.int .i64 x2)),(3,.d (.int .i64 x3)),(4,.fn 6 []),(18,.d (.int .i64 x18)),(19,.d (.int .i64 x19)),(20,.d (.int .i64 (bs (fun c=> !decide (T.cmp (tAt l (p-c)) (tAt l c)<0)) k i j:Nat))),(21,.d (.int .i64 (bs (fun c=> !decide (T.cmp (tAt l (p-c)) (tAt l c)<0)) k i j:Nat))),(22,.d (.int .i64 p)),(151,.d (.bool false))],[some (kc l)]⟩):=by
 have head:∀(i j:Nat),qad 1 [0,1,2,3,4,18,19,20,21,22] ⟨[(0,.tsl true 0 3 l.length),(1,.d (.int .i64 x1)),(2,.d (.int .i64 x2)),(3,.d (.int .i64 x3)),(4,.fn 6 []),(18,.d (.int .i64 x18)),(19,.d (.int .i64 x19)),(20,.d (.int .i64 i)),(21,.d (.int .i64 j)),(22,.d (.int .i64 p))],[some (kc l)]⟩=some ⟨[(0,.tsl true 0 3 l.length),(1,.d (.int .i64 x1)),(2,.d (.int .i64 x2)),(3,.d (.int .i64 x3)),(4,.fn 6 []),(18,.d (.int .i64 x18)),(19,.d (.int .i64 x19)),(20,.d (.int .i64 i)),(21,.d (.int .i64 j)),(22,.d (.int .i64 p))],[some (kc l)]⟩:=fun i j=>by
  simp[qad,qab,qba,qdz,qbh]
 have stop:∀i:Nat,qbq XV [70,74,122,126] 1 [0,1,2,3,4,18,19,20,21,22] qik ⟨[(0,.tsl true 0 3 l.length),(1,.d (.int .i64 x1)),(2,.d (.int .i64 x2)),(3,.d (.int .i64 x3)),(4,.fn 6 []),(18,.d (.int .i64 x18)),(19,.d (.int .i64 x19)),(20,.d (.int .i64 i)),(21,.d (.int .i64 i)),(22,.d (.int .i64 p))],[some (kc l)]⟩=
  some (.exit 8,⟨[(0,.tsl true 0 3 l.length),(1,.d (.int .i64 x1)),(2,.d (.int .i64 x2)),(3,.d (.int .i64 x3)),(4,.fn 6 []),(18,.d (.int .i64 x18)),(19,.d (.int .i64 x19)),(20,.d (.int .i64 i)),(21,.d (.int .i64 i)),(22,.d (.int .i64 p)),(151,.d (.bool false))],[some (kc l)]⟩):=fun i=>by
  refine qa3 (head _ _) ?_ (by simp);simp[qik,qpF]
 intro k
 induction k with
 |zero=>
  intro i j h hk hj hR;have:i=j:=by omega
  subst this;exact stop i
 |succ k ih=>
  intro i j h hk hj hR;simp only[bs]
  by_cases hij:i<j
  ·rw[if_pos hij]
   obtain⟨m1,m2,m3,m4⟩:=qhV i j (by omega);have hc:=qDq l p ((i+j)/2) hn (hR _ (by omega) (by omega)).1 (hR _ (by omega) (by omega)).2 (by omega) hpp hb x1 x2 x3 x18 x19 i j;have hw:=qai (n:=(i+j)/2) (by omega);have hij':(i:Int)<j:=by omega
   by_cases hP:¬T.cmp (tAt l (p-(i+j)/2)) (tAt l ((i+j)/2))<0
   ·rw[if_pos (by simpa using hP)]
    rw[<-ih ((i+j)/2+1) j (by omega) (by omega) hj (fun c h1 h2=>hR c (by omega) h2)];refine qbO (head _ _) ?_;simp only[hP,decide_false,Bool.not_false]at hc;generalize kc l=c0 at hc⊢
    generalize (((i+j)/2+1:Nat):Int)=gv1 at*
    generalize (((i+j)/2:Nat):Int)=gv2 at*
    generalize ((i+j:Nat):Int)=gv3 at*
    generalize (i:Int)=gv4 at*
    generalize (j:Int)=gv5 at*
    simp[qik,qpF,qtJ,qtI,qtH,hij',m1,m2,m3,m4,qeh,qdr];rw[hc];simp[hw]
   ·rw[if_neg (by simpa using hP)]
    rw[<-ih i ((i+j)/2) (by omega) (by omega) (by omega) (fun c h1 h2=>hR c h1 (by omega))];refine qbO (head _ _) ?_;simp only[Classical.not_not.1 hP,decide_true,Bool.not_true]at hc;generalize kc l=c0 at hc⊢
    generalize (((i+j)/2+1:Nat):Int)=gv1 at*
    generalize (((i+j)/2:Nat):Int)=gv2 at*
    generalize ((i+j:Nat):Int)=gv3 at*
    generalize (i:Int)=gv4 at*
    generalize (j:Int)=gv5 at*
    simp[qik,qpF,qtJ,qtI,qtH,hij',m1,m2,m3,m4,qeh,qdr];rw[hc];simp
  ·rw[if_neg hij]
   have:i=j:=by omega
   subst this;exact stop i
end Go.Proofs.YtbcbkiaineacpaaGreat.VS
