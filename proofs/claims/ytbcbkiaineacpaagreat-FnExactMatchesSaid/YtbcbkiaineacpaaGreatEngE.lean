/- The engine, part 4: a call of the program answers what an evaluator of values without memory answers, for the functions whose code is the one that the evaluator is given. -/
import Derived.Test.YtbcbkiaineacpaaGreatEngD
set_option linter.unusedSimpArgs false
set_option linter.unusedVariables false
namespace Go.Proofs.YtbcbkiaineacpaaGreat.VS
def U:Tag:= .own [] 0
mutual
def DV.clr:DV->DV
 | .sl _ xs=> .sl .sub (DV.clrs xs)
 | .agg cs=> .agg (DV.clrs cs)
 | .tup vs=> .tup (DV.clrs vs)
 | .int k n=> .int k n
 | .bool b=> .bool b
 | .str s=> .str s
def DV.clrs:List DV->List DV
 | []=>[]
 |v::r=>v.clr::DV.clrs r
end
mutual
def AV.clr:AV->AV
 | .d v=> .d v.clr
 | .ep cs=> .ep (DV.clrs cs)
 | .fn f cap=> .fn f (AV.clrs cap)
 | .ptr i o=> .ptr i o
 | .nilp=> .nilp
 | .bsl id a i sz n=> .bsl id a i sz n
 | .tsl a i sz n=> .tsl a i sz n
 | .ag t cs=> .ag t (AV.clrs cs)
 | .und=> .und
def AV.clrs:List AV->List AV
 | []=>[]
 |v::r=>v.clr::AV.clrs r
end
def DV.cn1:DV->DV
 | .sl .nil []=> .sl U []
 |v=>v.clr
def DV.cn:DV->DV
 | .agg cs=> .agg (cs.map DV.cn1)
 |v=>v.cn1
def isAgg:DV->Bool
 | .agg _=>true
 |_=>false
mutual
def DV.allU:DV->Bool
 | .sl _ []=>true
 | .sl g (x::xs)=>decide (g=U)&&DV.allUs (x::xs)
 | .agg cs=>DV.allUs cs
 | .tup _=>false
 | .int _ _=>true
 | .bool _=>true
 | .str _=>true
def DV.allUs:List DV->Bool
 | []=>true
 |v::r=>v.allU&&DV.allUs r
end
def DV.allUT:DV->Bool
 | .tup vs=>DV.allUs vs
 |v=>v.allU
structure XS where
 r:List (Nat×AV)
 B:qal
abbrev qaB:=Nat->List AV->qal->Option (AV×qal)
def qco(r:List (Nat×AV)):VX->Option AV
 | .t n=>lk r n
 | .c (.d v)=>some (.d v.cn)
 | .c v=>some v.clr
def qcJ(T:List Nat):Option Nat->Bool
 |some d=>T.contains d
 |none=>false
def qbI(T:List Nat)(s:XS)(dst:Option Nat)(v:AV):XS:=
 match dst with
 |some d=>⟨(d,if T.contains d then v else v.clr)::s.r,s.B⟩
 |none=>s
def qeV(T:List Nat)(r:List (Nat×AV)):VX->List (Nat×AV)
 | .t n=>if T.contains n then(match lk r n with|some v=>(n,v.clr)::r|none=>r)else r
 | .c _=>r
def qb2(T:List Nat)(r:List (Nat×AV)):List VX->List (Nat×AV)
 | []=>r
 |x::xs=>qb2 T (qeV T r x) xs
def qed(T:List Nat)(dst:Option Nat)(s:XS)(xs:List VX):XS:=
 if qcJ T dst then⟨qb2 T s.r xs,s.B⟩else s
def qfx(B:qal)(i off sz:Nat):qal:=
 match qcu B i with
 |some cs=>B.set i (some (splice cs off (AV.clrs ((cs.drop off).take sz))))
 |none=>B
def qdm(B:qal)(sz i off:Nat)(v:AV):Option qal:=
 (qcu B i).bind fun cs=>
  if v.cells.length=sz/\off+sz<=cs.length/\v.cells.all AV.isCell/\v.safe i then some (B.set i (some (splice cs off v.cells)))else none
def qfR(r:List (Nat×AV)):List VX->Option (List AV)
 | []=>some []
 |x::xs=>(qco r x).bind fun v=>(qfR r xs).map (v::·)
def qcr(LP:List Nat):Nat->List AV->List AV
 |_,[]=>[]
 |j,v::r=>(if LP.contains j then v else v.clr)::qcr LP (j+1) r
def qbh(LP:List Nat):Nat->List VX->List VX
 |_,[]=>[]
 |j,x::r=>if LP.contains j then x::qbh LP (j+1) r else qbh LP (j+1) r
def qa7(sz bytes:Nat)(x y:DV):Option DV:=
 match x,y with
 | .sl g xs,.sl _ ys=>
  if ys.all (fun e=>e.cells.length=sz/\e.cells.all DV.isCell)then
   if ys.isEmpty then some (.sl g xs)
   else if(xs.length+ys.length)*bytes<=140737488355328/\g=U/\xs.all (fun e=>e.cells.length=sz)then some (.sl U (xs++ys))
   else none
  else none
 |_,_=>none
def VX.linT(T:List Nat):VX->List Nat
 | .t n=>if T.contains n then [n]else []
 | .c _=>[]
def qat(T:List Nat):List VX->Bool
 | []=>true
 |x::xs=>(x.linT T).all (fun n=> !(xs.any fun y=>(y.linT T).contains n))&&qat T xs
def VOper.linOK(T:List Nat)(o:VOper):Bool:=
 match o.op with
 | .build _ ps=>qat T (ps.map fun q=>q.2.2)
 | .buildSlice _ _ _ ps=>qat T (ps.map fun q=>q.2)
 | .append _ _ x y=>qat T [x,y]
 |_=>true
def VRes.vx:VRes->List VX
 | .tmp t=>[.t t]
 | .cell _ _ _=>[]
def VCode.linOK(T:List Nat):VCode->Bool
 | .seq a b=>a.linOK T&&b.linOK T
 | .region _ _ _ ops=>ops.all (VOper.linOK T)
 | .cond _ a b=>a.linOK T&&b.linOK T
 | .block _ c=>c.linOK T
 | .loop _ c=>c.linOK T
 | .regionF _ _ _ fs=>fs.all fun f=>f.pre.all (VOper.linOK T)
 |_=>true
def VFn.linOK(T:List Nat)(f:VFn):Bool:=f.code.linOK T&&qat T (f.results.flatMap VRes.vx)
def qeW(T:List Nat)(thaw:Bool)(s:XS)(dst:Option Nat)(v:DV):Option XS:=
 if v.allUT then some (if thaw then qbI T ⟨s.r,s.B++(v.clr.thaw s.B.length).2⟩ dst (v.clr.thaw s.B.length).1 else qbI T s dst (.d v))else none
def qex(T:List Nat)(dst:Option Nat)(sz:Nat)(arr:Option Nat)(x i:VX)(s:XS):Option XS:=
 match qcJ T dst,x,arr with
 |true,.t n,none=>
  match qco s.r x,qco s.r i with
  |some (.d (.sl g xs)),some (.d (.int _ k))=>
   if 0<=k then(xs[k.toNat]?).bind fun e=>
    if e.cells.length=sz/\sz≠0 then some (qbI T (if T.contains n then⟨(n,.d (.sl g (xs.set k.toNat e.clr)))::s.r,s.B⟩else s) dst (.ep e.cells))else none
   else none
  |_,_=>none
 |_,_,_=>(evP s.r (.indexAddr sz arr x i)).map fun v=>qbI T s dst v.clr
def xOp(call:qaB)(lin:Nat->List Nat)(T:List Nat)(draw:Bool)(L0:Nat)(o:VOper)(s:XS):Option XS:=
 match o.op with
 | .move x=>(qco s.r x).map fun v=>qbI T (qed T o.dst s [x]) o.dst v
 | .pick c a b=>
  match qco s.r c with
  |some (.d (.bool true))=>(qco s.r a).map fun v=>qbI T (qed T o.dst s [a]) o.dst v
  |some (.d (.bool false))=>(qco s.r b).map fun v=>qbI T (qed T o.dst s [b]) o.dst v
  |_=>none
 | .alloc k zero=>
  if qcB s.B (L0+k)/\zero.all DV.isCell then some (qbI T ⟨s.r,s.B.set (L0+k) (some (zero.map fun z=> .d z.cn1))⟩ o.dst (.ptr (L0+k) 0))else none
 | .allocE zero=>
  if draw=false/\zero.all DV.isCell then some (qbI T ⟨s.r,s.B++[some (zero.map fun z=>AV.d z.cn1)]⟩ o.dst (.ptr s.B.length 0))else none
 | .box k x=>
  (qco s.r x).bind fun v=>
   if qcB s.B (L0+k)/\v.cells.all AV.isCell/\v.safe (L0+k)then
    some (qbI T ⟨qeV T s.r x,s.B.set (L0+k) (some v.cells)⟩ o.dst (.ptr (L0+k) 0))
   else none
 | .build zero parts=>(qaI (qco s.r) (zero.map DV.cn1) parts).map fun cs=>qbI T (qed T o.dst s (parts.map fun q=>q.2.2)) o.dst (.d (.agg cs))
 | .buildSlice sz zero len parts=>
  if zero.cells.length=sz/\zero.cells.all DV.isCell/\len*sz<=16777216/\len<=16777216 then
   (qaX (qco s.r) sz (List.replicate len zero.cn) parts).map fun xs=>qbI T (qed T o.dst s (parts.map fun q=>q.2)) o.dst (.d (.sl U xs))
  else none
 | .makeSlice k sz bytes zero x=>
  match qco s.r x with
  |some (.d (.int _ n))=>
   if draw=false/\qcB s.B (L0+k)/\0<=n/\n.toNat*bytes<=140737488355328/\n<9223372036854775808/\zero.cells.length=sz/\zero.cells.all DV.isCell then
    some (qbI T ⟨s.r,s.B.set (L0+k) (some (((List.replicate n.toNat zero.cn).flatMap DV.cells).map .d))⟩ o.dst
     (.bsl [] (isAgg zero) (L0+k) sz n.toNat))
   else none
  |_=>none
 | .load agg sz a=>
  match qco s.r a with
  |some (.ep cs)=>(cut agg sz cs).map fun v=>qbI T (qed T o.dst s [a]) o.dst (.d v)
  |some (.ptr b off)=>if draw/\L0<=b then none else(qak s.B agg sz b off).map fun v=>qbI T (if qcJ T o.dst then⟨s.r,qfx s.B b off (if agg then sz else 1)⟩else s) o.dst v
  |_=>none
 | .store init sz a x=>
  match qco s.r a,qco s.r x with
  |some (.ptr b off),some v=>
   if qbJ draw init L0 b then none else(qdm s.B sz b off v).map fun B=>qbI T ⟨qeV T s.r x,B⟩ o.dst .und
  |_,_=>none
 | .storeN sz a x av=>
  match qco s.r a,qco s.r x with
  |some (.ptr b off),some v=>
   if qbJ draw false L0 b|| !qcP s.r b av then none else(qdm s.B sz b off v).map fun B=>qbI T ⟨qeV T s.r x,B⟩ o.dst .und
  |_,_=>none
 | .append sz bytes x y=>
  match qco s.r x,qco s.r y with
  |some (.d v),some (.d w)=>(qa7 sz bytes v w).map fun u=>qbI T ⟨qb2 T s.r (if qcJ T o.dst then [x,y]else [x]),s.B⟩ o.dst (.d u)
  |_,_=>none
 | .call iso f args=>
  match qco s.r f,qfR s.r args with
  |some (.fn k caps),some vs=>
   if iso then
    match qaG vs,caps with
    |some _,[]=>
     match call k (qcr [] 0 vs) []with
     |some (.d v,_)=>some (qbI T s o.dst (.d v))
     |_=>none
    |_,_=>none
   else
    if qat T (qbh (lin k) 0 args)then
     match call k (qcr (lin k) 0 vs++caps) s.B with
     |some (v,B)=>some (qbI T ⟨qb2 T s.r (qbh (lin k) 0 args),B⟩ o.dst v)
     |none=>none
    else none
  |_,_=>none
 | .callT thaw f args=>
  match qco s.r f,qfR s.r args with
  |some (.fn k []),some vs=>
   if draw=false\/thaw=false then
    (qiK (AV.frz s.B) vs).bind fun ds=>
     match call k (qcr [] 0 (ds.map .d)) []with
     |some (.d v,_)=>qeW T thaw s o.dst v
     |_=>none
   else none
  |_,_=>none
 | .extract x i=>
  match qco s.r x with
  |some (.ag true vs)=>(vs[i]?).map fun v=>qbI T s o.dst v.clr
  |some (.d (.tup vs))=>(vs[i]?).map fun v=>
   qbI T (match x with| .t n=>if qcJ T o.dst&&T.contains n then⟨(n,.d (.tup (vs.set i v.clr)))::s.r,s.B⟩else s| .c _=>s) o.dst (.d v)
  |_=>none
 | .indexAddr sz arr x i=>qex T o.dst sz arr x i s
 |op=>(evP s.r op).map fun v=>qbI T s o.dst v.clr
def qb9(call:qaB)(lin:Nat->List Nat)(T:List Nat)(draw:Bool)(L0:Nat):List VOper->XS->Option XS
 | [],s=>some s
 |o::os,s=>
  match qcI s.r o.guard with
  |some true=>(xOp call lin T draw L0 o s).bind (qb9 call lin T draw L0 os)
  |some false=>qb9 call lin T draw L0 os (qbI T s o.dst .und)
  |none=>none
def qad(L1:Nat)(live:List Nat)(s:XS):Option XS:=
 if qab L1 (keep s.r live)/\L1<=s.B.length then some ⟨keep s.r live,s.B.take L1⟩else none
def qdP(f:XS->Option (Ex×XS))(L1:Nat)(live:List Nat):Nat->XS->Option (Ex×XS)
 |0,_=>none
 |n+1,s=>
  (qad L1 live s).bind fun s0=>
   (f s0).bind fun r=>
    match r.1 with
    | .normal=>qdP f L1 live n r.2
    |_=>some r
def qd5(call:qaB)(lin:Nat->List Nat)(T:List Nat)(draw:Bool)(na:Nat)(live:List Nat)(ops:List VOper)(s:XS):Option XS:=
 if draw&& !qlI ops then none
 else(qb9 call lin T draw s.B.length ops ⟨s.r,s.B++List.replicate na none⟩).map fun s'=>⟨keep s'.r live,s'.B⟩
def qcp(xs:List DV)(l h:Nat):List DV:=(xs.take h).take l++DV.clrs ((xs.take h).drop l)++xs.drop h
def qx4(T:List Nat):FOper->XS->Option XS
 | .one _,s=>some s
 | .sl d1 a d2 _ d3 sz lo hi _ _ _,s=>
  match lk s.r a,qhO s.r lo,qhO s.r hi with
  |some (.d (.sl g xs)),some lo,some hi=>
   if(T.contains a=true/\T.contains d3=true/\d1≠a/\d2≠a/\d1≠d2)/\xs.all (fun e=>e.cells.length=sz)then
    (qbV xs.length hi).bind fun h=>(qbU h lo).map fun l=>qbI T ⟨(a,.d (.sl g (qcp xs l h)))::s.r,s.B⟩ (some d3) (.d (.sl .sub ((xs.take h).drop l)))
   else none
  |_,_,_=>none
 | .el d1 q d2 _ d3 sz d4 _ _ _ _,s=>
  match lk s.r q,lk s.r d2 with
  |some (.ptr b off),some (.d (.int _ k))=>
   if(T.contains d4=true/\d1≠q/\d2≠q/\d3≠q/\d1≠d2/\d3≠d2)/\0<=k/\sz≠0 then
    (qcu s.B b).bind fun cs=>
     match cs[off]? with
     |some (.d (.sl g xs))=>
      match xs[k.toNat]? with
      |some (.agg es)=>if es.length=sz then some (qbI T ⟨s.r,s.B.set b (some (cs.set off (.d (.sl g (xs.set k.toNat (DV.agg es).clr)))))⟩ (some d4) (.d (.agg es)))else none
      |_=>none
     |_=>none
   else none
  |_,_=>none
def xFs(call:qaB)(lin:Nat->List Nat)(T:List Nat)(draw:Bool)(L0:Nat):List FOper->XS->Option XS
 | [],s=>some s
 |f::fs,s=>(qb9 call lin T draw L0 f.pre s).bind fun s1=>(qx4 T f s1).bind (xFs call lin T draw L0 fs)
def qcM(call:qaB)(lin:Nat->List Nat)(T:List Nat)(draw:Bool)(na:Nat)(live:List Nat)(fs:List FOper)(s:XS):Option XS:=
 if draw&& !qlI (qhR fs)then none
 else(xFs call lin T draw s.B.length fs ⟨s.r,s.B++List.replicate na none⟩).map fun s'=>⟨keep s'.r live,s'.B⟩
def qbq(call:qaB)(lin:Nat->List Nat)(T:List Nat)(n:Nat):VCode->XS->Option (Ex×XS)
 | .skip,s=>some (.normal,s)
 | .ret,s=>some (.ret,s)
 | .exit id,s=>some (.exit id,s)
 | .seq a b,s=>
  (qbq call lin T n a s).bind fun r=>
   match r.1 with
   | .normal=>qbq call lin T n b r.2
   |_=>some r
 | .region draw na live ops,s=>(qd5 call lin T draw na live ops s).map fun s'=>(.normal,s')
 | .cond x a b,s=>
  match qco s.r x with
  |some (.d (.bool true))=>qbq call lin T n a s
  |some (.d (.bool false))=>qbq call lin T n b s
  |_=>none
 | .block id c,s=>
  (qbq call lin T n c s).map fun r=>if r.1= .exit id then(.normal,r.2)else r
 | .loop live c,s=>qdP (qbq call lin T n c) s.B.length live n s
 | .regionF draw na live fs,s=>(qcM call lin T draw na live fs s).map fun s'=>(.normal,s')
def qmp(s:XS):VRes->Option AV
 | .tmp t=>lk s.r t
 | .cell t agg sz=>
  match lk s.r t with
  |some (.ptr i off)=>(qak s.B agg sz i off).map AV.clr
  |_=>none
def qgJ(s:XS):List VRes->Option (List AV)
 | []=>some []
 |x::xs=>(qmp s x).bind fun v=>(qgJ s xs).map (v::·)
def qnM(L:Nat)(s:XS)(t:Nat)(agg:Bool)(sz:Nat):Option (AV×qal):=
 match lk s.r t with
 |some (.ptr i off)=>
  if L<=i then
   match qak s.B agg sz i off with
   |some (.d v)=>some (.d v,s.B.take L)
   |_=>none
  else none
 |_=>none
def qeU(L:Nat)(s:XS)(rs:List VRes):Option (AV×qal):=
 match qgJ s rs with
 |some [.d v]=>some (.d v,s.B.take L)
 |some [.ptr i off]=>some (.ptr i off,s.B)
 |some [.bsl _ agg i sz n]=>
  if L<=i/\n<9223372036854775808 then
   ((qcu s.B i).bind qaG).bind fun cs=>if cs.length=n*sz then(chunks agg sz n cs).map fun xs=>(.d (.sl U xs),s.B.take L)else none
  else none
 |some [_]=>none
 |some vs=>(qaG vs).map fun ds=>(.d (.tup ds),s.B.take L)
 |none=>none
def qA7(L:Nat)(s:XS)(t1:Nat)(g1:Bool)(z1 t2:Nat)(g2:Bool)(z2 t3:Nat):Option (AV×qal):=
 match lk s.r t1,lk s.r t2,lk s.r t3 with
 |some (.ptr i1 o1),some (.ptr i2 o2),some (.d (.bool b))=>
  if L<=i1/\L<=i2/\i1≠i2 then
   match qak s.B g1 z1 i1 o1,qak s.B g2 z2 i2 o2 with
   |some (.d v1),some (.d v2)=>some (.d (.tup [v1,v2,.bool b]),s.B.take L)
   |_,_=>none
  else none
 |_,_,_=>none
def qcY(L:Nat)(s:XS):List VRes->Option (AV×qal)
 | [.cell t agg sz]=>qnM L s t agg sz
 | [.cell t1 g1 z1,.cell t2 g2 z2,.tmp t3]=>qA7 L s t1 g1 z1 t2 g2 z2 t3
 |rs=>qeU L s rs
structure XEnv where
 env:Env
 lin:Nat->List Nat
 nat:Nat->Option (List DV->Option DV)
def qil(call:qaB)(sf:SFn)(x:DV)(xr:List DV):Option (List DV):=
 if DV.allUs (x::xr)=true then
  match call sf.srt [.tsl true 0 x.cells.length (xr.length+1),.fn sf.cmp []] [some (((x::xr).flatMap DV.cells).map .d)]with
  |some (_,[some cs])=>(qaG cs).bind fun es=>if es.length=(xr.length+1)*x.cells.length then chunks true x.cells.length (xr.length+1) es else none
  |_=>none
 else none
def qij(s:XS):Option (DV×DV):=
 match lk s.r 3,lk s.r 4,s.B with
 |some (.ptr 0 0),some (.ptr 1 0),[some [.d x0,.d x1,_],some [.d z0,.d z1,.d z2]]=>
  if x0.flat&&x1.flat&&z0.flat&&z1.flat&&z2.flat&&x0.isCell&&x1.isCell then some (x0.clr,x1.clr)else none
 |_,_,_=>none
def qjB(call:qaB)(lin:Nat->List Nat)(T:List Nat)(n:Nat)(sf:SFn)(ds:List DV):Option DV:=
 if ds.length≠sf.np then none else
  (qbq call lin T n sf.pre ⟨qao 0 (ds.map .d),[]⟩).bind fun r=>
   match r.1,lk r.2.r sf.cond,lk r.2.r sf.row with
   | .normal,some (.d (.bool true)),some (.d (.sl (.own [] 0) (x::xr)))=>
    (qij r.2).bind fun y=>(qil call sf x xr).map fun q=> .agg [y.1,y.2,.sl U q]
   | .normal,some (.d (.bool false)),_| .normal,some (.d (.bool true)),some (.d (.sl _ []))=>
    (qbq call lin T n sf.rest r.2).bind fun r2=>
     match r2.1 with
     | .exit _=>none
     |_=>(qcY 0 r2.2 sf.results).bind fun q=>match q.1 with
      | .d v=>some v
      |_=>none
   |_,_,_=>none
def qbe(X:XEnv):Nat->qaB
 |0,_,_,_=>none
 |n+1,f,args,B=>
  match X.nat f with
  |some g=>(qaG args).bind fun ds=>(g ds).map fun v=>(.d v,B)
  |none=>
   match X.env.code f with
   |none=>
    match X.env.spec f with
    |none=>none
    |some sf=>(qaG args).bind fun ds=>(qjB (qbe X n) X.lin (X.lin f) n sf ds).map fun v=>(.d v,B)
   |some vf=>
    if args.length≠vf.np then none else(qbq (qbe X n) X.lin (X.lin f) n vf.code ⟨qao 0 args,B⟩).bind fun r=>
     match r.1 with
     | .exit _=>none
     |_=>qcY B.length r.2 vf.results
def Tag.ids:Tag->List Id
 | .own a _=>[a]
 |_=>[]
def Tag.fit(g:Tag)(n:Nat)(g':Tag)(ys:List DV):Prop:=
 g= .sub\/(g=U/\((n=0/\(g'= .nil\/∃a sz,g'= .own a sz))\/(n≠0/\∃a sz,g'= .own a sz/\∀e:DV,e∈ys->e.cells.length=sz)))
mutual
def DV.fit:DV->DV->Prop
 | .sl g xs,v=>∃g' ys,v= .sl g' ys/\DV.fits xs ys/\g.fit xs.length g' ys
 | .agg cs,v=>∃ds,v= .agg ds/\DV.fits cs ds
 | .tup cs,v=>∃ds,v= .tup ds/\DV.fits cs ds
 | .int k n,v=>v= .int k n
 | .bool b,v=>v= .bool b
 | .str s,v=>v= .str s
def DV.fits:List DV->List DV->Prop
 | [],ys=>ys=[]
 |x::xs,ys=>∃v vs,ys=v::vs/\x.fit v/\DV.fits xs vs
end
mutual
def DV.own:DV->DV->List Id
 | .sl g xs,.sl g' ys=>(if g=U/\xs.length≠0 then g'.ids else [])++DV.owns xs ys
 | .agg cs,.agg ds=>DV.owns cs ds
 | .tup cs,.tup ds=>DV.owns cs ds
 |_,_=>[]
def DV.owns:List DV->List DV->List Id
 |x::xs,y::ys=>x.own y++DV.owns xs ys
 |_,_=>[]
end
def AV.own:AV->AV->List Id
 | .d x,.d v=>x.own v
 | .ep cs,.ep ds=>DV.owns cs ds
 |_,_=>[]
def AV.owns:List AV->List AV->List Id
 |x::xs,y::ys=>x.own y++AV.owns xs ys
 |_,_=>[]
mutual
def AV.fit:AV->AV->Prop
 | .d x,v=>∃y,v= .d y/\x.fit y
 | .ep cs,v=>∃ds,v= .ep ds/\DV.fits cs ds
 | .fn f cap,v=>∃cap',v= .fn f cap'/\AV.fits cap cap'/\AV.owns cap cap'=[]
 | .ptr i o,v=>v= .ptr i o
 | .nilp,v=>v= .nilp
 | .bsl _ a i sz n,v=>∃id,v= .bsl id a i sz n
 | .tsl a i sz n,v=>v= .tsl a i sz n
 | .ag t cs,v=>∃ds,v= .ag t ds/\AV.fits cs ds/\AV.owns cs ds=[]
 | .und,v=>v= .und
def AV.fits:List AV->List AV->Prop
 | [],ys=>ys=[]
 |x::xs,ys=>∃v vs,ys=v::vs/\x.fit v/\AV.fits xs vs
end
theorem Tag.qPL(n:Nat)(g':Tag)(ys:List DV):Tag.fit .sub n g' ys:= .inl rfl
mutual
theorem DV.qcg:∀(x v:DV),x.fit v->x.clr.fit v
 | .sl g xs,v,h=>by
  simp only[DV.fit,DV.clr]at h⊢
  obtain⟨g',ys,rfl,h1,h2⟩:=h;exact⟨g',ys,rfl,DV.qcm xs ys h1,.inl rfl⟩
 | .agg cs,v,h=>by
  simp only[DV.fit,DV.clr]at h⊢
  obtain⟨ds,rfl,h1⟩:=h;exact⟨ds,rfl,DV.qcm cs ds h1⟩
 | .tup cs,v,h=>by
  simp only[DV.fit,DV.clr]at h⊢
  obtain⟨ds,rfl,h1⟩:=h;exact⟨ds,rfl,DV.qcm cs ds h1⟩
 | .int k n,v,h=>by simpa only[DV.fit,DV.clr]using h
 | .bool b,v,h=>by simpa only[DV.fit,DV.clr]using h
 | .str s,v,h=>by simpa only[DV.fit,DV.clr]using h
theorem DV.qcm:∀(xs ys:List DV),DV.fits xs ys->DV.fits (DV.clrs xs) ys
 | [],ys,h=>by simpa only[DV.fits,DV.clrs]using h
 |x::xs,ys,h=>by
  simp only[DV.fits,DV.clrs]at h⊢
  obtain⟨v,vs,rfl,h1,h2⟩:=h;exact⟨v,vs,rfl,DV.qcg x v h1,DV.qcm xs vs h2⟩
end
mutual
theorem DV.qbH:∀(x v:DV),x.clr.own v=[]
 | .sl g xs,v=>by cases v<;>simp[DV.clr,DV.own,DV.qer xs,U]
 | .agg cs,v=>by cases v<;>simp[DV.clr,DV.own,DV.qer cs]
 | .tup cs,v=>by cases v<;>simp[DV.clr,DV.own,DV.qer cs]
 | .int k n,v=>by cases v<;>simp[DV.clr,DV.own]
 | .bool b,v=>by cases v<;>simp[DV.clr,DV.own]
 | .str s,v=>by cases v<;>simp[DV.clr,DV.own]
theorem DV.qer:∀(xs ys:List DV),DV.owns (DV.clrs xs) ys=[]
 | [],ys=>by simp[DV.clrs,DV.owns]
 |x::xs,ys=>by cases ys<;>simp[DV.clrs,DV.owns,DV.qbH x,DV.qer xs]
end
mutual
theorem DV.qbj:∀(x:DV),x.clr.fit x
 | .sl g xs=>by simp only[DV.clr,DV.fit];exact⟨_,_,rfl,DV.qcv xs,.inl rfl⟩
 | .agg cs=>by simp only[DV.clr,DV.fit];exact⟨_,rfl,DV.qcv cs⟩
 | .tup cs=>by simp only[DV.clr,DV.fit];exact⟨_,rfl,DV.qcv cs⟩
 | .int k n=>by simp[DV.clr,DV.fit]
 | .bool b=>by simp[DV.clr,DV.fit]
 | .str s=>by simp[DV.clr,DV.fit]
theorem DV.qcv:∀(xs:List DV),DV.fits (DV.clrs xs) xs
 | []=>by simp[DV.clrs,DV.fits]
 |x::xs=>by simp only[DV.clrs,DV.fits];exact⟨_,_,rfl,DV.qbj x,DV.qcv xs⟩
end
theorem DV.qaA:∀l:List DV,DV.clrs l=l.map DV.clr
 | []=>by simp[DV.clrs]
 |x::xs=>by simp[DV.clrs,DV.qaA xs]
theorem AV.qaA:∀l:List AV,AV.clrs l=l.map AV.clr
 | []=>by simp[AV.clrs]
 |x::xs=>by simp[AV.clrs,AV.qaA xs]
theorem DV.qbE:∀(xs ys:List DV),DV.fits xs ys↔xs.length=ys.length/\∀(i:Nat) (x y:DV),xs[i]?=some x->ys[i]?=some y->x.fit y
 | [],ys=>by
  simp only[DV.fits];constructor
  ·rintro rfl;simp
  ·rintro⟨h,_⟩;exact List.length_eq_zero_iff.1 h.symm
 |x::xs,ys=>by
  simp only[DV.fits];constructor
  ·rintro⟨v,vs,rfl,h1,h2⟩
   obtain⟨h3,h4⟩:=(DV.qbE xs vs).1 h2;refine⟨by simp[h3],fun i a b ha hb=> ?_⟩;cases i with
   |zero=>simp at ha hb;subst ha;subst hb;exact h1
   |succ i=>simp at ha hb;exact h4 i a b ha hb
  ·rintro⟨h1,h2⟩
   cases ys with
   |nil=>simp at h1
   |cons y ys=>exact⟨y,ys,rfl,h2 0 x y rfl rfl,(DV.qbE xs ys).2 ⟨by simpa using h1,fun i a b ha hb=>h2 (i+1) a b (by simpa using ha) (by simpa using hb)⟩⟩
theorem AV.qbE:∀(xs ys:List AV),AV.fits xs ys↔xs.length=ys.length/\∀(i:Nat) (x y:AV),xs[i]?=some x->ys[i]?=some y->x.fit y
 | [],ys=>by
  simp only[AV.fits];constructor
  ·rintro rfl;simp
  ·rintro⟨h,_⟩;exact List.length_eq_zero_iff.1 h.symm
 |x::xs,ys=>by
  simp only[AV.fits];constructor
  ·rintro⟨v,vs,rfl,h1,h2⟩
   obtain⟨h3,h4⟩:=(AV.qbE xs vs).1 h2;refine⟨by simp[h3],fun i a b ha hb=> ?_⟩;cases i with
   |zero=>simp at ha hb;subst ha;subst hb;exact h1
   |succ i=>simp at ha hb;exact h4 i a b ha hb
  ·rintro⟨h1,h2⟩
   cases ys with
   |nil=>simp at h1
   |cons y ys=>exact⟨y,ys,rfl,h2 0 x y rfl rfl,(AV.qbE xs ys).2 ⟨by simpa using h1,fun i a b ha hb=>h2 (i+1) a b (by simpa using ha) (by simpa using hb)⟩⟩
theorem DV.qan{xs ys:List DV}(h:DV.fits xs ys):xs.length=ys.length:=((DV.qbE xs ys).1 h).1
theorem AV.qan{xs ys:List AV}(h:AV.fits xs ys):xs.length=ys.length:=((AV.qbE xs ys).1 h).1
theorem DV.qcS{xs ys:List DV}(h:DV.fits xs ys){i:Nat}{x:DV}(hx:xs[i]?=some x):∃y,ys[i]?=some y/\x.fit y:=by
 obtain⟨h1,h2⟩:=(DV.qbE xs ys).1 h;have hlt:i<ys.length:=by rw[<-h1];exact(List.getElem?_eq_some_iff.1 hx).1
 exact⟨ys[i],by simp[hlt],h2 i x _ hx (by simp[hlt])⟩
theorem AV.qcS{xs ys:List AV}(h:AV.fits xs ys){i:Nat}{x:AV}(hx:xs[i]?=some x):∃y,ys[i]?=some y/\x.fit y:=by
 obtain⟨h1,h2⟩:=(AV.qbE xs ys).1 h;have hlt:i<ys.length:=by rw[<-h1];exact(List.getElem?_eq_some_iff.1 hx).1
 exact⟨ys[i],by simp[hlt],h2 i x _ hx (by simp[hlt])⟩
theorem DV.qaZ{a b c d:List DV}(h1:DV.fits a c)(h2:DV.fits b d):DV.fits (a++b) (c++d):=by
 induction a generalizing c with
 |nil=>simp only[DV.fits]at h1;subst h1;simpa using h2
 |cons x xs ih=>
  simp only[DV.fits]at h1;obtain⟨v,vs,rfl,h3,h4⟩:=h1;simp only[List.cons_append,DV.fits];exact⟨v,vs++d,rfl,h3,ih h4⟩
theorem AV.qaZ{a b c d:List AV}(h1:AV.fits a c)(h2:AV.fits b d):AV.fits (a++b) (c++d):=by
 induction a generalizing c with
 |nil=>simp only[AV.fits]at h1;subst h1;simpa using h2
 |cons x xs ih=>
  simp only[AV.fits]at h1;obtain⟨v,vs,rfl,h3,h4⟩:=h1;simp only[List.cons_append,AV.fits];exact⟨v,vs++d,rfl,h3,ih h4⟩
theorem DV.qbl{a c:List DV}(h:DV.fits a c)(n:Nat):DV.fits (a.take n) (c.take n):=by
 induction a generalizing c n with
 |nil=>simp only[DV.fits]at h;subst h;simp[DV.fits]
 |cons x xs ih=>
  simp only[DV.fits]at h;obtain⟨v,vs,rfl,h3,h4⟩:=h;cases n with
  |zero=>simp[DV.fits]
  |succ n=>simp only[List.take_succ_cons,DV.fits];exact⟨_,_,rfl,h3,ih h4 n⟩
theorem DV.qbs{a c:List DV}(h:DV.fits a c)(n:Nat):DV.fits (a.drop n) (c.drop n):=by
 induction a generalizing c n with
 |nil=>simp only[DV.fits]at h;subst h;simp[DV.fits]
 |cons x xs ih=>
  have h':=h;simp only[DV.fits]at h;obtain⟨v,vs,rfl,h3,h4⟩:=h;cases n with
  |zero=>simpa using h'
  |succ n=>simpa using ih h4 n
theorem AV.qbl{a c:List AV}(h:AV.fits a c)(n:Nat):AV.fits (a.take n) (c.take n):=by
 induction a generalizing c n with
 |nil=>simp only[AV.fits]at h;subst h;simp[AV.fits]
 |cons x xs ih=>
  simp only[AV.fits]at h;obtain⟨v,vs,rfl,h3,h4⟩:=h;cases n with
  |zero=>simp[AV.fits]
  |succ n=>simp only[List.take_succ_cons,AV.fits];exact⟨_,_,rfl,h3,ih h4 n⟩
theorem AV.qbs{a c:List AV}(h:AV.fits a c)(n:Nat):AV.fits (a.drop n) (c.drop n):=by
 induction a generalizing c n with
 |nil=>simp only[AV.fits]at h;subst h;simp[AV.fits]
 |cons x xs ih=>
  have h':=h;simp only[AV.fits]at h;obtain⟨v,vs,rfl,h3,h4⟩:=h;cases n with
  |zero=>simpa using h'
  |succ n=>simpa using ih h4 n
theorem DV.qaY{a b c d:List DV}(h:a.length=c.length):DV.owns (a++b) (c++d)=DV.owns a c++DV.owns b d:=by
 induction a generalizing c with
 |nil=>cases c with
  |nil=>simp[DV.owns]
  |cons _ _=>simp at h
 |cons x xs ih=>cases c with
  |nil=>simp at h
  |cons y ys=>simp[DV.owns,ih (c:=ys) (by simpa using h),yh_]
theorem AV.qaY{a b c d:List AV}(h:a.length=c.length):AV.owns (a++b) (c++d)=AV.owns a c++AV.owns b d:=by
 induction a generalizing c with
 |nil=>cases c with
  |nil=>simp[AV.owns]
  |cons _ _=>simp at h
 |cons x xs ih=>cases c with
  |nil=>simp at h
  |cons y ys=>simp[AV.owns,ih (c:=ys) (by simpa using h),yh_]
theorem DV.qb7{a c:List DV}(h:a.length=c.length)(n:Nat):DV.owns a c=DV.owns (a.take n) (c.take n)++DV.owns (a.drop n) (c.drop n):=by
 rw[<-DV.qaY (by simp[h]),List.take_append_drop,List.take_append_drop]
theorem AV.qb7{a c:List AV}(h:a.length=c.length)(n:Nat):AV.owns a c=AV.owns (a.take n) (c.take n)++AV.owns (a.drop n) (c.drop n):=by
 rw[<-AV.qaY (by simp[h]),List.take_append_drop,List.take_append_drop]
theorem DV.qce{xs ys:List DV}{i:Nat}{x y:DV}(hx:xs[i]?=some x)(hy:ys[i]?=some y):(x.own y).Sublist (DV.owns xs ys):=by
 induction xs generalizing ys i with
 |nil=>simp at hx
 |cons a as ih=>cases ys with
  |nil=>simp at hy
  |cons b bs=>cases i with
   |zero=>simp at hx hy;subst hx;subst hy;simp[DV.owns]
   |succ i=>simp at hx hy;simp only[DV.owns];exact(ih hx hy).trans (List.sublist_append_right _ _)
theorem AV.qce{xs ys:List AV}{i:Nat}{x y:AV}(hx:xs[i]?=some x)(hy:ys[i]?=some y):(x.own y).Sublist (AV.owns xs ys):=by
 induction xs generalizing ys i with
 |nil=>simp at hx
 |cons a as ih=>cases ys with
  |nil=>simp at hy
  |cons b bs=>cases i with
   |zero=>simp at hx hy;subst hx;subst hy;simp[AV.owns]
   |succ i=>simp at hx hy;simp only[AV.owns];exact(ih hx hy).trans (List.sublist_append_right _ _)
theorem DV.qbt{x v:DV}(h:x.fit v):DV.fits x.cells v.cells:=by
 cases x<;>simp only[DV.fit]at h
 case agg cs=>obtain⟨ds,rfl,h1⟩:=h;exact h1
 case sl g xs=>obtain⟨g',ys,rfl,h1,h2⟩:=h;simp only[DV.cells,DV.fits];exact⟨_,_,rfl,by simp only[DV.fit];exact⟨_,_,rfl,h1,h2⟩,rfl⟩
 case tup cs=>obtain⟨ds,rfl,h1⟩:=h;simp only[DV.cells,DV.fits];exact⟨_,_,rfl,by simp only[DV.fit];exact⟨_,rfl,h1⟩,rfl⟩
 all_goals subst h;simp[DV.cells,DV.fits,DV.fit]
theorem DV.qdB{x v:DV}(h:x.fit v):DV.owns x.cells v.cells=x.own v:=by
 cases x<;>simp only[DV.fit]at h
 case agg cs=>obtain⟨ds,rfl,h1⟩:=h;simp[DV.cells,DV.own]
 case sl g xs=>obtain⟨g',ys,rfl,h1,h2⟩:=h;simp[DV.cells,DV.owns]
 case tup cs=>obtain⟨ds,rfl,h1⟩:=h;simp[DV.cells,DV.owns]
 all_goals subst h;simp[DV.cells,DV.owns]
theorem DV.qd4{x v:DV}(h:x.fit v):v.isCell=x.isCell:=by
 cases x<;>simp only[DV.fit]at h
 case agg cs=>obtain⟨ds,rfl,h1⟩:=h;rfl
 case sl g xs=>obtain⟨g',ys,rfl,h1,h2⟩:=h;rfl
 case tup cs=>obtain⟨ds,rfl,h1⟩:=h;rfl
 all_goals subst h;rfl
theorem DV.qcf{xs vs:List DV}(h:DV.fits xs vs):vs.all DV.isCell=xs.all DV.isCell:=by
 induction xs generalizing vs with
 |nil=>simp only[DV.fits]at h;subst h;rfl
 |cons x xs ih=>simp only[DV.fits]at h;obtain⟨v,r,rfl,h1,h2⟩:=h;simp[DV.qd4 h1,ih h2]
theorem DV.qbK{x v:DV}(h:x.fit v):v.cells.length=x.cells.length:=(DV.qan (DV.qbt h)).symm
theorem AV.qd4{x v:AV}(h:x.fit v):v.isCell=x.isCell:=by
 cases x<;>simp only[AV.fit]at h
 case d x=>obtain⟨y,rfl,h1⟩:=h;exact DV.qd4 h1
 case ep=>obtain⟨_,rfl,_⟩:=h;rfl
 case fn=>obtain⟨_,rfl,_⟩:=h;rfl
 case bsl=>obtain⟨_,rfl⟩:=h;rfl
 case ag=>obtain⟨_,rfl,_⟩:=h;rfl
 all_goals subst h;rfl
theorem AV.qcf{xs vs:List AV}(h:AV.fits xs vs):vs.all AV.isCell=xs.all AV.isCell:=by
 induction xs generalizing vs with
 |nil=>simp only[AV.fits]at h;subst h;rfl
 |cons x xs ih=>simp only[AV.fits]at h;obtain⟨v,r,rfl,h1,h2⟩:=h;simp[AV.qd4 h1,ih h2]
theorem AV.qjA{xs vs:List DV}(h:DV.fits xs vs):AV.fits (xs.map .d) (vs.map .d):=by
 induction xs generalizing vs with
 |nil=>simp only[DV.fits]at h;subst h;simp[AV.fits]
 |cons x xs ih=>simp only[DV.fits]at h;obtain⟨v,r,rfl,h1,h2⟩:=h;simp only[List.map_cons,AV.fits];exact⟨_,_,rfl,by simp only[AV.fit];exact⟨_,rfl,h1⟩,ih h2⟩
theorem AV.ql9{xs vs:List DV}:AV.owns (xs.map .d) (vs.map .d)=DV.owns xs vs:=by
 induction xs generalizing vs with
 |nil=>simp[AV.owns,DV.owns]
 |cons x xs ih=>cases vs<;>simp[AV.owns,DV.owns,AV.own,ih]
theorem AV.qb8{x v:AV}(h:x.fit v):AV.fits [x] [v]:=by simp only[AV.fits];exact⟨_,_,rfl,h,rfl⟩
theorem AV.qbt{x v:AV}(h:x.fit v):AV.fits x.cells v.cells:=by
 have hh:=h;cases x<;>simp only[AV.fit]at h
 case d x=>
  obtain⟨y,rfl,h1⟩:=h;cases x<;>simp only[DV.fit]at h1
  case agg cs=>obtain⟨ds,rfl,h1⟩:=h1;exact AV.qjA h1
  case sl g xs=>obtain⟨g',ys,rfl,h3,h4⟩:=h1;exact AV.qb8 hh
  case tup cs=>obtain⟨ds,rfl,h1⟩:=h1;exact AV.qb8 hh
  all_goals subst h1;exact AV.qb8 hh
 case ep=>obtain⟨_,rfl,_⟩:=h;exact AV.qb8 hh
 case fn=>obtain⟨_,rfl,_⟩:=h;exact AV.qb8 hh
 case bsl=>obtain⟨_,rfl⟩:=h;exact AV.qb8 hh
 case ag t cs=>
  obtain⟨_,rfl,h1,_⟩:=h;cases t with
  |false=>exact h1
  |true=>exact AV.qb8 hh
 all_goals subst h;exact AV.qb8 hh
theorem AV.qdB{x v:AV}(h:x.fit v):AV.owns x.cells v.cells=x.own v:=by
 cases x<;>simp only[AV.fit]at h
 case d x=>
  obtain⟨y,rfl,h1⟩:=h;cases x<;>simp only[DV.fit]at h1
  case agg cs=>obtain⟨ds,rfl,h1⟩:=h1;simp[AV.cells,AV.own,DV.own,AV.ql9]
  case sl g xs=>obtain⟨g',ys,rfl,h3,h4⟩:=h1;simp[AV.cells,AV.owns]
  case tup cs=>obtain⟨ds,rfl,h1⟩:=h1;simp[AV.cells,AV.owns]
  all_goals subst h1;simp[AV.cells,AV.owns]
 case ep=>obtain⟨_,rfl,_⟩:=h;simp[AV.cells,AV.owns]
 case fn=>obtain⟨_,rfl,_⟩:=h;simp[AV.cells,AV.owns]
 case bsl=>obtain⟨_,rfl⟩:=h;simp[AV.cells,AV.owns]
 case ag t cs=>
  obtain⟨_,rfl,h1,h2⟩:=h;cases t with
  |false=>simp[AV.cells,AV.own,h2]
  |true=>simp[AV.cells,AV.owns]
 all_goals subst h;simp[AV.cells,AV.owns]
theorem AV.qbK{x v:AV}(h:x.fit v):v.cells.length=x.cells.length:=(AV.qan (AV.qbt h)).symm
mutual
theorem AV.qcg:∀(x v:AV),x.fit v->x.clr.fit v
 | .d x,v,h=>by
  simp only[AV.fit,AV.clr]at h⊢
  obtain⟨y,rfl,h1⟩:=h;exact⟨y,rfl,DV.qcg _ _ h1⟩
 | .ep cs,v,h=>by
  simp only[AV.fit,AV.clr]at h⊢
  obtain⟨ds,rfl,h1⟩:=h;exact⟨ds,rfl,DV.qcm _ _ h1⟩
 | .fn f cap,v,h=>by
  simp only[AV.fit,AV.clr]at h⊢
  obtain⟨ds,rfl,h1,_⟩:=h;obtain⟨h2,h3⟩:=AV.qcm cap ds h1;exact⟨ds,rfl,h2,h3⟩
 | .ptr i o,v,h=>by simpa only[AV.clr]using h
 | .nilp,v,h=>by simpa only[AV.clr]using h
 | .bsl id a i sz n,v,h=>by simpa only[AV.clr]using h
 | .tsl a i sz n,v,h=>by simpa only[AV.clr]using h
 | .ag t cap,v,h=>by
  simp only[AV.fit,AV.clr]at h⊢
  obtain⟨ds,rfl,h1,_⟩:=h;obtain⟨h2,h3⟩:=AV.qcm cap ds h1;exact⟨ds,rfl,h2,h3⟩
 | .und,v,h=>by simpa only[AV.clr]using h
theorem AV.qcm:∀(xs vs:List AV),AV.fits xs vs->AV.fits (AV.clrs xs) vs/\AV.owns (AV.clrs xs) vs=[]
 | [],vs,h=>by simp only[AV.fits,AV.clrs,AV.owns]at h⊢;exact⟨h,trivial⟩
 |x::xs,vs,h=>by
  simp only[AV.fits,AV.clrs]at h⊢
  obtain⟨v,vs,rfl,h1,h2⟩:=h;obtain⟨h3,h4⟩:=AV.qcm xs vs h2;refine⟨⟨v,vs,rfl,AV.qcg x v h1,h3⟩,?_⟩;simp only[AV.owns,h4,List.append_nil];cases x<;>cases v<;>simp[AV.clr,AV.own,DV.qbH,DV.qer]
end
theorem AV.qbH(x v:AV):x.clr.own v=[]:=by cases x<;>cases v<;>simp[AV.clr,AV.own,DV.qbH,DV.qer]
mutual
theorem AV.qjX(m:Nat):∀(x v:AV),x.fit v->v.safe m=x.safe m
 | .d x,v,h=>by simp only[AV.fit]at h;obtain⟨y,rfl,_⟩:=h;unfold AV.safe;rfl
 | .ep cs,v,h=>by simp only[AV.fit]at h;obtain⟨y,rfl,_⟩:=h;unfold AV.safe;rfl
 | .fn f cap,v,h=>by
  simp only[AV.fit]at h;obtain⟨y,rfl,h1,_⟩:=h;rw[AV.safe,AV.safe];exact AV.qmc m cap y h1
 | .ptr i o,v,h=>by simp only[AV.fit]at h;subst h;rfl
 | .nilp,v,h=>by simp only[AV.fit]at h;subst h;rfl
 | .bsl id a i sz n,v,h=>by simp only[AV.fit]at h;obtain⟨_,rfl⟩:=h;unfold AV.safe;rfl
 | .tsl a i sz n,v,h=>by simp only[AV.fit]at h;subst h;rfl
 | .ag t cap,v,h=>by
  simp only[AV.fit]at h;obtain⟨y,rfl,h1,_⟩:=h;rw[AV.safe,AV.safe];exact AV.qmc m cap y h1
 | .und,v,h=>by simp only[AV.fit]at h;subst h;rfl
theorem AV.qmc(m:Nat):∀(xs vs:List AV),AV.fits xs vs->AV.safe.safes m vs=AV.safe.safes m xs
 | [],vs,h=>by simp only[AV.fits]at h;subst h;rfl
 |x::xs,vs,h=>by
  simp only[AV.fits]at h;obtain⟨v,vs,rfl,h1,h2⟩:=h;rw[AV.safe.safes,AV.safe.safes,AV.qjX m x v h1,AV.qmc m xs vs h2]
end
mutual
theorem DV.qg5:∀x:DV,x.clr.clr=x.clr
 | .sl g xs=>by simp only[DV.clr,DV.qcw xs]
 | .agg cs=>by simp only[DV.clr,DV.qcw cs]
 | .tup cs=>by simp only[DV.clr,DV.qcw cs]
 | .int k n=>by simp only[DV.clr]
 | .bool b=>by simp only[DV.clr]
 | .str s=>by simp only[DV.clr]
theorem DV.qcw:∀l:List DV,DV.clrs (DV.clrs l)=DV.clrs l
 | []=>by simp only[DV.clrs]
 |x::xs=>by simp only[DV.clrs,DV.qg5 x,DV.qcw xs]
end
mutual
theorem AV.qg5:∀x:AV,x.clr.clr=x.clr
 | .d x=>by simp only[AV.clr,DV.qg5]
 | .ep cs=>by simp only[AV.clr,DV.qcw]
 | .fn f cap=>by simp only[AV.clr,AV.qcw cap]
 | .ptr i o=>by simp only[AV.clr]
 | .nilp=>by simp only[AV.clr]
 | .bsl id a i sz n=>by simp only[AV.clr]
 | .tsl a i sz n=>by simp only[AV.clr]
 | .ag t cap=>by simp only[AV.clr,AV.qcw cap]
 | .und=>by simp only[AV.clr]
theorem AV.qcw:∀l:List AV,AV.clrs (AV.clrs l)=AV.clrs l
 | []=>by simp only[AV.clrs]
 |x::xs=>by simp only[AV.clrs,AV.qg5 x,AV.qcw xs]
end
mutual
theorem AV.qbj:∀(x:AV),x.clr.fit x
 | .d x=>by simp only[AV.fit,AV.clr];exact⟨_,rfl,DV.qbj x⟩
 | .ep cs=>by simp only[AV.fit,AV.clr];exact⟨_,rfl,DV.qcv _⟩
 | .fn f cap=>by simp only[AV.fit,AV.clr];exact⟨_,rfl,AV.qcv cap,(AV.qmd cap)⟩
 | .ptr i o=>by simp[AV.fit,AV.clr]
 | .nilp=>by simp[AV.fit,AV.clr]
 | .bsl id a i sz n=>by simp[AV.fit,AV.clr]
 | .tsl a i sz n=>by simp[AV.fit,AV.clr]
 | .ag t cap=>by simp only[AV.fit,AV.clr];exact⟨_,rfl,AV.qcv cap,(AV.qmd cap)⟩
 | .und=>by simp[AV.fit,AV.clr]
theorem AV.qcv:∀(xs:List AV),AV.fits (AV.clrs xs) xs
 | []=>by simp[AV.fits,AV.clrs]
 |x::xs=>by simp only[AV.fits,AV.clrs];exact⟨_,_,rfl,AV.qbj x,AV.qcv xs⟩
theorem AV.qmd:∀(xs:List AV),AV.owns (AV.clrs xs) xs=[]
 | []=>by simp[AV.owns,AV.clrs]
 |x::xs=>by simp only[AV.owns,AV.clrs];rw[AV.qbH,AV.qmd xs];rfl
end
theorem DV.qGh(v:DV):v.cn1.fit v:=by
 unfold DV.cn1;split
 ·simp only[DV.fit,DV.fits];exact⟨_,_,rfl,rfl,.inr ⟨rfl,.inl ⟨rfl,.inl rfl⟩⟩⟩
 ·exact DV.qbj _
theorem DV.qGg(v w:DV):v.cn1.own w=[]:=by
 unfold DV.cn1;split
 ·cases w<;>simp[DV.own,DV.owns]
 ·exact DV.qbH _ _
theorem DV.qgj:∀l:List DV,DV.fits (l.map DV.cn1) l
 | []=>by simp[DV.fits]
 |x::xs=>by simp only[List.map_cons,DV.fits];exact⟨_,_,rfl,DV.qGh x,DV.qgj xs⟩
theorem DV.qfD:∀l m:List DV,DV.owns (l.map DV.cn1) m=[]
 | [],m=>by simp[DV.owns]
 |x::xs,m=>by cases m<;>simp[DV.owns,DV.qGg,DV.qfD xs]
theorem DV.qr5(v:DV):v.cn.fit v:=by
 unfold DV.cn;split
 ·simp only[DV.fit];exact⟨_,rfl,DV.qgj _⟩
 ·exact DV.qGh _
theorem DV.qGf(v w:DV):v.cn.own w=[]:=by
 unfold DV.cn;split
 ·cases w<;>simp[DV.own,DV.qfD]
 ·exact DV.qGg _ _
theorem DV.qcT(e:DV):e.clr.cells=DV.clrs e.cells:=by cases e<;>simp[DV.clr,DV.cells,DV.clrs]
theorem DV.qcy(l:List DV):(DV.clrs l).length=l.length:=by simp[DV.qaA]
theorem AV.qcy(l:List AV):(AV.clrs l).length=l.length:=by simp[AV.qaA]
def qg4(rx rv:List (Nat×AV)):Prop:=∀t x,lk rx t=some x->∃v,lk rv t=some v/\x.clr.fit v
theorem qjp{rx rv:List (Nat×AV)}(h:qg4 rx rv){x:VX}{a:AV}(hx:x.get rx=some a):∃v,x.get rv=some v/\a.clr.fit v:=by
 cases x with
 |t n=>exact h n a hx
 |c v=>simp[VX.get]at hx⊢;subst hx;exact AV.qbj _
theorem qtT{rx rv:List (Nat×AV)}(h:qg4 rx rv){x:VX}{a:DV}(hx:x.get rx=some (.d a)):∃v,x.get rv=some (.d v)/\a.clr.fit v:=by
 obtain⟨v,h1,h2⟩:=qjp h hx;simp only[AV.clr,AV.fit]at h2;obtain⟨y,rfl,h3⟩:=h2;exact⟨y,h1,h3⟩
theorem qf9{rx rv:List (Nat×AV)}(h:qg4 rx rv){x:VX}{k:IntKind}{n:Int}(hx:x.get rx=some (.d (.int k n))):x.get rv=some (.d (.int k n)):=by
 obtain⟨v,h1,h2⟩:=qtT h hx;simp only[DV.clr,DV.fit]at h2;subst h2;exact h1
theorem qoT{rx rv:List (Nat×AV)}(h:qg4 rx rv){x:VX}{b:Bool}(hx:x.get rx=some (.d (.bool b))):x.get rv=some (.d (.bool b)):=by
 obtain⟨v,h1,h2⟩:=qtT h hx;simp only[DV.clr,DV.fit]at h2;subst h2;exact h1
theorem qtR{rx rv:List (Nat×AV)}(h:qg4 rx rv){x:VX}{b:ByteArray}(hx:x.get rx=some (.d (.str b))):x.get rv=some (.d (.str b)):=by
 obtain⟨v,h1,h2⟩:=qtT h hx;simp only[DV.clr,DV.fit]at h2;subst h2;exact h1
theorem qxd{rx rv:List (Nat×AV)}(h:qg4 rx rv){x:VX}{g:Tag}{l:List DV}(hx:x.get rx=some (.d (.sl g l))):∃g' ys,x.get rv=some (.d (.sl g' ys))/\DV.fits (DV.clrs l) ys:=by
 obtain⟨v,h1,h2⟩:=qtT h hx;simp only[DV.clr,DV.fit]at h2;obtain⟨g',ys,rfl,h3,_⟩:=h2;exact⟨g',ys,h1,h3⟩
theorem qEF{rx rv:List (Nat×AV)}(h:qg4 rx rv){x:VX}{l:List DV}(hx:x.get rx=some (.d (.agg l))):∃ys,x.get rv=some (.d (.agg ys))/\DV.fits (DV.clrs l) ys:=by
 obtain⟨v,h1,h2⟩:=qtT h hx;simp only[DV.clr,DV.fit]at h2;obtain⟨ys,rfl,h3⟩:=h2;exact⟨ys,h1,h3⟩
theorem qtS{rx rv:List (Nat×AV)}(h:qg4 rx rv){x:VX}{i o:Nat}(hx:x.get rx=some (.ptr i o)):x.get rv=some (.ptr i o):=by
 obtain⟨v,h1,h2⟩:=qjp h hx;simp only[AV.clr,AV.fit]at h2;subst h2;exact h1
theorem qEC{rx rv:List (Nat×AV)}(h:qg4 rx rv){x:VX}{a:Bool}{i s n:Nat}(hx:x.get rx=some (.tsl a i s n)):x.get rv=some (.tsl a i s n):=by
 obtain⟨v,h1,h2⟩:=qjp h hx;simp only[AV.clr,AV.fit]at h2;subst h2;exact h1
theorem qEE{rx rv:List (Nat×AV)}(h:qg4 rx rv){x:VX}{id:Id}{a:Bool}{i s n:Nat}(hx:x.get rx=some (.bsl id a i s n)):∃id',x.get rv=some (.bsl id' a i s n):=by
 obtain⟨v,h1,h2⟩:=qjp h hx;simp only[AV.clr,AV.fit]at h2;obtain⟨id',rfl⟩:=h2;exact⟨id',h1⟩
theorem qED{rx rv:List (Nat×AV)}(h:qg4 rx rv){x:VX}{l:List DV}(hx:x.get rx=some (.ep l)):∃ys,x.get rv=some (.ep ys)/\DV.fits (DV.clrs l) ys:=by
 obtain⟨v,h1,h2⟩:=qjp h hx;simp only[AV.clr,AV.fit]at h2;obtain⟨ys,rfl,h3⟩:=h2;exact⟨ys,h1,h3⟩
theorem qI3{op:BinOp}{a b c a' b':DV}(ha:a.clr.fit a')(hb:b.clr.fit b')(h:qeM op a b=some c):qeM op a' b'=some c:=by
 cases a<;>cases b<;>simp only[qeM]at h<;>(first|(simp at h;done)|skip)<;>simp only[DV.clr,DV.fit]at ha hb<;>subst ha<;>subst hb<;>exact h
theorem qzd:∀(ks:List Nat) (a b a' b':List DV),DV.fits (DV.clrs a) a'->DV.fits (DV.clrs b) b'->∀r,qbx ks a b=some r->qbx ks a' b'=some r:=by
 intro ks a b
 fun_induction qbx ks a b<;>intro a' b' ha hb r h<;>(first|(simp at h;done)|skip)
 all_goals simp only[DV.clrs,DV.fits]at ha hb
 case case1=>subst ha;subst hb;exact h
 all_goals
  obtain⟨v,vs,rfl,h1,h2⟩:=ha;obtain⟨v',vs',rfl,h1',h2'⟩:=hb;simp only[DV.clr,DV.fit]at h1 h1';subst h1;subst h1'
  simp_all[qbx]
  try (obtain⟨c,h5,h6⟩:=h;rename_i ih;rcases c with c|c;(exact .inl ((ih _ _ h2 h2').1 c));(exact .inr ((ih _ _ h2 h2').2 c)))
theorem qzK:∀(a a':List DV),DV.fits (DV.clrs a) a'->∀r,bytesOf a=some r->bytesOf a'=some r:=by
 intro a
 fun_induction bytesOf a<;>intro a' ha r h<;>(first|(simp at h;done)|skip)
 all_goals simp only[DV.clrs,DV.fits]at ha
 case case1=>subst ha;exact h
 all_goals
  obtain⟨v,vs,rfl,h1,h2⟩:=ha;simp only[DV.clr,DV.fit]at h1;subst h1;rename_i ih;obtain⟨q,h3,rfl⟩:=ya_.1 h;simp[bytesOf,ih _ h2 _ h3]
theorem qEA{rx rv:List (Nat×AV)}(h:qg4 rx rv):∀{xs:List VX} {as:List AV},qgE rx xs=some as->∃vs,qgE rv xs=some vs/\AV.fits (AV.clrs as) vs
 | [],as,hx=>by simp[qgE]at hx;subst hx;exact⟨[],rfl,by simp[AV.clrs,AV.fits]⟩
 |x::xs,as,hx=>by
  simp only[qgE]at hx;obtain⟨a,h1,h2⟩:=yb_.1 hx;obtain⟨as',h3,rfl⟩:=ya_.1 h2;obtain⟨v,h4,h5⟩:=qjp h h1;obtain⟨vs,h6,h7⟩:=qEA h h3;exact⟨v::vs,by simp[qgE,h4,h6],by simp only[AV.clrs,AV.fits];exact⟨_,_,rfl,h5,h7⟩⟩
theorem qiJ{rx rv:List (Nat×AV)}(h:qg4 rx rv){x:Option VX}{a:Option AV}(hx:qhO rx x=some a):∃v,qhO rv x=some v/\v.bind qmg=a.bind qmg/\(v=none↔a=none):=by
 cases x with
 |none=>simp[qhO]at hx;subst hx;exact⟨none,rfl,rfl,Iff.rfl⟩
 |some x=>
  simp only[qhO]at hx⊢
  obtain⟨a',h1,rfl⟩:=ya_.1 hx;obtain⟨v,h2,h3⟩:=qjp h h1;refine⟨some v,by simp[h2],?_,by simp⟩;simp only[Option.bind_some];cases a' with
  |d w=>
   cases w<;>simp only[AV.clr,DV.clr,AV.fit,DV.fit]at h3
   case int k n=>obtain⟨y,rfl,rfl⟩:=h3;rfl
   case sl=>obtain⟨y,rfl,_,_,rfl,_⟩:=h3;rfl
   case agg=>obtain⟨y,rfl,_,rfl,_⟩:=h3;rfl
   case tup=>obtain⟨y,rfl,_,rfl,_⟩:=h3;rfl
   all_goals obtain⟨y,rfl,rfl⟩:=h3;rfl
  |ep=>simp only[AV.clr,AV.fit]at h3;obtain⟨_,rfl,_⟩:=h3;rfl
  |fn=>simp only[AV.clr,AV.fit]at h3;obtain⟨_,rfl,_⟩:=h3;rfl
  |bsl=>simp only[AV.clr,AV.fit]at h3;obtain⟨_,rfl⟩:=h3;rfl
  |ag=>simp only[AV.clr,AV.fit]at h3;obtain⟨_,rfl,_⟩:=h3;rfl
  |_=>simp only[AV.clr,AV.fit]at h3;subst h3;rfl
theorem qiv{a v:Option AV}(h:v.bind qmg=a.bind qmg)(h':v=none↔a=none)(n:Nat):qbV n v=qbV n a:=by
 cases a<;>cases v<;>simp at h h'
 ·rfl
 ·simp only[qbV,h]
theorem qiu{a v:Option AV}(h:v.bind qmg=a.bind qmg)(h':v=none↔a=none)(n:Nat):qbU n v=qbU n a:=by
 cases a<;>cases v<;>simp at h h'
 ·rfl
 ·simp only[qbU,h]
def VOp.gen:VOp->Bool
 | .nilCheck _| .bin _ _ _| .eqAgg _ _ _ _| .eqB _ _ _| .not _| .conv _ _| .index _ _| .indexAddr _ _ _ _| .fieldAddr _ _| .slice _ _ _ _ _| .makeFunc _ _| .len _ _| .fail=>true
 |_=>false
theorem qnG{sz:Nat}{xs ys:List DV}(h:DV.fits (DV.clrs xs) ys)(hx:xs.all (fun e=>decide (e.cells.length=sz))=true):ys.all (fun e=>decide (e.cells.length=sz))=true:=by
 simp only[List.all_eq_true,decide_eq_true_eq]at hx⊢
 intro e he;obtain⟨i,hi⟩:=List.mem_iff_getElem?.1 he;obtain⟨h1,h2⟩:=(DV.qbE _ _).1 h;rw[DV.qcy]at h1;have hlt:i<xs.length:=by rw[h1];exact(List.getElem?_eq_some_iff.1 hi).1
 have h3:=h2 i (xs[i].clr) e (by simp[DV.qaA,hlt]) hi;rw[DV.qbK h3,DV.qcT,DV.qcy];exact hx _ (List.getElem_mem hlt)
theorem qUM{rx rv:List (Nat×AV)}(h:qg4 rx rv){op:VOp}(hg:op.gen=true){a:AV}(ha:evP rx op=some a):∃v,evP rv op=some v/\a.clr.fit v:=by
 cases op<;>simp only[VOp.gen]at hg<;>(first|(simp at hg;done)|skip)
 case nilCheck x=>
  simp only[evP]at ha⊢
  split at ha<;>(first|(simp at ha;done)|skip)<;>rename_i h1<;>simp at ha<;>subst ha
  ·rw[qtS h h1];exact⟨_,rfl,AV.qbj _⟩
  ·obtain⟨ys,h2,h3⟩:=qED h h1;rw[h2]
   exact⟨_,rfl,by simp only[AV.clr,AV.fit];exact⟨_,rfl,h3⟩⟩
  ·obtain⟨v,h2,h3⟩:=qjp h h1
   have h3':=h3;simp only[AV.clr,AV.fit]at h3';obtain⟨c,rfl,_⟩:=h3'
   rw[h2];exact⟨_,rfl,h3⟩
 case bin op x y=>
  simp only[evP]at ha⊢
  split at ha<;>(first|(simp at ha;done)|skip)
  rename_i a1 b1 h1 h2;obtain⟨c,h3,rfl⟩:=ya_.1 ha;obtain⟨v1,h4,h5⟩:=qtT h h1;obtain⟨v2,h6,h7⟩:=qtT h h2;rw[h4,h6];simp only[qI3 h5 h7 h3,Option.map_some];exact⟨_,rfl,AV.qbj _⟩
 case eqAgg neg ks x y=>
  simp only[evP]at ha⊢
  split at ha<;>(first|(simp at ha;done)|skip)
  rename_i a1 b1 h1 h2;obtain⟨c,h3,rfl⟩:=ya_.1 ha;obtain⟨v1,h4,h5⟩:=qEF h h1;obtain⟨v2,h6,h7⟩:=qEF h h2;rw[h4,h6];simp only[qzd _ _ _ _ _ h5 h7 _ h3,Option.map_some];exact⟨_,rfl,AV.qbj _⟩
 case eqB neg x y=>
  simp only[evP]at ha⊢
  split at ha<;>(first|(simp at ha;done)|skip)
  rename_i a1 b1 h1 h2;simp at ha;subst ha
  rw[qoT h h1,qoT h h2];exact⟨_,rfl,AV.qbj _⟩
 case not x=>
  simp only[evP]at ha⊢
  split at ha<;>(first|(simp at ha;done)|skip)
  rename_i b1 h1;simp at ha;subst ha
  rw[qoT h h1];exact⟨_,rfl,AV.qbj _⟩
 case conv c x=>
  cases c with
  |kind k=>
   simp only[evP]at ha⊢
   split at ha<;>(first|(simp at ha;done)|skip)
   rename_i k1 n1 h1;simp at ha;subst ha
   rw[qf9 h h1];exact⟨_,rfl,AV.qbj _⟩
  |rune=>
   simp only[evP]at ha⊢
   split at ha<;>(first|(simp at ha;done)|skip)
   rename_i k1 n1 h1;simp at ha;subst ha
   rw[qf9 h h1];exact⟨_,rfl,AV.qbj _⟩
  |bytes=>
   simp only[evP]at ha⊢
   split at ha<;>(first|(simp at ha;done)|skip)
   rename_i g1 l1 h1;obtain⟨c,h3,rfl⟩:=ya_.1 ha;obtain⟨g',ys,h4,h5⟩:=qxd h h1;rw[h4];simp only[qzK _ _ h5 _ h3,Option.map_some];exact⟨_,rfl,AV.qbj _⟩
 case index x i=>
  simp only[evP]at ha⊢
  split at ha<;>(first|(simp at ha;done)|skip)
  rename_i s k n h1 h2;rw[qtR h h1,qf9 h h2];simp only;split at ha
  ·rename_i h3
   rw[if_pos h3];obtain⟨b,h4,rfl⟩:=ya_.1 ha;rw[h4];exact⟨_,rfl,AV.qbj _⟩
  ·simp at ha
 case indexAddr sz arr x i=>
  cases arr with
  |none=>
   simp only[evP]at ha⊢
   split at ha
   ·rename_i g l k n h1 h2
    obtain⟨g',ys,h4,h5⟩:=qxd h h1;rw[h4,qf9 h h2];simp only;split at ha
    ·rename_i h3
     rw[if_pos h3];obtain⟨e,h6,h7⟩:=yb_.1 ha;split at h7
     ·rename_i h8
      simp at h7;subst h7
      obtain⟨e',h9,h10⟩:=DV.qcS h5 (x:=e.clr) (i:=n.toNat) (by simp[DV.qaA,h6]);have h11:e'.cells.length=sz:=by rw[DV.qbK h10,DV.qcT,DV.qcy];exact h8.1
      rw[h9];simp only[Option.bind_some,h11,h8.2,ne_eq,not_false_eq_true,and_self,if_true];have h12:=DV.qbt h10;rw[DV.qcT]at h12;exact⟨_,rfl,by simp only[AV.clr,AV.fit];exact⟨_,rfl,h12⟩⟩
     ·simp at h7
    ·simp at ha
   ·rename_i id ag b s' m k n h1 h2
    obtain⟨id',h4⟩:=qEE h h1;rw[h4,qf9 h h2];simp only;split at ha
    ·rename_i h3
     rw[if_pos h3];simp at ha;subst ha
     exact⟨_,rfl,AV.qbj _⟩
    ·simp at ha
   ·rename_i ag b s' m k n h1 h2
    rw[qEC h h1,qf9 h h2];simp only;split at ha
    ·rename_i h3
     rw[if_pos h3];simp at ha;subst ha
     exact⟨_,rfl,AV.qbj _⟩
    ·simp at ha
   ·simp at ha
  |some m=>
   simp only[evP]at ha⊢
   split at ha
   ·rename_i b o k n h1 h2
    rw[qtS h h1,qf9 h h2];simp only;split at ha
    ·rename_i h3
     rw[if_pos h3];simp at ha;subst ha
     exact⟨_,rfl,AV.qbj _⟩
    ·simp at ha
   ·rename_i l k n h1 h2
    obtain⟨ys,h4,h5⟩:=qED h h1;rw[h4,qf9 h h2];simp only;have hl:=DV.qan h5;rw[DV.qcy]at hl;split at ha
    ·rename_i h3
     rw[if_pos (by omega)];simp at ha;subst ha
     refine⟨_,rfl,?_⟩;simp only[AV.clr,AV.fit];have:=DV.qbs h5 (n.toNat*sz);rw[DV.qaA,<-List.map_drop,<-DV.qaA]at this;exact⟨_,rfl,this⟩
    ·simp at ha
   ·simp at ha
 case fieldAddr off x=>
  simp only[evP]at ha⊢
  split at ha
  ·rename_i b o h1
   rw[qtS h h1];simp at ha;subst ha
   exact⟨_,rfl,AV.qbj _⟩
  ·rename_i l h1
   obtain⟨ys,h4,h5⟩:=qED h h1;rw[h4];simp only;have hl:=DV.qan h5;rw[DV.qcy]at hl;split at ha
   ·rename_i h3
    rw[if_pos (by omega)];simp at ha;subst ha
    refine⟨_,rfl,?_⟩;simp only[AV.clr,AV.fit];have:=DV.qbs h5 off;rw[DV.qaA,<-List.map_drop,<-DV.qaA]at this;exact⟨_,rfl,this⟩
   ·simp at ha
  ·simp at ha
 case slice str sz x lo hi=>
  cases str with
  |true=>
   simp only[evP]at ha⊢
   split at ha<;>(first|(simp at ha;done)|skip)
   rename_i s l' h' h1 h2 h3;obtain⟨vl,h4,h5,h6⟩:=qiJ h h2;obtain⟨vh,h7,h8,h9⟩:=qiJ h h3;rw[qtR h h1,h4,h7];simp only;rw[qiv h8 h9];obtain⟨hh,h10,h11⟩:=yb_.1 ha;rw[h10];simp only[Option.bind_some];rw[qiu h5 h6];rw[h11];obtain⟨ll,_,rfl⟩:=ya_.1 h11;exact⟨_,rfl,AV.qbj _⟩
  |false=>
   simp only[evP]at ha⊢
   split at ha<;>(first|(simp at ha;done)|skip)
   rename_i g xs l' h' h1 h2 h3;obtain⟨vl,h4,h5,h6⟩:=qiJ h h2;obtain⟨vh,h7,h8,h9⟩:=qiJ h h3;obtain⟨g',ys,h12,h13⟩:=qxd h h1;rw[h12,h4,h7];simp only;have hl:=DV.qan h13;rw[DV.qcy]at hl;split at ha
   ·rename_i h14
    rw[if_pos (qnG h13 h14),qiv h8 h9];obtain⟨hh,h10,h11⟩:=yb_.1 ha;rw[<-hl,h10];simp only[Option.bind_some];rw[qiu h5 h6];obtain⟨ll,h15,rfl⟩:=ya_.1 h11;rw[h15];refine⟨_,rfl,?_⟩;simp only[AV.clr,DV.clr,AV.fit,DV.fit];refine⟨_,rfl,_,_,rfl,?_,.inl rfl⟩;have:=DV.qbs (DV.qbl h13 hh) ll;rw[DV.qaA,<-List.map_take,<-List.map_drop,<-DV.qaA]at this;exact this
   ·simp at ha
 case makeFunc f cs=>
  simp only[evP]at ha⊢
  obtain⟨vs,h1,rfl⟩:=ya_.1 ha;obtain⟨ws,h2,h3⟩:=qEA h h1;rw[h2];refine⟨_,rfl,?_⟩;simp only[AV.clr,AV.fit];have:=AV.qcm _ _ h3;refine⟨_,rfl,h3,?_⟩;have hcc:∀l:List AV,AV.clrs (AV.clrs l)=AV.clrs l:=by
   intro l;simp only[AV.qaA,List.map_map]
   congr 1
   funext x
   exact AV.qg5 x
  rw[<-hcc];exact this.2
 case len str x=>
  cases str with
  |true=>
   simp only[evP]at ha⊢
   split at ha<;>(first|(simp at ha;done)|skip)
   rename_i s h1;simp at ha;subst ha
   rw[qtR h h1];exact⟨_,rfl,AV.qbj _⟩
  |false=>
   simp only[evP]at ha⊢
   split at ha<;>(first|(simp at ha;done)|skip)
   ·rename_i g xs h1
    simp at ha;subst ha
    obtain⟨g',ys,h4,h5⟩:=qxd h h1;have hl:=DV.qan h5;rw[DV.qcy]at hl;rw[h4,hl];exact⟨_,rfl,AV.qbj _⟩
   ·rename_i h1
    simp at ha;subst ha
    obtain⟨id',h4⟩:=qEE h h1;rw[h4];exact⟨_,rfl,AV.qbj _⟩
   ·rename_i h1
    simp at ha;subst ha
    rw[qEC h h1];exact⟨_,rfl,AV.qbj _⟩
 case fail=>simp[evP]at ha
end Go.Proofs.YtbcbkiaineacpaaGreat.VS
namespace Go.Proofs.YtbcbkiaineacpaaGreat.VS
open Classical
inductive Loc where
 |reg (t:Nat)
 |box (i:Nat)
def qcX(B Bv:qal)(i:Nat):List Id:=
 match qcu B i,qcu Bv i with
 |some cs,some ds=>AV.owns cs ds
 |_,_=>[]
def qcK(rx rv:List (Nat×AV))(t:Nat):List Id:=
 match lk rx t,lk rv t with
 |some x,some v=>x.own v
 |_,_=>[]
def qaj(rx:List (Nat×AV))(B:qal)(rv:List (Nat×AV))(Bv:qal):Loc->List Id
 | .reg t=>qcK rx rv t
 | .box i=>qcX B Bv i
def Fut(p:Id)(k:Nat)(a:Id):Prop:=∃q j,k<=j/\a=q++j::p
theorem Fut.le{p:Id}{k k':Nat}(h:k<=k'){a:Id}(hf:Fut p k' a):Fut p k a:=by
 obtain⟨q,j,h1,h2⟩:=hf;exact⟨q,j,Nat.le_trans h h1,h2⟩
theorem Fut.sub{p:Id}{c i:Nat}{a:Id}(hf:Fut ((c+i)::p) 0 a):Fut p (c+i) a:=by
 obtain⟨q,j,h1,h2⟩:=hf;exact⟨q++[j],c+i,Nat.le_refl _,by rw[h2];simp⟩
theorem Fut.qii{p:Id}{c i k:Nat}(hk:c+i<k){a:Id}(hf:Fut ((c+i)::p) 0 a):¬Fut p k a:=by
 obtain⟨q,j,h1,h2⟩:=hf
 rintro⟨q',j',h3,h4⟩
 rw[h2]at h4;have h5:q++j::(c+i)::p=(q++[j])++((c+i)::p):=by simp
 rw[h5]at h4;obtain⟨_,h6⟩:=List.append_inj' h4 (by simp);simp at h6;omega
theorem Fut.self(p:Id)(k:Nat):Fut p k (k::p):=⟨[],k,Nat.le_refl _,rfl⟩
theorem Fut.qpi{p:Id}{k k':Nat}(h:k<k'):¬Fut p k' (k::p):=by
 rintro⟨q,j,h1,h2⟩
 have h5:k::p=[]++(k::p):=rfl;rw[h5]at h2;obtain⟨_,h6⟩:=List.append_inj' h2 (by simp);simp at h6;omega
structure Held(F Fu:Id->Prop)(A:Ids)(own:Loc->List Id):Prop where
 nodup:∀ℓ,(own ℓ).Nodup
 apart:∀ℓ ℓ' a,a∈own ℓ->a∈own ℓ'->ℓ=ℓ'
 opn:∀ℓ a,a∈own ℓ->A a=true/\¬F a/\¬Fu a
 fr:∀a,F a->A a=true/\¬Fu a
theorem Held.set{F Fu Fu':Id->Prop}{A A':Ids}{own own':Loc->List Id}(h:Held F Fu A own)(ℓ0:Loc)
 (hsub:∀ℓ,ℓ≠ℓ0->(own' ℓ).Sublist (own ℓ)) (hnd:(own' ℓ0).Nodup)
 (hnew:∀a,a∈own' ℓ0->A' a=true/\¬F a/\¬Fu' a/\∀ℓ,ℓ≠ℓ0->a∉own' ℓ)
 (hA:∀ℓ,ℓ≠ℓ0->∀a,a∈own' ℓ->A' a=true) (hF:∀a,F a->A' a=true) (hfu:∀a,Fu' a->Fu a):Held F Fu' A' own':=by
 refine⟨fun ℓ=> ?_,fun ℓ ℓ' a ha ha'=> ?_,fun ℓ a ha=> ?_,fun a ha=>⟨hF a ha,fun hf=>(h.fr a ha).2 (hfu a hf)⟩⟩
 ·by_cases he:ℓ=ℓ0
  ·subst he;exact hnd
  ·exact(h.nodup ℓ).sublist (hsub ℓ he)
 ·by_cases he:ℓ=ℓ0
  ·by_cases he':ℓ'=ℓ0
   ·rw[he,he']
   ·subst he
    exact absurd ha' ((hnew a ha).2.2.2 ℓ' he')
  ·by_cases he':ℓ'=ℓ0
   ·subst he'
    exact absurd ha ((hnew a ha').2.2.2 ℓ he)
   ·exact h.apart ℓ ℓ' a ((hsub ℓ he).subset ha) ((hsub ℓ' he').subset ha')
 ·by_cases he:ℓ=ℓ0
  ·subst he
   obtain⟨h1,h2,h3,_⟩:=hnew a ha;exact⟨h1,h2,h3⟩
  ·obtain⟨_,h2,h3⟩:=h.opn ℓ a ((hsub ℓ he).subset ha)
   exact⟨hA ℓ he a ha,h2,fun hf=>h3 (hfu a hf)⟩
theorem Held.shrink{F Fu Fu':Id->Prop}{A A':Ids}{own own':Loc->List Id}(h:Held F Fu A own)
 (hsub:∀ℓ,(own' ℓ).Sublist (own ℓ)) (hA:∀a,A a=true->(F a\/∃ℓ,a∈own' ℓ)->A' a=true) (hfu:∀a,Fu' a->Fu a):Held F Fu' A' own':=by
 refine⟨fun ℓ=>(h.nodup ℓ).sublist (hsub ℓ),fun ℓ ℓ' a ha ha'=>h.apart ℓ ℓ' a ((hsub ℓ).subset ha) ((hsub ℓ').subset ha'),fun ℓ a ha=> ?_,fun a ha=> ?_⟩
 ·obtain⟨h1,h2,h3⟩:=h.opn ℓ a ((hsub ℓ).subset ha)
  exact⟨hA a h1 (.inr ⟨ℓ,ha⟩),h2,fun hf=>h3 (hfu a hf)⟩
 ·obtain⟨h1,h2⟩:=h.fr a ha
  exact⟨hA a h1 (.inl ha),fun hf=>h2 (hfu a hf)⟩
def qbS(B Bv:qal):Prop:=B.length=Bv.length/\∀i:Nat,(B[i]?=some none->Bv[i]?=some none)/\∀cs,B[i]?=some (some cs)->∃ds,Bv[i]?=some (some ds)/\AV.fits cs ds
structure Rel(A0:Ids)(T:List Nat)(F:Id->Prop)(p:Id)(k:Nat)(sx:XS)(sv:St):Prop where
 regs:∀t x,lk sx.r t=some x->∃v,lk sv.r t=some v/\x.fit v
 boxes:qbS sx.B sv.B
 held:Held F (Fut p k) sv.A (qaj sx.r sx.B sv.r sv.B)
 nl:∀t,T.contains t=false->qcK sx.r sv.r t=[]
 no:∀t,lk sx.r t=none->lk sv.r t=none
 am:∀a,sv.A a=true->¬Fut p k a/\(A0 a=true\/Fut p 0 a)
theorem qbS.free{B Bv:qal}(h:qbS B Bv)(i:Nat):qcB Bv i=qcB B i:=by
 obtain⟨h1,h2⟩:=h;unfold qcB;cases hb:B[i]? with
 |none=>
  have:Bv[i]?=none:=by
   have:=List.getElem?_eq_none_iff.1 hb;exact List.getElem?_eq_none (by omega)
  simp[this]
 |some o=>cases o with
  |none=>rw[(h2 i).1 hb]
  |some cs=>obtain⟨ds,h3,_⟩:=(h2 i).2 cs hb;rw[h3]
theorem qcD{B:qal}{i:Nat}{cs:List AV}:qcu B i=some cs↔B[i]?=some (some cs):=by
 unfold qcu;split
 ·rename_i h;simp[h]
 ·rename_i h;constructor
  ·simp
  ·intro h';exact absurd h' (h cs)
theorem qbS.get{B Bv:qal}(h:qbS B Bv){i:Nat}{cs:List AV}(hb:qcu B i=some cs):∃ds,qcu Bv i=some ds/\AV.fits cs ds:=by
 obtain⟨ds,h1,h2⟩:=(h.2 i).2 cs (qcD.1 hb);exact⟨ds,qcD.2 h1,h2⟩
theorem qbS.set{B Bv:qal}(h:qbS B Bv)(i:Nat){cs ds:List AV}(hf:AV.fits cs ds):qbS (B.set i (some cs)) (Bv.set i (some ds)):=by
 refine⟨by simpa using h.1,fun j=> ?_⟩
 by_cases hj:i=j
 ·subst hj
  constructor
  ·intro h'
   rw[List.getElem?_set_self']at h';cases hb:B[i]?<;>simp[hb]at h'
  ·intro c h'
   rw[List.getElem?_set_self']at h'⊢
   have hlt:i<B.length:=by
    rcases Nat.lt_or_ge i B.length with hl|hl
    ·exact hl
    ·rw[List.getElem?_eq_none hl]at h';simp at h'
   have hlt':i<Bv.length:=by rw[<-h.1];exact hlt
   simp[hlt]at h';subst h'
   simp[hlt',hf]
 ·rw[List.getElem?_set_ne hj,List.getElem?_set_ne hj];exact h.2 j
theorem qbS.take{B Bv:qal}(h:qbS B Bv)(n:Nat):qbS (B.take n) (Bv.take n):=by
 refine⟨by simp[h.1],fun i=> ?_⟩;simp only[List.getElem?_take];split
 ·exact h.2 i
 ·simp
theorem qbS.more{B Bv:qal}(h:qbS B Bv)(n:Nat):qbS (B++List.replicate n none) (Bv++List.replicate n none):=by
 refine⟨by simp[h.1],fun i=> ?_⟩
 by_cases hi:i<B.length
 ·rw[ye_ hi,ye_ (by rw[<-h.1];exact hi)];exact h.2 i
 ·rw[yd_ (by omega),yd_ (by rw[<-h.1];omega),h.1]
  constructor
  ·exact id
  ·intro cs hc
   rw[List.getElem?_replicate]at hc;split at hc<;>simp at hc
theorem qdX{B:qal}{i:Nat}{cs:List AV}(h:i<B.length):qcu (B.set i (some cs)) i=some cs:=by
 rw[qcD];simp[h]
theorem qfT{B:qal}{i j:Nat}{c:Option (List AV)}(h:i≠j):qcu (B.set i c) j=qcu B j:=by
 unfold qcu;rw[List.getElem?_set_ne h]
theorem qo9{B Bv:qal}{i:Nat}{cs ds:List AV}(h:i<B.length)(h':i<Bv.length):qcX (B.set i (some cs)) (Bv.set i (some ds)) i=AV.owns cs ds:=by
 unfold qcX;rw[qdX h,qdX h']
theorem qul{B Bv:qal}{i j:Nat}{c d:Option (List AV)}(h:i≠j):qcX (B.set i c) (Bv.set i d) j=qcX B Bv j:=by
 unfold qcX;rw[qfT h,qfT h]
theorem qia{B Bv:qal}{i j:Nat}{c:Option (List AV)}(h:i≠j):qcX (B.set i c) Bv j=qcX B Bv j:=by
 unfold qcX;rw[qfT h]
theorem qgg{B:qal}{n i:Nat}:qcu (B.take n) i=if i<n then qcu B i else none:=by
 unfold qcu;simp only[List.getElem?_take];split<;>simp_all
theorem qFS{B:qal}{n i:Nat}:qcu (B++List.replicate n none) i=qcu B i:=by
 unfold qcu
 by_cases hi:i<B.length
 ·rw[ye_ hi]
 ·rw[yd_ (by omega),List.getElem?_replicate,List.getElem?_eq_none (by omega:B.length<=i)]
  split<;>simp_all
section
variable {A0:Ids} {T:List Nat} {F:Id->Prop} {p:Id} {k:Nat} {sx:XS} {sv:St}
theorem Rel.er(h:Rel A0 T F p k sx sv):qg4 sx.r sv.r:=fun t x hx=>by
 obtain⟨v,h1,h2⟩:=h.regs t x hx;exact⟨v,h1,AV.qcg _ _ h2⟩
theorem Rel.get(h:Rel A0 T F p k sx sv){x:VX}{a:AV}(hx:qco sx.r x=some a):∃v,x.get sv.r=some v/\a.fit v:=by
 cases x with
 |t n=>exact h.regs n a hx
 |c v=>
  cases v with
  |d v=>simp[qco,VX.get]at hx⊢;subst hx;simp only[AV.fit];exact⟨_,rfl,DV.qr5 v⟩
  |_=>simp[qco,VX.get]at hx⊢;subst hx;exact AV.qbj _
def qfQ(rx rv:List (Nat×AV))(x:VX):List Id:=
 match qco rx x,x.get rv with
 |some a,some v=>a.own v
 |_,_=>[]
theorem qmq(rx rv:List (Nat×AV))(n:Nat):qfQ rx rv (.t n)=qcK rx rv n:=rfl
theorem qz8(rx rv:List (Nat×AV))(v:AV):qfQ rx rv (.c v)=[]:=by
 cases v with
 |d v=>simp[qfQ,qco,VX.get,AV.own,DV.qGf]
 |_=>simp only[qfQ,qco,VX.get,AV.qbH]
theorem qca{rx rv:List (Nat×AV)}{x:VX}{a v:AV}(h1:qco rx x=some a)(h2:x.get rv=some v):qfQ rx rv x=a.own v:=by
 simp[qfQ,h1,h2]
theorem Rel.qdY(h:Rel A0 T F p k sx sv){x:VX}{a:Id}(ha:a∈qfQ sx.r sv.r x):∃n,x= .t n/\T.contains n=true/\a∈qcK sx.r sv.r n:=by
 cases x with
 |c v=>rw[qz8]at ha;simp at ha
 |t n=>
  rw[qmq]at ha;refine⟨n,rfl,?_,ha⟩;cases hn:T.contains n with
  |true=>rfl
  |false=>rw[h.nl n hn]at ha;simp at ha
theorem qN9(r:List (Nat×AV))(x:VX)(t:Nat):lk (qeV T r x) t=if x= .t t/\T.contains t=true then(lk r t).map AV.clr else lk r t:=by
 cases x with
 |c v=>simp[qeV]
 |t n=>
  simp only[qeV]
  by_cases hn:T.contains n=true
  ·simp only[hn,if_true]
   cases hl:lk r n with
   |none=>
    by_cases ht:n=t
    ·subst ht;simp[hl]
    ·simp[ht]
   |some v=>
    simp only[lk_cons']
    by_cases ht:t=n
    ·subst ht;have hn':t∈T:=by simpa using hn
     simp[hn',hl]
    ·have:¬n=t:=fun h=>ht h.symm
     simp[ht,this]
  ·have hn':T.contains n=false:=by simpa using hn
   simp only[hn',Bool.false_eq_true,if_false]
   by_cases ht:n=t
   ·subst ht;have hn'':¬n∈T:=by simpa using hn
    simp[hn'']
   ·simp[ht]
where lk_cons' {t:Nat} {v:AV} {r:List (Nat×AV)} {n:Nat}:lk ((t,v)::r) n=if n=t then some v else lk r n:=rfl
theorem qjQ:∀(xs:List VX) (r:List (Nat×AV)) (t:Nat),lk (qb2 T r xs) t=if VX.t t∈xs/\T.contains t=true then(lk r t).map AV.clr else lk r t
 | [],r,t=>by simp[qb2]
 |x::xs,r,t=>by
  simp only[qb2];rw[qjQ xs,qN9]
  by_cases ht:T.contains t=true
  ·have ht':t∈T:=by simpa using ht
   by_cases h1:VX.t t∈xs
   ·by_cases h2:x= .t t
    ·subst h2
     simp only[h1,ht,and_self,if_true,List.mem_cons,true_or,Option.map_map]
     congr 1;funext v;exact AV.qg5 v
    ·have h3:VX.t t≠x:=fun h=>h2 h.symm
     simp[h1,h2,ht',h3]
   ·by_cases h2:x= .t t
    ·subst h2;simp[h1,ht']
    ·have h3:VX.t t≠x:=fun h=>h2 h.symm
     simp[h1,h2,h3]
  ·have ht':¬t∈T:=by simpa using ht
   simp[ht']
theorem qb4(xs:List VX)(r rv:List (Nat×AV))(t:Nat):qcK (qb2 T r xs) rv t=if VX.t t∈xs/\T.contains t=true then []else qcK r rv t:=by
 unfold qcK;rw[qjQ]
 by_cases hc:VX.t t∈xs/\T.contains t=true
 ·rw[if_pos hc,if_pos hc]
  cases lk r t with
  |none=>rfl
  |some v=>cases lk rv t with
   |none=>rfl
   |some u=>simp[AV.qbH]
 ·rw[if_neg hc,if_neg hc]
theorem Rel.drops(h:Rel A0 T F p k sx sv)(xs:List VX):Rel A0 T F p k ⟨qb2 T sx.r xs,sx.B⟩ sv:=by
 refine⟨fun t x hx=> ?_,h.boxes,h.held.shrink (fun ℓ=> ?_) (fun a ha _=>ha) (fun _ hf=>hf),fun t ht=> ?_,fun t ht=> ?_,h.am⟩
 ·simp only at hx
  rw[qjQ]at hx;split at hx
  ·obtain⟨y,h1,rfl⟩:=ya_.1 hx
   obtain⟨v,h2,h3⟩:=h.regs t y h1;exact⟨v,h2,AV.qcg _ _ h3⟩
  ·exact h.regs t x hx
 ·cases ℓ with
  |reg t=>simp only[qaj,qb4];split<;>simp
  |box i=>simp[qaj]
 ·simp only[qb4];split
  ·rfl
  ·exact h.nl t ht
 ·simp only at ht
  rw[qjQ]at ht;split at ht
  ·exact h.no t (by simpa using ht)
  ·exact h.no t ht
theorem Rel.next(h:Rel A0 T F p k sx sv){k':Nat}(hk:k<=k'):Rel A0 T F p k' sx sv:=
 ⟨h.regs,h.boxes,h.held.shrink (fun _=>List.Sublist.refl _) (fun a ha _=>ha) (fun _ hf=>hf.le hk),h.nl,h.no,fun a ha=>⟨fun hf=>(h.am a ha).1 (hf.le hk),(h.am a ha).2⟩⟩
theorem Rel.put(h:Rel A0 T F p k sx sv)(dst:Option Nat){a v:AV}(hf:a.fit v){A':Ids}{k':Nat}(hk:k<=k')
 (hown:qcJ T dst=true->(a.own v).Nodup/\∀i,i∈a.own v->A' i=true/\¬F i/\¬Fut p k' i/\∀ℓ,ℓ≠Loc.reg (dst.getD 0)->i∉qaj sx.r sx.B sv.r sv.B ℓ)
 (hA:∀i,sv.A i=true->(F i\/∃ℓ,i∈qaj sx.r sx.B sv.r sv.B ℓ)->A' i=true) (hAm:∀a,A' a=true->sv.A a=true\/(Fut p 0 a/\¬Fut p k' a)) (c':Nat):
 Rel A0 T F p k' (qbI T sx dst a) {(St.put {sv with A:=A'} dst v)with c:=c'}:=by
 have ham:∀a,A' a=true->¬Fut p k' a/\(A0 a=true\/Fut p 0 a):=fun a ha=>by
  rcases hAm a ha with h1|⟨h1,h2⟩
  ·exact⟨fun hf=>(h.am a h1).1 (hf.le hk),(h.am a h1).2⟩
  ·exact⟨h2,.inr h1⟩
 cases dst with
 |none=>
  exact⟨h.regs,h.boxes,h.held.shrink (fun _=>List.Sublist.refl _) (fun i hi hx=>hA i hi hx) (fun _ hf=>hf.le hk),h.nl,h.no,ham⟩
 |some d=>
  have hr:∀t,t≠d->qcK (qbI T sx (some d) a).r ((d,v)::sv.r) t=qcK sx.r sv.r t:=by
   intro t ht;simp only[qcK,qbI,lk];rw[if_neg ht,if_neg ht]
  have hd:qcK (qbI T sx (some d) a).r ((d,v)::sv.r) d=if T.contains d=true then a.own v else []:=by
   simp only[qcK,qbI,lk,if_true];split
   ·rfl
   ·exact AV.qbH _ _
  refine⟨fun t x hx=> ?_,h.boxes,?_,fun t ht=> ?_,fun t ht=> ?_,ham⟩
  ·simp only[qbI,lk]at hx
   simp only[St.put,lk];split at hx
   ·rename_i he
    rw[if_pos he];simp at hx;refine⟨v,rfl,?_⟩;split at hx
    ·subst hx;exact hf
    ·subst hx;exact AV.qcg _ _ hf
   ·rename_i he
    rw[if_neg he];exact h.regs t x hx
  ·simp only[St.put]
   by_cases hT:T.contains d=true
   ·obtain⟨h1,h2⟩:=hown hT
    refine h.held.set (Loc.reg d) (fun ℓ hℓ=> ?_) (by simp only[qaj,hd,hT,if_true];exact h1) (fun i hi=> ?_) (fun ℓ hℓ i hi=> ?_) (fun i hi=>hA i (h.held.fr i hi).1 (.inl hi)) (fun _ hf=>hf.le hk)
    ·cases ℓ with
     |reg t=>simp only[qaj];rw[hr t (fun he=>hℓ (by rw[he]))];exact List.Sublist.refl _
     |box i=>exact List.Sublist.refl _
    ·simp only[qaj,hd,hT,if_true]at hi
     obtain⟨q1,q2,q3,q4⟩:=h2 i hi;refine⟨q1,q2,q3,fun ℓ hℓ=> ?_⟩;have:=q4 ℓ (by simpa using hℓ);cases ℓ with
     |reg t=>simp only[qaj]at this⊢;rw[hr t (fun he=>hℓ (by rw[he]))];exact this
     |box i=>exact this
    ·have:i∈qaj sx.r sx.B sv.r sv.B ℓ:=by
      cases ℓ with
      |reg t=>simp only[qaj]at hi⊢;rw[hr t (fun he=>hℓ (by rw[he]))]at hi;exact hi
      |box i=>exact hi
     exact hA i (h.held.opn ℓ i this).1 (.inr ⟨ℓ,this⟩)
   ·refine h.held.shrink (fun ℓ=> ?_) (fun i hi hx=>hA i hi ?_) (fun _ hf=>hf.le hk)
    ·cases ℓ with
     |reg t=>
      simp only[qaj]
      by_cases ht:t=d
      ·subst ht;rw[hd,if_neg hT];simp
      ·rw[hr t ht];exact List.Sublist.refl _
     |box i=>exact List.Sublist.refl _
    ·rcases hx with hx|⟨ℓ,hx⟩
     ·exact .inl hx
     ·refine .inr ⟨ℓ,?_⟩
      cases ℓ with
      |reg t=>
       simp only[qaj]at hx⊢
       by_cases ht:t=d
       ·subst ht;rw[hd,if_neg hT]at hx;simp at hx
       ·rw[hr t ht]at hx;exact hx
      |box i=>exact hx
  ·simp only[St.put]
   by_cases he:t=d
   ·subst he;rw[hd,if_neg (by rw[ht];simp)]
   ·rw[hr t he];exact h.nl t ht
  ·simp only[qbI,lk]at ht
   simp only[St.put,lk];split at ht
   ·simp at ht
   ·rename_i he;rw[if_neg he];exact h.no t ht
theorem Rel.put0(h:Rel A0 T F p k sx sv)(dst:Option Nat){a v:AV}(hf:a.fit v)(h0:a.own v=[]){k':Nat}(hk:k<=k')(c':Nat):Rel A0 T F p k' (qbI T sx dst a) {(sv.put dst v)with c:=c'}:=
 h.put dst hf hk (fun _=>by rw[h0];simp) (fun i hi _=>hi) (fun _ hi=> .inl hi) c'
end
theorem qbZ{T:List Nat}{x:VX}{xs:List VX}(h:qat T (x::xs)=true):(∀n,x= .t n->T.contains n=true->VX.t n∉xs)/\qat T xs=true:=by
 simp only[qat,Bool.and_eq_true,List.all_eq_true,Bool.not_eq_true',List.any_eq_false]at h;refine⟨?_,h.2⟩
 rintro n rfl hn hm
 have h1:=h.1 n (by simp only[VX.linT,hn,if_true];simp);have:=h1 (.t n) hm;simp only[VX.linT,hn,if_true]at this;simp at this
section
variable {A0:Ids} {T:List Nat} {F:Id->Prop} {p:Id} {k:Nat} {sx:XS} {sv:St}
theorem Rel.qeO(h:Rel A0 T F p k sx sv){x y:VX}(hd:∀n,x= .t n->T.contains n=true->y≠.t n){a:Id}(ha:a∈qfQ sx.r sv.r x):a∉qfQ sx.r sv.r y:=by
 intro hb;obtain⟨n,rfl,hn,ha'⟩:=h.qdY ha;obtain⟨m,rfl,hm,hb'⟩:=h.qdY hb;have:=h.held.apart (.reg n) (.reg m) a ha' hb';simp at this;exact hd n rfl hn (by rw[this])
theorem Rel.qbp(h:Rel A0 T F p k sx sv)(x:VX):(qfQ sx.r sv.r x).Nodup:=by
 cases x with
 |c v=>rw[qz8];simp
 |t n=>rw[qmq];exact h.held.nodup (.reg n)
theorem Rel.qdA(h:Rel A0 T F p k sx sv){xs:List VX}{x:VX}(hx:x∈xs){a:Id}(ha:a∈qfQ sx.r sv.r x)(ℓ:Loc):a∉qaj (qb2 T sx.r xs) sx.B sv.r sv.B ℓ:=by
 obtain⟨n,rfl,hn,ha'⟩:=h.qdY ha;intro hm;have hsub:a∈qaj sx.r sx.B sv.r sv.B ℓ:=by
  cases ℓ with
  |reg t=>simp only[qaj,qb4]at hm⊢;split at hm<;>first|(simp at hm;done)|exact hm
  |box i=>exact hm
 have:=h.held.apart (.reg n) ℓ a ha' hsub;subst this;simp only[qaj,qb4]at hm;rw[if_pos ⟨hx,hn⟩]at hm;simp at hm
theorem Rel.qcR(h:Rel A0 T F p k sx sv){x:VX}{a:Id}(ha:a∈qfQ sx.r sv.r x):sv.A a=true/\¬F a/\¬Fut p k a:=by
 obtain⟨n,rfl,hn,ha'⟩:=h.qdY ha;exact h.held.opn (.reg n) a ha'
theorem qxc{dst:Option Nat}(hl:qcJ T dst=true)(s:XS)(xs:List VX):qed T dst s xs=⟨qb2 T s.r xs,s.B⟩:=by simp[qed,hl]
theorem qxb{dst:Option Nat}(hl:qcJ T dst=false)(s:XS)(xs:List VX):qed T dst s xs=s:=by simp[qed,hl]
theorem Rel.give(h:Rel A0 T F p k sx sv)(dst:Option Nat)(xs:List VX){a v:AV}(hf:a.fit v)(hnd:(a.own v).Nodup)(hin:∀i,i∈a.own v->∃x,x∈xs/\i∈qfQ sx.r sv.r x){k':Nat}(hk:k<=k')(c':Nat):
 Rel A0 T F p k' (qbI T (qed T dst sx xs) dst a) {(sv.put dst v)with c:=c'}:=by
 cases hl:qcJ T dst with
 |false=>
  rw[qxb hl];exact h.put dst hf hk (fun h'=>by rw[hl]at h';simp at h') (fun i hi _=>hi) (fun _ hi=> .inl hi) c'
 |true=>
  rw[qxc hl];refine(h.drops xs).put dst hf hk (fun _=>⟨hnd,fun i hi=> ?_⟩) (fun i hi _=>hi) (fun _ hi=> .inl hi) c';obtain⟨x,hx,hix⟩:=hin i hi;obtain⟨q1,q2,q3⟩:=h.qcR hix;exact⟨q1,q2,fun hf=>q3 (hf.le hk),fun ℓ _=>h.qdA hx hix ℓ⟩
theorem qsu{a b c d:List DV}(h1:DV.fits a c)(h2:DV.fits b d)(off:Nat):DV.fits (splice a off b) (splice c off d):=by
 unfold splice;rw[<-DV.qan h2];exact DV.qaZ (DV.qaZ (DV.qbl h1 _) h2) (DV.qbs h1 _)
theorem qi5{a b c d:List AV}(h1:AV.fits a c)(h2:AV.fits b d)(off:Nat):AV.fits (splice a off b) (splice c off d):=by
 unfold splice;rw[<-AV.qan h2];exact AV.qaZ (AV.qaZ (AV.qbl h1 _) h2) (AV.qbs h1 _)
theorem qst{a b c d:List DV}(h1:DV.fits a c)(h2:DV.fits b d)(off:Nat):DV.owns (splice a off b) (splice c off d)=DV.owns (a.take off) (c.take off)++DV.owns b d++DV.owns (a.drop (off+b.length)) (c.drop (off+b.length)):=by
 unfold splice;have l1:=DV.qan h1;have l2:=DV.qan h2;rw[<-l2,DV.qaY (by simp[l1,l2]),DV.qaY (by simp[l1])]
theorem qi4{a b c d:List AV}(h1:AV.fits a c)(h2:AV.fits b d)(off:Nat):AV.owns (splice a off b) (splice c off d)=AV.owns (a.take off) (c.take off)++AV.owns b d++AV.owns (a.drop (off+b.length)) (c.drop (off+b.length)):=by
 unfold splice;have l1:=AV.qan h1;have l2:=AV.qan h2;rw[<-l2,AV.qaY (by simp[l1,l2]),AV.qaY (by simp[l1])]
theorem qxj{a c:List DV}(h:a.length=c.length)(off m:Nat):(DV.owns (a.take off) (c.take off)++DV.owns (a.drop (off+m)) (c.drop (off+m))).Sublist (DV.owns a c):=by
 rw[DV.qb7 h off];refine List.Sublist.append (List.Sublist.refl _) ?_;rw[DV.qb7 (a:=a.drop off) (c:=c.drop off) (by simp[h]) m,List.drop_drop,List.drop_drop];exact List.sublist_append_right _ _
theorem qri{a c:List AV}(h:a.length=c.length)(off m:Nat):(AV.owns (a.take off) (c.take off)++AV.owns (a.drop (off+m)) (c.drop (off+m))).Sublist (AV.owns a c):=by
 rw[AV.qb7 h off];refine List.Sublist.append (List.Sublist.refl _) ?_;rw[AV.qb7 (a:=a.drop off) (c:=c.drop off) (by simp[h]) m,List.drop_drop,List.drop_drop];exact List.sublist_append_right _ _
theorem qlq{α:Type}{l1 m l2 w:List α}(hs:(l1++l2).Sublist w)(hw:w.Nodup)(hm:m.Nodup)(hd:∀a,a∈m->a∉w):(l1++m++l2).Nodup:=by
 have h1:=hw.sublist hs;rw[List.nodup_append]at h1;obtain⟨h2,h3,h4⟩:=h1;have hl1:∀a,a∈l1->a∈w:=fun a ha=>hs.subset (by simp[ha])
 have hl2:∀a,a∈l2->a∈w:=fun a ha=>hs.subset (by simp[ha])
 rw[List.nodup_append];refine⟨?_,h3,?_⟩
 ·rw[List.nodup_append]
  exact⟨h2,hm,fun a ha b hb he=>hd b hb (by rw[<-he];exact hl1 a ha)⟩
 ·intro a ha b hb he
  rcases List.mem_append.1 ha with h|h
  ·exact h4 a h b hb he
  ·exact hd a h (by rw[he];exact hl2 b hb)
theorem qgH(h:Rel A0 T F p k sx sv):∀(ps:List (Nat×Nat×VX)) (cs ds cs':List DV),qat T (ps.map fun q=>q.2.2)=true->qaI (qco sx.r) cs ps=some cs'->DV.fits cs ds->(DV.owns cs ds).Nodup->
 (∀a,a∈DV.owns cs ds->∀x,x∈ps.map (fun q=>q.2.2)->a∉qfQ sx.r sv.r x)->
 ∃ds',qaI (VX.get sv.r) ds ps=some ds'/\DV.fits cs' ds'/\(DV.owns cs' ds').Nodup/\∀a,a∈DV.owns cs' ds'->a∈DV.owns cs ds\/∃x,x∈ps.map (fun q=>q.2.2)/\a∈qfQ sx.r sv.r x
 | [],cs,ds,cs',_,hb,hf,hn,_=>by simp[qaI]at hb;subst hb;exact⟨ds,rfl,hf,hn,fun a ha=> .inl ha⟩
 |(off,size,x)::ps,cs,ds,cs',hd,hb,hf,hn,hap=>by
  simp only[List.map_cons]at hd hap;obtain⟨hd1,hd2⟩:=qbZ hd;simp only[qaI]at hb;split at hb
  ·rename_i v hv
   split at hb
   ·rename_i hc
    obtain⟨c1,c2,c3⟩:=hc;obtain⟨u,hu,hfu⟩:=h.get hv;simp only[AV.fit]at hfu;obtain⟨y,rfl,hfy⟩:=hfu;have hcf:=DV.qbt hfy;have hox:qfQ sx.r sv.r x=v.own y:=by rw[qca hv hu];rfl
    have hvo:(DV.owns v.cells y.cells)=qfQ sx.r sv.r x:=by rw[DV.qdB hfy,hox]
    have hf2:=qsu hf hcf off;have hown:=qst hf hcf off;have hes:=qxj (DV.qan hf) off v.cells.length;have hn2:(DV.owns (splice cs off v.cells) (splice ds off y.cells)).Nodup:=by
     rw[hown];exact qlq hes hn (by rw[hvo];exact h.qbp x) (fun a ha hm=>hap a hm x (by simp) (by rw[<-hvo];exact ha))
    have hmem:∀a,a∈DV.owns (splice cs off v.cells) (splice ds off y.cells)->a∈DV.owns cs ds\/a∈qfQ sx.r sv.r x:=by
     intro a ha;rw[hown]at ha;simp only[List.mem_append]at ha;rcases ha with(ha|ha)|ha
     ·exact .inl (hes.subset (by simp[ha]))
     ·exact .inr (by rw[<-hvo];exact ha)
     ·exact .inl (hes.subset (by simp[ha]))
    obtain⟨ds',e1,e2,e3,e4⟩:=qgH h ps _ _ cs' hd2 hb hf2 hn2 (fun a ha z hz=>by
     rcases hmem a ha with h1|h1
     ·exact hap a h1 z (by simp[hz])
     ·refine h.qeO (fun n hx hn he=> ?_) h1
      subst he;exact hd1 n hx hn hz)
    refine⟨ds',?_,e2,e3,fun a ha=> ?_⟩
    ·simp only[qaI,hu]
     rw[if_pos ⟨by rw[DV.qbK hfy];exact c1,by rw[<-DV.qan hf];exact c2,by rw[DV.qcf hcf];exact c3⟩];exact e1
    ·rcases e4 a ha with h1|⟨z,hz,h1⟩
     ·rcases hmem a h1 with h2|h2
      ·exact .inl h2
      ·exact .inr ⟨x,by simp,h2⟩
     ·exact .inr ⟨z,by simp only[List.map_cons,List.mem_cons];exact .inr hz,h1⟩
   ·simp at hb
  ·simp at hb
theorem qjK{a c:List DV}(h:DV.fits a c){i:Nat}{x y:DV}(hx:x.fit y):DV.fits (a.set i x) (c.set i y):=by
 rw[DV.qbE]at h⊢
 refine⟨by simp[h.1],fun j u v hu hv=> ?_⟩
 by_cases hj:i=j
 ·subst hj
  rw[List.getElem?_set_self']at hu hv;cases ha:a[i]?<;>cases hc:c[i]?<;>simp[ha,hc]at hu hv
  subst hu;subst hv;exact hx
 ·rw[List.getElem?_set_ne hj]at hu hv;exact h.2 j u v hu hv
theorem qe3{a c:List DV}(h:DV.fits a c){i:Nat}(hi:i<a.length)(x y:DV):DV.owns (a.set i x) (c.set i y)=DV.owns (a.take i) (c.take i)++x.own y++DV.owns (a.drop (i+1)) (c.drop (i+1)):=by
 have hl:=DV.qan h;have e1:∀(l:List DV) (z:DV),i<l.length->l.set i z=l.take i++z::l.drop (i+1):=fun l z hl=>by
  rw[List.set_eq_take_append_cons_drop,if_pos hl]
 rw[e1 a x hi,e1 c y (by omega),DV.qaY (by simp[hl])];simp[DV.owns,yh_]
theorem qjv(h:Rel A0 T F p k sx sv)(sz:Nat):∀(ps:List (Nat×VX)) (cs ds cs':List DV),qat T (ps.map fun q=>q.2)=true->qaX (qco sx.r) sz cs ps=some cs'->DV.fits cs ds->(∀e:DV,e∈ds->e.cells.length=sz)->(DV.owns cs ds).Nodup->
 (∀a,a∈DV.owns cs ds->∀x,x∈ps.map (fun q=>q.2)->a∉qfQ sx.r sv.r x)->
 ∃ds',qaX (VX.get sv.r) sz ds ps=some ds'/\DV.fits cs' ds'/\(∀e:DV,e∈ds'->e.cells.length=sz)/\(DV.owns cs' ds').Nodup/\∀a,a∈DV.owns cs' ds'->a∈DV.owns cs ds\/∃x,x∈ps.map (fun q=>q.2)/\a∈qfQ sx.r sv.r x
 | [],cs,ds,cs',_,hb,hf,hz,hn,_=>by simp[qaX]at hb;subst hb;exact⟨ds,rfl,hf,hz,hn,fun a ha=> .inl ha⟩
 |(i,x)::ps,cs,ds,cs',hd,hb,hf,hz,hn,hap=>by
  simp only[List.map_cons]at hd hap;obtain⟨hd1,hd2⟩:=qbZ hd;simp only[qaX]at hb;split at hb
  ·rename_i v hv
   split at hb
   ·rename_i hc
    obtain⟨c1,c2,c3⟩:=hc;obtain⟨u,hu,hfu⟩:=h.get hv;simp only[AV.fit]at hfu;obtain⟨y,rfl,hfy⟩:=hfu;have hcf:=DV.qbt hfy;have hox:qfQ sx.r sv.r x=v.own y:=by rw[qca hv hu];rfl
    have hf2:=qjK hf (i:=i) hfy;have hown:=qe3 hf c2 v y;have hes:=qxj (DV.qan hf) i 1;have hz2:∀e:DV,e∈ds.set i y->e.cells.length=sz:=by
     intro e he;rcases List.mem_or_eq_of_mem_set he with h1|h1
     ·exact hz e h1
     ·subst h1;rw[DV.qbK hfy];exact c1
    have hn2:(DV.owns (cs.set i v) (ds.set i y)).Nodup:=by
     rw[hown];exact qlq hes hn (by rw[<-hox];exact h.qbp x) (fun a ha hm=>hap a hm x (by simp) (by rw[hox];exact ha))
    have hmem:∀a,a∈DV.owns (cs.set i v) (ds.set i y)->a∈DV.owns cs ds\/a∈qfQ sx.r sv.r x:=by
     intro a ha;rw[hown]at ha;simp only[List.mem_append]at ha;rcases ha with(ha|ha)|ha
     ·exact .inl (hes.subset (by simp[ha]))
     ·exact .inr (by rw[hox];exact ha)
     ·exact .inl (hes.subset (by simp[ha]))
    obtain⟨ds',e1,e2,e0,e3,e4⟩:=qjv h sz ps _ _ cs' hd2 hb hf2 hz2 hn2 (fun a ha z hz=>by
     rcases hmem a ha with h1|h1
     ·exact hap a h1 z (by simp[hz])
     ·refine h.qeO (fun n hx hn he=> ?_) h1
      subst he;exact hd1 n hx hn hz)
    refine⟨ds',?_,e2,e0,e3,fun a ha=> ?_⟩
    ·simp only[qaX,hu]
     rw[if_pos ⟨by rw[DV.qbK hfy];exact c1,by rw[<-DV.qan hf];exact c2,by rw[DV.qcf hcf];exact c3⟩];exact e1
    ·rcases e4 a ha with h1|⟨z,hz,h1⟩
     ·rcases hmem a h1 with h2|h2
      ·exact .inl h2
      ·exact .inr ⟨x,by simp,h2⟩
     ·exact .inr ⟨z,by simp only[List.map_cons,List.mem_cons];exact .inr hz,h1⟩
   ·simp at hb
  ·simp at hb
theorem Rel.box(h:Rel A0 T F p k sx sv)(xs:List VX)(i:Nat){cs ds:List AV}(hf:AV.fits cs ds)(hi:i<sx.B.length)(hnd:(AV.owns cs ds).Nodup)
 (hin:∀a,a∈AV.owns cs ds->a∈qcX sx.B sv.B i\/∃x,x∈xs/\a∈qfQ sx.r sv.r x):
 Rel A0 T F p k ⟨qb2 T sx.r xs,sx.B.set i (some cs)⟩ {sv with B:=sv.B.set i (some ds)}:=by
 have hi':i<sv.B.length:=by rw[<-h.boxes.1];exact hi
 have hb:∀j,j≠i->qcX (sx.B.set i (some cs)) (sv.B.set i (some ds)) j=qcX sx.B sv.B j:=fun j hj=>qul (fun he=>hj he.symm)
 have hself:qcX (sx.B.set i (some cs)) (sv.B.set i (some ds)) i=AV.owns cs ds:=qo9 hi hi';refine⟨(h.drops xs).regs,h.boxes.set i hf,?_,(h.drops xs).nl,(h.drops xs).no,h.am⟩;refine h.held.set (Loc.box i) (fun ℓ hℓ=> ?_) (by simp only[qaj,hself];exact hnd) (fun a ha=> ?_) (fun ℓ hℓ a ha=> ?_) (fun a ha=>(h.held.fr a ha).1) (fun _ hf=>hf)
 ·cases ℓ with
  |reg t=>simp only[qaj,qb4];split<;>simp
  |box j=>simp only[qaj];rw[hb j (fun he=>hℓ (by rw[he]))];exact List.Sublist.refl _
 ·simp only[qaj,hself]at ha
  have gone:∀ℓ,ℓ≠Loc.box i->a∉qaj (qb2 T sx.r xs) sx.B sv.r sv.B ℓ->a∉qaj (qb2 T sx.r xs) (sx.B.set i (some cs)) sv.r (sv.B.set i (some ds)) ℓ:=by
   intro ℓ hℓ hn;cases ℓ with
   |reg t=>exact hn
   |box j=>simp only[qaj]at hn⊢;rw[hb j (fun he=>hℓ (by rw[he]))];exact hn
  rcases hin a ha with h1|⟨x,hx,h1⟩
  ·obtain⟨q1,q2,q3⟩:=h.held.opn (.box i) a h1
   refine⟨q1,q2,q3,fun ℓ hℓ=>gone ℓ hℓ fun hm=>hℓ ?_⟩;refine(h.held.apart (.box i) ℓ a h1 ?_).symm;cases ℓ with
   |reg t=>simp only[qaj,qb4]at hm⊢;split at hm<;>first|(simp at hm;done)|exact hm
   |box j=>exact hm
  ·obtain⟨q1,q2,q3⟩:=h.qcR h1
   exact⟨q1,q2,q3,fun ℓ hℓ=>gone ℓ hℓ (h.qdA hx h1 ℓ)⟩
 ·have:a∈qaj sx.r sx.B sv.r sv.B ℓ:=by
   cases ℓ with
   |reg t=>simp only[qaj,qb4]at ha⊢;split at ha<;>first|(simp at ha;done)|exact ha
   |box j=>simp only[qaj]at ha⊢;rw[hb j (fun he=>hℓ (by rw[he]))]at ha;exact ha
  exact(h.held.opn ℓ a this).1
end
def qde(X:qaB)(V:qaz)(lin:Nat->List Nat):Prop:=
 ∀f xs B v' B',X f xs B=some (v',B')->∀p vs Bv A F,AV.fits xs vs->qbS B Bv->Held F (Fut p 0) A (qaj (qao 0 xs) B (qao 0 vs) Bv)->
  (∀j,(lin f).contains j=false->qcK (qao 0 xs) (qao 0 vs) j=[])->(∀a,A a=true->¬Fut p 0 a)->
  ∃v Bv' A',V p f vs Bv A=some ⟨v,A',Bv'⟩/\v'.fit v/\qbS B' Bv'/\Held F (fun _=>False) A' (qaj [(0,v')] B' [(0,v)] Bv')/\
   ∀a,A' a=true->A a=true\/Fut p 0 a
theorem qgU:∀(args:List AV) (i t:Nat),lk (qao i args) t=if i<=t then args[t-i]? else none
 | [],i,t=>by simp[qao,lk]
 |x::xs,i,t=>by
  simp only[qao,lk]
  by_cases ht:t=i
  ·subst ht;simp
  ·rw[if_neg ht,qgU xs]
   by_cases h1:i+1<=t
   ·rw[if_pos h1,if_pos (by omega),show t-i=(t-(i+1))+1 by omega];simp
   ·rw[if_neg h1,if_neg (by omega)]
theorem qeA(xs vs:List AV)(t:Nat):qcK (qao 0 xs) (qao 0 vs) t=match xs[t]?,vs[t]? with|some x,some v=>x.own v|_,_=>[]:=by
 unfold qcK;rw[qgU,qgU];simp only[Nat.zero_le,if_true,Nat.sub_zero]
 all_goals (cases xs[t]?<;>cases vs[t]?<;>rfl)
theorem qdb{xs:List AV}{ds:List DV}(h:qaG xs=some ds){vs:List AV}(hf:AV.fits xs vs):∃es,qaG vs=some es/\DV.fits ds es/\AV.owns xs vs=DV.owns ds es:=by
 induction xs generalizing ds vs with
 |nil=>simp[qaG]at h;subst h;simp only[AV.fits]at hf;subst hf;exact⟨[],rfl,by simp[DV.fits],by simp[AV.owns,DV.owns]⟩
 |cons x xs ih=>
  cases x with
  |d d=>
   simp only[qaG]at h;obtain⟨ds',h1,rfl⟩:=ya_.1 h;simp only[AV.fits]at hf;obtain⟨v,r,rfl,h2,h3⟩:=hf;simp only[AV.fit]at h2;obtain⟨y,rfl,h4⟩:=h2;obtain⟨es,h5,h6,h7⟩:=ih h1 h3;exact⟨y::es,by simp[qaG,h5],by simp only[DV.fits];exact⟨_,_,rfl,h4,h6⟩,by simp[AV.owns,DV.owns,AV.own,h7]⟩
  |_=>simp[qaG]at h
theorem qoS{A0:Ids}{T:List Nat}{F:Id->Prop}{p:Id}{k:Nat}{sx:XS}{sv:St}(h:Rel A0 T F p k sx sv):∀{xs:List VX} {as:List AV},qfR sx.r xs=some as->∃vs,qgE sv.r xs=some vs/\AV.fits as vs/\as.length=xs.length/\
 ∀(j:Nat) (a v:AV) (x:VX),as[j]?=some a->vs[j]?=some v->xs[j]?=some x->a.own v=qfQ sx.r sv.r x
 | [],as,hx=>by simp[qfR]at hx;subst hx;exact⟨[],rfl,by simp[AV.fits],rfl,by simp⟩
 |x::xs,as,hx=>by
  simp only[qfR]at hx;obtain⟨a,h1,h2⟩:=yb_.1 hx;obtain⟨as',h3,rfl⟩:=ya_.1 h2;obtain⟨v,h4,h5⟩:=h.get h1;obtain⟨vs,h6,h7,h8,h9⟩:=qoS h h3;refine⟨v::vs,by simp[qgE,h4,h6],by simp only[AV.fits];exact⟨_,_,rfl,h5,h7⟩,by simp[h8],fun j b u y hb hu hy=> ?_⟩;cases j with
  |zero=>simp at hb hu hy;subst hb;subst hu;subst hy;exact(qca h1 h4).symm
  |succ j=>simp at hb hu hy;exact h9 j b u y hb hu hy
theorem qou(LP:List Nat):∀(vs:List AV) (j:Nat),(qcr LP j vs).length=vs.length
 | [],j=>rfl
 |v::r,j=>by simp[qcr,qou LP r]
theorem qhA(LP:List Nat):∀(vs:List AV) (j i:Nat),(qcr LP j vs)[i]?=(vs[i]?).map fun v=>if LP.contains (j+i)then v else v.clr
 | [],j,i=>by simp[qcr]
 |v::r,j,i=>by
  cases i with
  |zero=>simp[qcr]
  |succ i=>simp only[qcr,List.getElem?_cons_succ];rw[qhA LP r];congr 1;funext v;rw[show j+1+i=j+(i+1)by omega]
theorem qlk{LP:List Nat}{as vs:List AV}(h:AV.fits as vs)(j:Nat):AV.fits (qcr LP j as) vs:=by
 rw[AV.qbE]at h⊢
 refine⟨by rw[qou];exact h.1,fun i x v hx hv=> ?_⟩;rw[qhA]at hx;obtain⟨y,h1,rfl⟩:=ya_.1 hx;have:=h.2 i y v h1 hv;split
 ·exact this
 ·exact AV.qcg _ _ this
theorem qiC(LP:List Nat):∀(xs:List VX) (j i:Nat) (x:VX),xs[i]?=some x->LP.contains (j+i)=true->x∈qbh LP j xs
 | [],j,i,x,h,_=>by simp at h
 |y::r,j,i,x,h,hc=>by
  cases i with
  |zero=>simp at h hc;subst h;simp[qbh,hc]
  |succ i=>
   simp at h;have:=qiC LP r (j+1) i x h (by rw[show j+1+i=j+(i+1)by omega];exact hc);simp only[qbh];split
   ·exact List.mem_cons_of_mem _ this
   ·exact this
theorem qf3{T LP:List Nat}:∀(xs:List VX) (j i i':Nat) (x x':VX),qat T (qbh LP j xs)=true->xs[i]?=some x->xs[i']?=some x'->LP.contains (j+i)=true->LP.contains (j+i')=true->i<i'->∀n,x= .t n->T.contains n=true->x'≠.t n
 | [],j,i,i',x,x',_,h,_,_,_,_=>by simp at h
 |y::r,j,i,i',x,x',hd,h,h',hc,hc',hlt=>by
  intro n hx hn he;obtain⟨i',rfl⟩:∃m,i'=m+1:=⟨i'-1,by omega⟩;simp at h';cases i with
  |zero=>
   simp at h hc;subst h
   have hc2:LP.contains j=true:=by simpa using hc
   simp only[qbh,hc2,if_true]at hd;obtain⟨h1,_⟩:=qbZ hd;refine h1 n hx hn ?_;rw[<-he];exact qiC LP r (j+1) i' x' h' (by rw[show j+1+i'=j+(i'+1)by omega];exact hc')
  |succ i=>
   simp at h;have hd':qat T (qbh LP (j+1) r)=true:=by
    simp only[qbh]at hd;split at hd
    ·exact(qbZ hd).2
    ·exact hd
   exact qf3 r (j+1) i i' x x' hd' h h' (by rw[show j+1+i=j+(i+1)by omega];exact hc) (by rw[show j+1+i'=j+(i'+1)by omega];exact hc') (by omega) n hx hn he
section
variable {A0:Ids} {T:List Nat} {F:Id->Prop} {p:Id} {k:Nat} {sx sx':XS} {sv:St} {X:qaB} {V:qaz} {lin:Nat->List Nat} {draw:Bool} {L0 i:Nat} {o:VOper}
theorem qm4{x v:AV}(h:x.fit v):v.plainT=x.plainT/\(x.plainT=true->x.own v=[]):=by
 cases x<;>simp only[AV.fit]at h
 case d x=>
  obtain⟨y,rfl,h1⟩:=h;cases x<;>simp only[DV.fit]at h1
  case sl g xs=>
   obtain⟨g',ys,rfl,h2,_⟩:=h1;cases xs with
   |nil=>simp only[DV.fits]at h2;subst h2;exact⟨rfl,fun _=>by simp[AV.own,DV.own,DV.owns]⟩
   |cons a r=>simp only[DV.fits]at h2;obtain⟨_,_,rfl,_⟩:=h2;exact⟨rfl,fun h=>by simp[AV.plainT]at h⟩
  case agg cs=>obtain⟨_,rfl,_⟩:=h1;exact⟨rfl,fun h=>by simp[AV.plainT]at h⟩
  case tup cs=>obtain⟨_,rfl,_⟩:=h1;exact⟨rfl,fun h=>by simp[AV.plainT]at h⟩
  all_goals subst h1;exact⟨rfl,fun _=>by simp[AV.own,DV.own]⟩
 case ep=>obtain⟨_,rfl,_⟩:=h;exact⟨rfl,fun h=>by simp[AV.plainT]at h⟩
 case fn=>obtain⟨_,rfl,_⟩:=h;exact⟨rfl,fun h=>by simp[AV.plainT]at h⟩
 case bsl=>obtain⟨_,rfl⟩:=h;exact⟨rfl,fun h=>by simp[AV.plainT]at h⟩
 case ag=>obtain⟨_,rfl,_⟩:=h;exact⟨rfl,fun h=>by simp[AV.plainT]at h⟩
 all_goals subst h;exact⟨rfl,fun _=>by simp[AV.own]⟩
theorem qlj:∀{xs vs:List AV},AV.fits xs vs->vs.all AV.plainT=xs.all AV.plainT
 | [],vs,h=>by simp only[AV.fits]at h;subst h;rfl
 |x::xs,vs,h=>by
  simp only[AV.fits]at h;obtain⟨v,vs,rfl,h1,h2⟩:=h;simp only[List.all_cons,(qm4 h1).1,qlj h2]
theorem qli:∀{xs vs:List AV},AV.fits xs vs->xs.all AV.plainT=true->AV.owns xs vs=[]
 | [],vs,h,_=>by simp[AV.owns]
 |x::xs,vs,h,hp=>by
  simp only[AV.fits]at h;obtain⟨v,vs,rfl,h1,h2⟩:=h;simp only[List.all_cons,Bool.and_eq_true]at hp;simp only[AV.owns,(qm4 h1).2 hp.1,qli h2 hp.2];rfl
theorem qgb:∀{xs vs:List AV},qaG xs=none->AV.fits xs vs->qaG vs=none
 | [],vs,h,_=>by simp[qaG]at h
 |x::xs,vs,h,hf=>by
  simp only[AV.fits]at hf;obtain⟨v,vs,rfl,h1,h2⟩:=hf;cases x<;>simp only[AV.fit]at h1
  case d x=>
   obtain⟨y,rfl,_⟩:=h1;simp only[qaG,Option.map_eq_none_iff]at h⊢
   exact qgb h h2
  case ep=>obtain⟨_,rfl,_⟩:=h1;rfl
  case fn=>obtain⟨_,rfl,_⟩:=h1;rfl
  case bsl=>obtain⟨_,rfl⟩:=h1;rfl
  case ag=>obtain⟨_,rfl,_⟩:=h1;rfl
  all_goals subst h1;rfl
theorem qfq{B Bv:qal}(h:qbS B Bv){agg:Bool}{sz b off:Nat}{v:AV}(hl:qak B agg sz b off=some v):
 ∃u cs ds,qak Bv agg sz b off=some u/\v.fit u/\qcu B b=some cs/\qcu Bv b=some ds/\AV.fits cs ds/\v.own u=AV.owns ((cs.drop off).take (if agg then sz else 1)) ((ds.drop off).take (if agg then sz else 1))/\off+(if agg then sz else 1)<=cs.length:=by
 unfold qak at hl⊢
 obtain⟨cs,hcs,hl⟩:=yb_.1 hl;obtain⟨ds,hds,hf⟩:=h.get hcs;rw[hds];simp only[Option.bind_some];cases agg with
 |true=>
  simp only[if_true]at hl⊢
  split at hl
  ·rename_i hle
   have hft:=AV.qbl (AV.qbs hf off) sz;rw[if_pos (by rw[<-AV.qan hf];exact hle)];cases h1:qaG ((cs.drop off).take sz)with
   |none=>
    rw[h1]at hl;simp only[qiP]at hl;split at hl
    ·rename_i hp
     simp only[Option.some.injEq]at hl;subst hl
     rw[qgb h1 hft];simp only[qiP];rw[qlj hft,if_pos hp];have ho:=qli hft hp;exact⟨_,cs,ds,rfl,by simp only[AV.fit];exact⟨_,rfl,hft,ho⟩,hcs,rfl,hf,by rw[ho];simp[AV.own],hle⟩
    ·simp at hl
   |some es=>
   rw[h1]at hl;simp only[qiP,Option.some.injEq]at hl;subst hl;obtain⟨es',h2,h3,h4⟩:=qdb h1 hft;rw[h2];simp only[qiP];refine⟨_,cs,ds,rfl,by simp only[AV.fit,DV.fit];exact⟨_,rfl,_,rfl,h3⟩,hcs,rfl,hf,?_,hle⟩;rw[h4];simp[AV.own,DV.own]
  ·simp at hl
 |false=>
  simp only[Bool.false_eq_true,if_false]at hl⊢
  obtain⟨u,h1,h2⟩:=AV.qcS hf hl;have hlt:off<cs.length:=(List.getElem?_eq_some_iff.1 hl).1;have hlt':off<ds.length:=(List.getElem?_eq_some_iff.1 h1).1;refine⟨u,cs,ds,h1,h2,hcs,rfl,hf,?_,by omega⟩;rw[List.drop_eq_getElem_cons hlt,List.drop_eq_getElem_cons hlt'];have e1:cs[off]=v:=by rw[List.getElem?_eq_getElem hlt]at hl;exact Option.some.inj hl
  have e2:ds[off]=u:=by rw[List.getElem?_eq_getElem hlt']at h1;exact Option.some.inj h1
  simp[AV.owns,e1,e2]
theorem qFp{agg:Bool}{sz:Nat}{cs ds:List DV}{v:DV}(hf:DV.fits cs ds)(h:cut agg sz cs=some v):∃u,cut agg sz ds=some u/\v.fit u:=by
 unfold cut at h⊢
 cases agg with
 |true=>
  simp only[if_true]at h⊢
  split at h
  ·rename_i hle
   simp at h;subst h
   rw[if_pos (by rw[<-DV.qan hf];exact hle)];exact⟨_,rfl,by simp only[DV.fit];exact⟨_,rfl,DV.qbl hf _⟩⟩
  ·simp at h
 |false=>
  simp only[Bool.false_eq_true,if_false]at h⊢
  exact DV.qcS hf h
theorem Rel.takeBox(h:Rel A0 T F p k sx sv)(dst:Option Nat){agg:Bool}{sz b off:Nat}{v:AV}(hl:qak sx.B agg sz b off=some v){k':Nat}(hk:k<=k')(c':Nat):
 ∃u,qak sv.B agg sz b off=some u/\Rel A0 T F p k' (qbI T (if qcJ T dst then⟨sx.r,qfx sx.B b off (if agg then sz else 1)⟩else sx) dst v) {(sv.put dst u)with c:=c'}:=by
 obtain⟨u,cs,ds,h1,h2,h3,h4,h5,h6,h7⟩:=qfq h.boxes hl;refine⟨u,h1,?_⟩;generalize (if agg then sz else 1)=m at h6 h7⊢
 have hb:b<sx.B.length:=by
  rcases Nat.lt_or_ge b sx.B.length with hh|hh
  ·exact hh
  ·have:=qcD.1 h3;rw[List.getElem?_eq_none hh]at this;simp at this
 have hbo:qcX sx.B sv.B b=AV.owns cs ds:=by unfold qcX;rw[h3,h4]
 cases hT:qcJ T dst with
 |false=>
  simp only[Bool.false_eq_true,if_false];exact h.put dst h2 hk (fun h'=>by rw[hT]at h';simp at h') (fun i hi _=>hi) (fun _ hi=> .inl hi) c'
 |true=>
  simp only[if_true];have hmid:=AV.qbl (AV.qbs h5 off) m;obtain⟨hc1,hc2⟩:=AV.qcm _ _ hmid;have hlen:=AV.qan h5;have hsp:splice ds off ((ds.drop off).take m)=ds:=by
   unfold splice;rw[List.length_take,List.length_drop,Nat.min_eq_left (by omega),yh_,<-List.drop_drop,List.take_append_drop,List.take_append_drop]
  have hfs:=qi5 h5 hc1 off;rw[hsp]at hfs;have hos:=qi4 h5 hc1 off;rw[hsp,hc2,AV.qcy,List.append_nil]at hos;have hml:((cs.drop off).take m).length=m:=by simp;omega
  rw[hml]at hos;have hes:=qri (AV.qan h5) off m;have hcell:qfx sx.B b off m=sx.B.set b (some (splice cs off (AV.clrs ((cs.drop off).take m)))):=by unfold qfx;rw[h3]
  have hbox:=h.box [] b hfs hb (by rw[hos];exact(by rw[<-hbo];exact h.held.nodup (.box b):(AV.owns cs ds).Nodup).sublist hes) (fun a ha=> .inl (by rw[hbo];rw[hos]at ha;exact hes.subset ha));have hset:sv.B.set b (some ds)=sv.B:=by
   apply List.ext_getElem?;intro j
   by_cases hj:b=j
   ·subst hj
    have:=qcD.1 h4;rw[List.getElem?_set_self',this];simp
   ·rw[List.getElem?_set_ne hj]
  rw[hset]at hbox;rw[hcell];have hown2:qcX (sx.B.set b (some (splice cs off (AV.clrs ((cs.drop off).take m))))) sv.B b=AV.owns (cs.take off) (ds.take off)++AV.owns (cs.drop (off+m)) (ds.drop (off+m)):=by
   unfold qcX;rw[qdX hb,h4];exact hos
  have hnd0:(AV.owns cs ds).Nodup:=by rw[<-hbo];exact h.held.nodup (.box b)
  have hall:AV.owns cs ds=AV.owns (cs.take off) (ds.take off)++(v.own u++AV.owns (cs.drop (off+m)) (ds.drop (off+m))):=by
   rw[AV.qb7 (AV.qan h5) off,AV.qb7 (a:=cs.drop off) (c:=ds.drop off) (by simp[hlen]) m,h6,List.drop_drop,List.drop_drop]
  refine hbox.put dst h2 hk (fun _=>⟨?_,fun a ha=> ?_⟩) (fun i hi _=>hi) (fun _ hi=> .inl hi) c'
  ·rw[hall]at hnd0
   rw[List.nodup_append]at hnd0;exact(List.nodup_append.1 hnd0.2.1).1
  ·have hav:a∈AV.owns cs ds:=by rw[hall];simp[ha]
   have ha2:a∈qaj sx.r sx.B sv.r sv.B (.box b):=by simp only[qaj];rw[hbo];exact hav
   obtain⟨q1,q2,q3⟩:=h.held.opn _ a ha2;refine⟨q1,q2,fun hf=>q3 (hf.le hk),fun ℓ hℓ hm=> ?_⟩;cases ℓ with
   |reg t=>
    have:=h.held.apart (.box b) (.reg t) a ha2 hm;simp at this
   |box j=>
    by_cases hj:j=b
    ·subst hj
     have hm':a∈AV.owns (cs.take off) (ds.take off)++AV.owns (cs.drop (off+m)) (ds.drop (off+m)):=by
      have hm2:a∈qcX (sx.B.set j (some (splice cs off (AV.clrs ((cs.drop off).take m))))) sv.B j:=hm;rw[hown2]at hm2;exact hm2
     rw[hall]at hnd0;rw[List.nodup_append]at hnd0;obtain⟨_,n2,n3⟩:=hnd0;rw[List.nodup_append]at n2;rcases List.mem_append.1 hm' with h8|h8
     ·exact n3 a h8 a (by simp[ha]) rfl
     ·exact n2.2.2 a ha a h8 rfl
    ·have hm2:a∈qcX (sx.B.set b (some (splice cs off (AV.clrs ((cs.drop off).take m))))) sv.B j:=hm
     rw[qia (fun he=>hj he.symm)]at hm2;have:=h.held.apart (.box b) (.box j) a ha2 hm2;simp at this;exact hj this.symm
theorem qjM{s:St}(dst:Option Nat)(v:AV):({(s.put dst v)with c:=s.c}:St)=s.put dst v:=by cases dst<;>rfl
theorem qwN{s:St}(dst:Option Nat)(v:AV):(s.put dst v).c=s.c:=by cases dst<;>rfl
end
section
variable {A0:Ids} {T:List Nat} {F:Id->Prop} {p:Id} {sx sx':XS} {sv:St} {X:qaB} {V:qaz} {lin:Nat->List Nat} {draw:Bool} {L0 i:Nat}
def qcH(A0:Ids)(T:List Nat)(F:Id->Prop)(p:Id)(V:qaz)(draw:Bool)(L0 i:Nat)(o:VOper)(sv:St)(sx':XS):Prop:=
 ∃sv',qbv V p draw L0 i o sv=some sv'/\Rel A0 T F p (sv.c+i+1) sx' sv'/\sv'.c=sv.c
theorem qa9{o:VOper}{v:AV}{s:St}(h1:qbv V p draw L0 i o sv=some (s.put o.dst v))(hc:s.c=sv.c){sx'':XS}(h2:Rel A0 T F p (sv.c+i+1) sx'' {(s.put o.dst v)with c:=sv.c}):qcH A0 T F p V draw L0 i o sv sx'':=by
 refine⟨_,h1,?_,by rw[qwN,hc]⟩;rw[<-hc]at h2⊢
 rw[qjM]at h2;exact h2
theorem qQn{dst:Option Nat}{x:VX}{gd:Option (Nat×Bool)}{af:List Nat}(h:Rel A0 T F p (sv.c+i) sx sv)(hx:xOp X lin T draw L0 ⟨dst,.move x,gd,af⟩ sx=some sx'):qcH A0 T F p V draw L0 i ⟨dst,.move x,gd,af⟩ sv sx':=by
 simp only[xOp]at hx;obtain⟨a,h1,rfl⟩:=ya_.1 hx;obtain⟨v,h2,h3⟩:=h.get h1;refine qa9 (sv:=sv) (s:=sv) (v:=v) (by simp only[qbv,evP,h2,Option.map_some]) rfl (h.give dst [x] h3 ?_ (fun i hi=>⟨x,by simp,by rw[qca h1 h2];exact hi⟩) (Nat.le_succ _) _);rw[<-qca h1 h2];exact h.qbp x
theorem Rel.getBool(h:Rel A0 T F p (sv.c+i) sx sv){x:VX}{b:Bool}(hx:qco sx.r x=some (.d (.bool b))):x.get sv.r=some (.d (.bool b)):=by
 obtain⟨v,h1,h2⟩:=h.get hx;simp only[AV.fit,DV.fit]at h2;obtain⟨y,rfl,rfl⟩:=h2;exact h1
theorem Rel.getInt(h:Rel A0 T F p (sv.c+i) sx sv){x:VX}{k:IntKind}{n:Int}(hx:qco sx.r x=some (.d (.int k n))):x.get sv.r=some (.d (.int k n)):=by
 obtain⟨v,h1,h2⟩:=h.get hx;simp only[AV.fit,DV.fit]at h2;obtain⟨y,rfl,rfl⟩:=h2;exact h1
theorem Rel.getPtr(h:Rel A0 T F p (sv.c+i) sx sv){x:VX}{b o:Nat}(hx:qco sx.r x=some (.ptr b o)):x.get sv.r=some (.ptr b o):=by
 obtain⟨v,h1,h2⟩:=h.get hx;simp only[AV.fit]at h2;subst h2;exact h1
theorem qQm{dst:Option Nat}{c x y:VX}{gd:Option (Nat×Bool)}{af:List Nat}(h:Rel A0 T F p (sv.c+i) sx sv)(hx:xOp X lin T draw L0 ⟨dst,.pick c x y,gd,af⟩ sx=some sx'):qcH A0 T F p V draw L0 i ⟨dst,.pick c x y,gd,af⟩ sv sx':=by
 simp only[xOp]at hx;split at hx
 ·rename_i hc
  obtain⟨a,h1,rfl⟩:=ya_.1 hx;obtain⟨v,h2,h3⟩:=h.get h1;refine qa9 (sv:=sv) (s:=sv) (v:=v) (by simp only[qbv,evP,h.getBool hc,h2,Option.map_some]) rfl (h.give dst [x] h3 ?_ (fun i hi=>⟨x,by simp,by rw[qca h1 h2];exact hi⟩) (Nat.le_succ _) _);rw[<-qca h1 h2];exact h.qbp x
 ·rename_i hc
  obtain⟨a,h1,rfl⟩:=ya_.1 hx;obtain⟨v,h2,h3⟩:=h.get h1;refine qa9 (sv:=sv) (s:=sv) (v:=v) (by simp only[qbv,evP,h.getBool hc,h2,Option.map_some]) rfl (h.give dst [y] h3 ?_ (fun i hi=>⟨y,by simp,by rw[qca h1 h2];exact hi⟩) (Nat.le_succ _) _);rw[<-qca h1 h2];exact h.qbp y
 ·simp at hx
theorem qtW{B:qal}{n:Nat}(h:qcB B n=true):n<B.length:=by
 unfold qcB at h;split at h
 ·rename_i h1;exact(List.getElem?_eq_some_iff.1 h1).1
 ·simp at h
theorem qME{dst:Option Nat}{k:Nat}{z:List DV}{gd:Option (Nat×Bool)}{af:List Nat}(h:Rel A0 T F p (sv.c+i) sx sv)(hx:xOp X lin T draw L0 ⟨dst,.alloc k z,gd,af⟩ sx=some sx'):qcH A0 T F p V draw L0 i ⟨dst,.alloc k z,gd,af⟩ sv sx':=by
 simp only[xOp]at hx;split at hx
 ·rename_i hc
  simp at hx;subst hx
  have hf:AV.fits (z.map fun z=>AV.d z.cn1) (z.map .d):=by
   have:=AV.qjA (DV.qgj z);rw[List.map_map]at this;exact this
  have ho:AV.owns (z.map fun z=>AV.d z.cn1) (z.map .d)=[]:=by
   have:z.map (fun z=>AV.d z.cn1)=(z.map DV.cn1).map .d:=by rw[List.map_map];rfl
   rw[this,AV.ql9,DV.qfD]
  have hb:=h.box [] (L0+k) hf (qtW hc.1) (by rw[ho];simp) (by rw[ho];simp);refine qa9 (sv:=sv) (s:={sv with B:=sv.B.set (L0+k) (some (z.map .d))}) (v:= .ptr (L0+k) 0) (by simp only[qbv];rw[if_pos ⟨by rw[h.boxes.free];exact hc.1,hc.2⟩]) rfl ?_;exact hb.put0 dst (by simp[AV.fit]) (by simp[AV.own]) (Nat.le_succ _) _
 ·simp at hx
theorem qVX{dst:Option Nat}{k:Nat}{x:VX}{gd:Option (Nat×Bool)}{af:List Nat}(h:Rel A0 T F p (sv.c+i) sx sv)(hx:xOp X lin T draw L0 ⟨dst,.box k x,gd,af⟩ sx=some sx'):qcH A0 T F p V draw L0 i ⟨dst,.box k x,gd,af⟩ sv sx':=by
 simp only[xOp]at hx;obtain⟨a,h1,hx⟩:=yb_.1 hx;obtain⟨v,h2,h3⟩:=h.get h1;split at hx
 ·rename_i hc
  simp at hx;subst hx
  have hf:=AV.qbt h3;have ho:=AV.qdB h3;have hb:=h.box [x] (L0+k) hf (qtW hc.1) (by rw[ho,<-qca h1 h2];exact h.qbp x) (fun i hi=> .inr ⟨x,by simp,by rw[qca h1 h2,<-ho];exact hi⟩);refine qa9 (sv:=sv) (s:={sv with B:=sv.B.set (L0+k) (some v.cells)}) (v:= .ptr (L0+k) 0) (by simp only[qbv,h2,Option.bind_some];rw[if_pos ⟨by rw[h.boxes.free];exact hc.1,by rw[AV.qcf hf];exact hc.2.1,by rw[AV.qjX _ _ _ h3];exact hc.2.2⟩]) rfl ?_;exact hb.put0 dst (by simp[AV.fit]) (by simp[AV.own]) (Nat.le_succ _) _
 ·simp at hx
theorem qMD{dst:Option Nat}{z:List DV}{ps:List (Nat×Nat×VX)}{gd:Option (Nat×Bool)}{af:List Nat}(h:Rel A0 T F p (sv.c+i) sx sv)(hl:qat T (ps.map fun q=>q.2.2)=true)(hx:xOp X lin T draw L0 ⟨dst,.build z ps,gd,af⟩ sx=some sx'):qcH A0 T F p V draw L0 i ⟨dst,.build z ps,gd,af⟩ sv sx':=by
 simp only[xOp]at hx;obtain⟨cs,h1,rfl⟩:=ya_.1 hx;obtain⟨ds,h2,h3,h4,h5⟩:=qgH h ps _ z cs hl h1 (DV.qgj z) (by rw[DV.qfD];simp) (by rw[DV.qfD];simp);refine qa9 (sv:=sv) (s:=sv) (v:= .d (.agg ds)) (by simp only[qbv,evP,h2,Option.map_some]) rfl (h.give dst _ (by simp only[AV.fit,DV.fit];exact⟨_,rfl,_,rfl,h3⟩) (by simpa[AV.own,DV.own]using h4) (fun i hi=> ?_) (Nat.le_succ _) _);rcases h5 i (by simpa[AV.own,DV.own]using hi)with h6|⟨x,h6,h7⟩
 ·rw[DV.qfD]at h6;simp at h6
 ·exact⟨x,h6,h7⟩
theorem qHT(n:Nat)(z:DV):DV.fits (List.replicate n z.cn) (List.replicate n z):=by
 rw[DV.qbE];refine⟨by simp,fun i x y hx hy=> ?_⟩;rw[List.getElem?_replicate]at hx hy;split at hx<;>simp_all
 rw[<-hx,<-hy];exact DV.qr5 _
theorem qn0(n:Nat)(z:DV)(l:List DV):DV.owns (List.replicate n z.cn) l=[]:=by
 induction n generalizing l with
 |zero=>simp[DV.owns]
 |succ n ih=>cases l<;>simp[List.replicate_succ,DV.owns,DV.qGf,ih]
theorem qxM(p:Id)(k:Nat)(A:Ids):∀a,Ids.add (k::p) A a=true->A a=true\/(Fut p 0 a/\¬Fut p (k+1) a):=by
 intro a ha;simp only[Ids.add,Bool.or_eq_true,decide_eq_true_eq]at ha;rcases ha with rfl|ha
 ·exact .inr ⟨(Fut.self p k).le (Nat.zero_le _),Fut.qpi (Nat.lt_succ_self _)⟩
 ·exact .inl ha
theorem qpv{dst:Option Nat}{sz n:Nat}{z:DV}{ps:List (Nat×VX)}{gd:Option (Nat×Bool)}{af:List Nat}(h:Rel A0 T F p (sv.c+i) sx sv)(hl:qat T (ps.map fun q=>q.2)=true)(hx:xOp X lin T draw L0 ⟨dst,.buildSlice sz z n ps,gd,af⟩ sx=some sx'):qcH A0 T F p V draw L0 i ⟨dst,.buildSlice sz z n ps,gd,af⟩ sv sx':=by
 simp only[xOp]at hx;split at hx
 ·rename_i hc
  obtain⟨cs,h1,rfl⟩:=ya_.1 hx;obtain⟨ds,h2,h3,h0,h4,h5⟩:=qjv h sz ps _ (List.replicate n z) cs hl h1 (qHT n z) (fun e he=>by rw[(List.mem_replicate.1 he).2];exact hc.1) (by rw[qn0];simp) (by rw[qn0];simp);have hfit:(AV.d (.sl U cs)).fit (.d (.sl (.own ((sv.c+i)::p) sz) ds)):=by
   simp only[AV.fit,DV.fit];refine⟨_,rfl,_,_,rfl,h3,.inr ⟨rfl,?_⟩⟩
   by_cases hn:cs.length=0
   ·exact .inl ⟨hn,.inr ⟨_,_,rfl⟩⟩
   ·exact .inr ⟨hn,_,_,rfl,h0⟩
  have hmem:∀a,a∈DV.owns cs ds->∃x,x∈ps.map (fun q=>q.2)/\a∈qfQ sx.r sv.r x:=fun a ha=>by
   rcases h5 a ha with h6|h6
   ·rw[qn0]at h6;simp at h6
   ·exact h6
  have hown:∀a,a∈(AV.d (.sl U cs)).own (.d (.sl (.own ((sv.c+i)::p) sz) ds))->a=(sv.c+i)::p\/a∈DV.owns cs ds:=by
   intro a ha;simp only[AV.own,DV.own,List.mem_append]at ha;rcases ha with ha|ha
   ·split at ha<;>simp[Tag.ids]at ha
    exact .inl ha
   ·exact .inr ha
  have hnew:∀ℓ,(sv.c+i)::p∉qaj sx.r sx.B sv.r sv.B ℓ:=fun ℓ hm=>(h.held.opn ℓ _ hm).2.2 (Fut.self p _)
  have hnd:((AV.d (.sl U cs)).own (.d (.sl (.own ((sv.c+i)::p) sz) ds))).Nodup:=by
   simp only[AV.own,DV.own];rw[List.nodup_append];refine⟨by split<;>simp[Tag.ids],h4,fun a ha b hb he=> ?_⟩;split at ha<;>simp[Tag.ids]at ha
   subst ha;subst he
   obtain⟨x,_,h7⟩:=hmem _ hb;obtain⟨n',rfl,_,h8⟩:=h.qdY h7;exact hnew (.reg n') h8
  refine qa9 (sv:=sv) (s:={sv with A:=Ids.add ((sv.c+i)::p) sv.A}) (v:= .d (.sl (.own ((sv.c+i)::p) sz) ds)) (by simp only[qbv,h2,Option.map_some];rw[if_pos hc]) rfl ?_;cases hT:qcJ T dst with
  |false=>
   rw[qxb hT];exact h.put dst hfit (Nat.le_succ _) (fun h'=>by rw[hT]at h';simp at h') (fun a ha _=>by simp[Ids.add,ha]) (qxM p _ sv.A) _
  |true=>
   rw[qxc hT];refine(h.drops _).put dst hfit (Nat.le_succ _) (fun _=>⟨hnd,fun a ha=> ?_⟩) (fun a ha _=>by simp[Ids.add,ha]) (qxM p _ sv.A) _;rcases hown a ha with rfl|ha
   ·refine⟨by simp[Ids.add],fun hF=>(h.held.fr _ hF).2 (Fut.self p _),Fut.qpi (Nat.lt_succ_self _),fun ℓ _ hm=> ?_⟩
    refine hnew ℓ ?_;cases ℓ with
    |reg t=>simp only[qaj,qb4]at hm⊢;split at hm<;>first|(simp at hm;done)|exact hm
    |box j=>exact hm
   ·obtain⟨x,h6,h7⟩:=hmem a ha
    obtain⟨q1,q2,q3⟩:=h.qcR h7;exact⟨by simp[Ids.add,q1],q2,fun hf=>q3 (hf.le (Nat.le_succ _)),fun ℓ _=>h.qdA h6 h7 ℓ⟩
 ·simp at hx
theorem qsg{dst:Option Nat}{k sz bytes:Nat}{z:DV}{x:VX}{gd:Option (Nat×Bool)}{af:List Nat}(h:Rel A0 T F p (sv.c+i) sx sv)(hx:xOp X lin T draw L0 ⟨dst,.makeSlice k sz bytes z x,gd,af⟩ sx=some sx'):qcH A0 T F p V draw L0 i ⟨dst,.makeSlice k sz bytes z x,gd,af⟩ sv sx':=by
 simp only[xOp]at hx;split at hx
 ·rename_i kk n h1
  split at hx
  ·rename_i hc
   simp at hx;subst hx
   have hf0:DV.fits ((List.replicate n.toNat z.cn).flatMap DV.cells) ((List.replicate n.toNat z).flatMap DV.cells):=by
    generalize n.toNat=m
    induction m with
    |zero=>simp[DV.fits]
    |succ m ih=>simp only[List.replicate_succ,List.flatMap_cons];exact DV.qaZ (DV.qbt (DV.qr5 z)) ih
   have ho0:DV.owns ((List.replicate n.toNat z.cn).flatMap DV.cells) ((List.replicate n.toNat z).flatMap DV.cells)=[]:=by
    generalize n.toNat=m
    induction m with
    |zero=>simp[DV.owns]
    |succ m ih=>simp only[List.replicate_succ,List.flatMap_cons];rw[DV.qaY (DV.qan (DV.qbt (DV.qr5 z))),DV.qdB (DV.qr5 z),DV.qGf,ih];rfl
   have hb:=h.box [] (L0+k) (AV.qjA hf0) (qtW hc.2.1) (by rw[AV.ql9,ho0];simp) (by rw[AV.ql9,ho0];simp);refine qa9 (sv:=sv) (s:={sv with B:=sv.B.set (L0+k) (some (((List.replicate n.toNat z).flatMap DV.cells).map .d))}) (v:= .bsl ((sv.c+i)::p) (isAgg z) (L0+k) sz n.toNat) (by simp only[qbv,h.getInt h1];rw[if_pos ⟨hc.1,by rw[h.boxes.free];exact hc.2.1,hc.2.2⟩];cases z<;>rfl) rfl ?_;exact hb.put0 dst (by simp[AV.fit]) (by simp[AV.own]) (Nat.le_succ _) _
  ·simp at hx
 ·simp at hx
theorem DV.qr3:∀(xs ys:List DV) (n:Nat),(DV.owns (xs.take n) (ys.take n)).Sublist (DV.owns xs ys)
 | [],ys,n=>by simp[DV.owns]
 |x::xs,[],n=>by simp[DV.owns]
 |x::xs,y::ys,0=>by simp[DV.owns]
 |x::xs,y::ys,n+1=>by
  simp only[List.take_succ_cons,DV.owns];exact List.Sublist.append (List.Sublist.refl _) (DV.qr3 xs ys n)
theorem qPq{agg:Bool}{sz:Nat}{cs ds:List DV}{v u:DV}(h:cut agg sz cs=some v)(h':cut agg sz ds=some u):(v.own u).Sublist (DV.owns cs ds):=by
 unfold cut at h h';cases agg with
 |true=>
  simp only[if_true]at h h';split at h
  ·split at h'
   ·simp at h h';subst h;subst h'
    simp only[DV.own];exact DV.qr3 cs ds sz
   ·simp at h'
  ·simp at h
 |false=>
  simp only[Bool.false_eq_true,if_false]at h h';exact DV.qce h h'
theorem qQo{dst:Option Nat}{agg:Bool}{sz:Nat}{x:VX}{gd:Option (Nat×Bool)}{af:List Nat}(h:Rel A0 T F p (sv.c+i) sx sv)(hx:xOp X lin T draw L0 ⟨dst,.load agg sz x,gd,af⟩ sx=some sx'):qcH A0 T F p V draw L0 i ⟨dst,.load agg sz x,gd,af⟩ sv sx':=by
 simp only[xOp]at hx;split at hx
 ·rename_i cs h1
  obtain⟨v,h2,rfl⟩:=ya_.1 hx;obtain⟨u,h3,h4⟩:=h.get h1;simp only[AV.fit]at h4;obtain⟨ds,rfl,h5⟩:=h4;obtain⟨w,h6,h7⟩:=qFp h5 h2;have ho:=qPq h2 h6;have ox:=qca h1 h3;simp only[AV.own]at ox;refine qa9 (sv:=sv) (s:=sv) (v:= .d w) (by simp only[qbv,h3,h6,Option.map_some]) rfl (h.give dst [x] (by simp only[AV.fit];exact⟨_,rfl,h7⟩) ?_ (fun i hi=>⟨x,by simp,by rw[ox];exact ho.subset (by simpa only[AV.own]using hi)⟩) (Nat.le_succ _) _);have hnd:=h.qbp x;rw[ox]at hnd;simp only[AV.own];exact hnd.sublist ho
 ·rename_i b off h1
  split at hx
  ·simp at hx
  ·rename_i hd
   obtain⟨v,h2,rfl⟩:=ya_.1 hx;obtain⟨u,h3,h4⟩:=h.takeBox dst h2 (Nat.le_succ _) sv.c;exact qa9 (sv:=sv) (s:=sv) (v:=u) (by simp only[qbv,h.getPtr h1,h3,Option.map_some];rw[if_neg hd]) rfl h4
 ·simp at hx
theorem qA9{dst:Option Nat}{init:Bool}{sz:Nat}{a x:VX}{gd:Option (Nat×Bool)}{af:List Nat}(h:Rel A0 T F p (sv.c+i) sx sv)(hx:xOp X lin T draw L0 ⟨dst,.store init sz a x,gd,af⟩ sx=some sx'):qcH A0 T F p V draw L0 i ⟨dst,.store init sz a x,gd,af⟩ sv sx':=by
 simp only[xOp]at hx;split at hx
 ·rename_i b off v h1 h2
  split at hx
  ·simp at hx
  ·rename_i hd
   obtain⟨B',h3,rfl⟩:=ya_.1 hx;unfold qdm at h3;obtain⟨cs,h4,h5⟩:=yb_.1 h3;split at h5
   ·rename_i hc
    simp at h5;subst h5
    obtain⟨u,h6,h7⟩:=h.get h2;obtain⟨ds,h8,h9⟩:=h.boxes.get h4;have hcf:=AV.qbt h7;have hb:b<sx.B.length:=by
     rcases Nat.lt_or_ge b sx.B.length with hh|hh
     ·exact hh
     ·have:=qcD.1 h4;rw[List.getElem?_eq_none hh]at this;simp at this
    have hbo:qcX sx.B sv.B b=AV.owns cs ds:=by unfold qcX;rw[h4,h8]
    have hvo:AV.owns v.cells u.cells=qfQ sx.r sv.r x:=by rw[AV.qdB h7,qca h2 h6]
    have hes:=qri (AV.qan h9) off v.cells.length;have ho:=qi4 h9 hcf off;have hbox:=h.box [x] b (qi5 h9 hcf off) hb (by
     rw[ho];refine qlq hes (by rw[<-hbo];exact h.held.nodup (.box b)) (by rw[hvo];exact h.qbp x) (fun q hq hm=> ?_);rw[hvo]at hq;obtain⟨n,rfl,hn,hq'⟩:=h.qdY hq;have:=h.held.apart (.reg n) (.box b) q hq' (by simp only[qaj];rw[hbo];exact hm);simp at this) (fun q hq=>by
     rw[ho]at hq;simp only[List.mem_append]at hq;rcases hq with(hq|hq)|hq
     ·exact .inl (by rw[hbo];exact hes.subset (by simp[hq]))
     ·exact .inr ⟨x,by simp,by rw[<-hvo];exact hq⟩
     ·exact .inl (by rw[hbo];exact hes.subset (by simp[hq])))
    refine qa9 (sv:=sv) (s:={sv with B:=sv.B.set b (some (splice ds off u.cells))}) (v:= .und) (by
     simp only[qbv,h.getPtr h1,h6];rw[if_neg hd];simp only[qdi,h8,Option.bind_some];rw[if_pos ⟨by rw[AV.qbK h7];exact hc.1,by rw[<-AV.qan h9];exact hc.2.1,by rw[AV.qcf hcf];exact hc.2.2.1,by rw[AV.qjX _ _ _ h7];exact hc.2.2.2⟩];rfl) rfl ?_
    exact hbox.put0 dst (by simp[AV.fit]) (by simp[AV.own]) (Nat.le_succ _) _
   ·simp at h5
 ·simp at hx
theorem qG4{dst:Option Nat}{sz:Nat}{a x:VX}{av:List Nat}{gd:Option (Nat×Bool)}{af:List Nat}(h:Rel A0 T F p (sv.c+i) sx sv)(hx:xOp X lin T draw L0 ⟨dst,.storeN sz a x av,gd,af⟩ sx=some sx'):qcH A0 T F p V draw L0 i ⟨dst,.storeN sz a x av,gd,af⟩ sv sx':=by
 simp only[xOp]at hx;split at hx
 ·rename_i b off v h1 h2
  split at hx
  ·simp at hx
  ·rename_i hc
   simp only[Bool.or_eq_true,not_or,Bool.not_eq_true',Bool.not_eq_false]at hc;have hx':xOp X lin T draw L0 ⟨dst,.store false sz a x,gd,af⟩ sx=some sx':=by
    simp only[xOp,h1,h2];rw[if_neg hc.1];exact hx
   obtain⟨sv',k1,k2⟩:=qA9 (X:=X) (V:=V) h hx';refine⟨sv',?_,k2⟩;have hfar:qcP sv.r b av=true:=by
    unfold qcP;rw[List.all_eq_true];intro t ht;have:=List.all_eq_true.1 hc.2 t ht;split at this
    ·rename_i b' off' hl
     obtain⟨y,h5,h6⟩:=h.regs t _ hl;simp only[AV.fit]at h6;subst h6
     rw[h5];exact this
    ·simp at this
   simp only[qbv,h.getPtr h1]at k1⊢
   split at k1
   ·rename_i b2 off2 w hb hw
    simp only[Option.some.injEq,AV.ptr.injEq]at hb;obtain⟨rfl,rfl⟩:=hb;split at k1
    ·simp at k1
    ·rename_i hq
     rw[if_neg (by simp only[Bool.or_eq_true,not_or];exact⟨hq,by rw[hfar];simp⟩)];exact k1
   ·simp at k1
 ·simp at hx
end
section
variable {A0:Ids} {T:List Nat} {F:Id->Prop} {p:Id} {sx sx':XS} {sv:St} {X:qaB} {V:qaz} {lin:Nat->List Nat} {draw:Bool} {L0 i:Nat}
theorem qIT{sz:Nat}{xs ys:List DV}(h:DV.fits xs ys)(hx:∀e:DV,e∈xs->e.cells.length=sz/\e.cells.all DV.isCell=true):∀e:DV,e∈ys->e.cells.length=sz/\e.cells.all DV.isCell=true:=by
 intro e he;obtain⟨j,hj⟩:=List.mem_iff_getElem?.1 he;obtain⟨h1,h2⟩:=(DV.qbE _ _).1 h;have hlt:j<xs.length:=by rw[h1];exact(List.getElem?_eq_some_iff.1 hj).1
 have h3:=h2 j xs[j] e (by simp[hlt]) hj;obtain⟨q1,q2⟩:=hx _ (List.getElem_mem hlt);exact⟨by rw[DV.qbK h3];exact q1,by rw[DV.qcf (DV.qbt h3)];exact q2⟩
theorem qOU{sz:Nat}{xs ys:List DV}(h:DV.fits xs ys)(hx:∀e:DV,e∈xs->e.cells.length=sz):∀e:DV,e∈ys->e.cells.length=sz:=by
 intro e he;obtain⟨j,hj⟩:=List.mem_iff_getElem?.1 he;obtain⟨h1,h2⟩:=(DV.qbE _ _).1 h;have hlt:j<xs.length:=by rw[h1];exact(List.getElem?_eq_some_iff.1 hj).1
 have h3:=h2 j xs[j] e (by simp[hlt]) hj;rw[DV.qbK h3];exact hx _ (List.getElem_mem hlt)
theorem qG5{dst:Option Nat}{sz bytes:Nat}{x y:VX}{gd:Option (Nat×Bool)}{af:List Nat}(h:Rel A0 T F p (sv.c+i) sx sv)(hl:qat T [x,y]=true)(hx:xOp X lin T draw L0 ⟨dst,.append sz bytes x y,gd,af⟩ sx=some sx'):qcH A0 T F p V draw L0 i ⟨dst,.append sz bytes x y,gd,af⟩ sv sx':=by
 simp only[xOp]at hx;split at hx
 ·rename_i v w h1 h2
  obtain⟨u,h3,rfl⟩:=ya_.1 hx;obtain⟨v',h4,h5⟩:=h.get h1;obtain⟨w',h6,h7⟩:=h.get h2;have ox:=qca h1 h4;have oy:=qca h2 h6;simp only[AV.fit]at h5 h7;obtain⟨v',rfl,h5⟩:=h5;obtain⟨w',rfl,h7⟩:=h7;have hxin:∀L:List VX,x∈(if qcJ T dst then [x,y]else [x]):=fun _=>by split<;>simp
  have hapart:∀a,a∈qfQ sx.r sv.r x->a∉qfQ sx.r sv.r y:=fun a ha=>h.qeO (fun n hx hn he=>by
   subst hx;subst he
   exact(qbZ hl).1 n rfl hn (by simp)) ha
  unfold qa7 at h3;split at h3
  ·rename_i g xs gy ys
   simp only[DV.fit]at h5 h7;obtain⟨g',xs',rfl,hfx,htx⟩:=h5;obtain⟨gy',ys',rfl,hfy,hty⟩:=h7;have hlx:=DV.qan hfx;have hly:=DV.qan hfy;split at h3
   ·rename_i hall0
    have hall:∀e:DV,e∈ys->e.cells.length=sz/\e.cells.all DV.isCell=true:=by
     intro e he;have:=List.all_eq_true.1 hall0 e he;simp only[decide_eq_true_eq]at this;exact this
    have hall':=qIT hfy hall;have hall1:ys'.all (fun e=>decide (e.cells.length=sz/\e.cells.all DV.isCell=true))=true:=by
     rw[List.all_eq_true];intro e he;simp only[decide_eq_true_eq];exact hall' e he
    split at h3
    ·rename_i hemp
     simp at hemp;subst hemp
     have:ys'=[]:=by rw[<-List.length_eq_zero_iff];simpa using hly.symm
     subst this;simp at h3;subst h3
     refine qa9 (sv:=sv) (s:=sv) (v:= .d (.sl g' xs')) (by simp only[qbv,h4,h6];simp[qdV]) rfl ?_;have hft:(AV.d (.sl g xs)).fit (.d (.sl g' xs')):=by simp only[AV.fit,DV.fit];exact⟨_,rfl,_,_,rfl,hfx,htx⟩
     refine(h.drops _).put dst hft (Nat.le_succ _) (fun _=>⟨by rw[<-ox];exact h.qbp x,fun a ha=> ?_⟩) (fun a ha _=>ha) (fun _ hi=> .inl hi) _;rw[<-ox]at ha;obtain⟨q1,q2,q3⟩:=h.qcR ha;exact⟨q1,q2,fun hf=>q3 (hf.le (Nat.le_succ _)),fun ℓ _=>h.qdA (hxin []) ha ℓ⟩
    ·rename_i hne0
     have hne:ys≠[]:=by simpa using hne0
     have hne':ys'≠[]:=by intro he;subst he;simp at hly;exact hne hly
     have hemp':ys'.isEmpty=false:=by cases ys'<;>simp_all
     split at h3
     ·rename_i hc
      obtain⟨hbytes,rfl,hxall0⟩:=hc;simp at h3;subst h3
      have hxall:∀e:DV,e∈xs->e.cells.length=sz:=by
       intro e he;have:=List.all_eq_true.1 hxall0 e he;simpa using this
      have hbytes':(xs'.length+ys'.length)*bytes<=140737488355328:=by rw[<-hlx,<-hly];exact hbytes
      have hel:∀e:DV,e∈xs'++ys'->e.cells.length=sz:=by
       intro e he;rcases List.mem_append.1 he with he|he
       ·exact qOU hfx hxall e he
       ·exact(hall' e he).1
      have hfit:(AV.d (.sl U (xs++ys))).fit (.d (.sl (.own ((sv.c+i)::p) sz) (xs'++ys'))):=by
       simp only[AV.fit,DV.fit];refine⟨_,rfl,_,_,rfl,DV.qaZ hfx hfy,.inr ⟨rfl,.inr ⟨by simp[hne],_,_,rfl,hel⟩⟩⟩
      have hown:(AV.d (.sl U (xs++ys))).own (.d (.sl (.own ((sv.c+i)::p) sz) (xs'++ys')))=((sv.c+i)::p)::(DV.owns xs xs'++DV.owns ys ys'):=by
       simp only[AV.own,DV.own];rw[if_pos ⟨trivial,by simp[hne]⟩,DV.qaY hlx];simp[Tag.ids]
      have hxs:∀a,a∈DV.owns xs xs'->a∈qfQ sx.r sv.r x:=fun a ha=>by rw[ox];simp[AV.own,DV.own,ha]
      have hys:∀a,a∈DV.owns ys ys'->a∈qfQ sx.r sv.r y:=fun a ha=>by rw[oy];simp[AV.own,DV.own,ha]
      have hnew:∀ℓ,(sv.c+i)::p∉qaj sx.r sx.B sv.r sv.B ℓ:=fun ℓ hm=>(h.held.opn ℓ _ hm).2.2 (Fut.self p _)
      have hnewx:∀z,(sv.c+i)::p∉qfQ sx.r sv.r z:=fun z hm=>by
       obtain⟨n,rfl,_,h8⟩:=h.qdY hm;exact hnew (.reg n) h8
      have hnd:(((sv.c+i)::p)::(DV.owns xs xs'++DV.owns ys ys')).Nodup:=by
       rw[List.nodup_cons,List.nodup_append];refine⟨fun hm=> ?_,(h.qbp x).sublist (by rw[ox];simp only[AV.own,DV.own];exact List.sublist_append_right _ _),(h.qbp y).sublist (by rw[oy];simp only[AV.own,DV.own];exact List.sublist_append_right _ _),fun a ha b hb he=> ?_⟩
       ·rcases List.mem_append.1 hm with hm|hm
        ·exact hnewx x (hxs _ hm)
        ·exact hnewx y (hys _ hm)
       ·subst he;exact hapart a (hxs a ha) (hys a hb)
      have hV:∃A',qdV sv ((sv.c+i)::p) sz bytes (.sl g' xs') (.sl gy' ys')=some (.d (.sl (.own ((sv.c+i)::p) sz) (xs'++ys')),{sv with A:=A'})/\A' ((sv.c+i)::p)=true/\
       (∀a,sv.A a=true->(a∉qfQ sx.r sv.r x\/a∈DV.owns xs xs')->A' a=true)/\∀a,A' a=true->sv.A a=true\/(Fut p 0 a/\¬Fut p (sv.c+i+1) a):=by
       rcases htx with h8|⟨_,h8⟩
       ·exact absurd h8 (by decide)
       rcases h8 with⟨h9,h10⟩|⟨h9,a0,sz',rfl,h11⟩
       ·have hx0:xs'=[]:=by rw[<-List.length_eq_zero_iff];omega
        subst hx0;refine⟨Ids.add ((sv.c+i)::p) sv.A,?_,by simp[Ids.add],fun a ha _=>by simp[Ids.add,ha],qxM p _ sv.A⟩;have hb0:(([]:List DV).length+ys'.length)*bytes<=140737488355328:=hbytes';unfold qdV;simp only;rw[if_pos hall1,hemp'];simp only[Bool.false_eq_true,if_false];rw[if_pos hb0];rcases h10 with rfl|⟨a0,s0,rfl⟩<;>simp
       ·have hxne:xs'≠[]:=by intro he;subst he;simp at hlx;exact h9 (by rw[hlx];rfl)
        have hxemp:xs'.isEmpty=false:=by cases xs'<;>simp_all
        have hs:sz'=sz:=by
         obtain⟨e,he⟩:=List.exists_mem_of_ne_nil xs' hxne;rw[<-h11 e he,hel e (by simp[he])]
        have ha0x:a0∈qfQ sx.r sv.r x:=by rw[ox];simp only[AV.own,DV.own];rw[if_pos ⟨trivial,h9⟩];simp[Tag.ids]
        obtain⟨ha0,_,_⟩:=h.qcR ha0x;refine⟨Ids.add ((sv.c+i)::p) (Ids.del a0 sv.A),?_,by simp[Ids.add],fun a ha hor=> ?_,fun a ha=>(qxM p _ _ a ha).imp_left fun h=>by simp[Ids.del]at h;exact h.2⟩
        ·unfold qdV
         simp only;rw[if_pos hall1,hemp'];simp only[Bool.false_eq_true,if_false];rw[if_pos hbytes',hxemp];simp only[Bool.false_eq_true,if_false];rw[if_pos ⟨hs,ha0⟩]
        ·have hne2:a≠a0:=by
          rintro rfl
          rcases hor with hor|hor
          ·exact hor ha0x
          ·have:=h.qbp x
           rw[ox]at this;simp only[AV.own,DV.own]at this;rw[if_pos ⟨trivial,h9⟩]at this;simp only[Tag.ids,List.singleton_append,List.nodup_cons]at this;exact this.1 hor
         simp[Ids.add,Ids.del,hne2,ha]
      obtain⟨A',hV1,hV2,hV3,hV4⟩:=hV;refine qa9 (sv:=sv) (s:={sv with A:=A'}) (v:= .d (.sl (.own ((sv.c+i)::p) sz) (xs'++ys'))) (by simp only[qbv,h4,h6,hV1,Option.map_some]) rfl ?_;refine(h.drops _).put dst hfit (Nat.le_succ _) (fun hT=> ?_) (fun a ha hor=>hV3 a ha (.inl ?_)) hV4 _
      ·rw[hown]
       refine⟨hnd,fun a ha=> ?_⟩;simp only[hT,if_true];rcases List.mem_cons.1 ha with rfl|ha
       ·refine⟨hV2,fun hF=>(h.held.fr _ hF).2 (Fut.self p _),Fut.qpi (Nat.lt_succ_self _),fun ℓ _ hm=> ?_⟩
        refine hnew ℓ ?_;cases ℓ with
        |reg t=>simp only[qaj,qb4]at hm⊢;split at hm<;>first|(simp at hm;done)|exact hm
        |box j=>exact hm
       ·rcases List.mem_append.1 ha with ha|ha
        ·obtain⟨q1,q2,q3⟩:=h.qcR (hxs a ha)
         exact⟨hV3 a q1 (.inr ha),q2,fun hf=>q3 (hf.le (Nat.le_succ _)),fun ℓ _=>h.qdA (by simp) (hxs a ha) ℓ⟩
        ·obtain⟨q1,q2,q3⟩:=h.qcR (hys a ha)
         exact⟨hV3 a q1 (.inl fun hm=>hapart a hm (hys a ha)),q2,fun hf=>q3 (hf.le (Nat.le_succ _)),fun ℓ _=>h.qdA (by simp) (hys a ha) ℓ⟩
      ·intro hm
       rcases hor with hF|⟨ℓ,hℓ⟩
       ·exact(h.qcR hm).2.1 hF
       ·exact h.qdA (hxin []) hm ℓ hℓ
     ·simp at h3
   ·simp at h3
  ·simp at h3
 ·simp at hx
theorem qBa{dst:Option Nat}{x:VX}{k:Nat}{gd:Option (Nat×Bool)}{af:List Nat}(h:Rel A0 T F p (sv.c+i) sx sv)(hx:xOp X lin T draw L0 ⟨dst,.extract x k,gd,af⟩ sx=some sx'):qcH A0 T F p V draw L0 i ⟨dst,.extract x k,gd,af⟩ sv sx':=by
 simp only[xOp]at hx;split at hx
 ·rename_i vs h1
  obtain⟨v,h2,rfl⟩:=ya_.1 hx;obtain⟨w,h3,h4⟩:=h.get h1;simp only[AV.fit]at h4;obtain⟨us,rfl,h5,h6⟩:=h4;obtain⟨u,h7,h8⟩:=AV.qcS h5 h2;refine qa9 (sv:=sv) (s:=sv) (v:=u) (by simp only[qbv,evP,h3,h7,Option.map_some]) rfl ?_;exact h.put0 dst (AV.qcg _ _ h8) (AV.qbH _ _) (Nat.le_succ _) _
 ·rename_i vs h1
  obtain⟨v,h2,rfl⟩:=ya_.1 hx;obtain⟨w,h3,h4⟩:=h.get h1;have ox:=qca h1 h3;simp only[AV.fit,DV.fit]at h4;obtain⟨_,rfl,us,rfl,h5⟩:=h4;obtain⟨u,h6,h7⟩:=DV.qcS h5 h2;have hft:(AV.d v).fit (.d u):=by simp only[AV.fit];exact⟨_,rfl,h7⟩
  refine qa9 (sv:=sv) (s:=sv) (v:= .d u) (by simp only[qbv,evP,h3,h6,Option.map_some]) rfl ?_;have hk:k<vs.length:=(List.getElem?_eq_some_iff.1 h2).1;have hk':k<us.length:=(List.getElem?_eq_some_iff.1 h6).1;have hsub:(v.own u).Sublist (DV.owns vs us):=DV.qce h2 h6;simp only[AV.own,DV.own]at ox;cases hT:qcJ T dst with
  |false=>
   have key:Rel A0 T F p (sv.c+i+1) (qbI T sx dst (.d v)) {(sv.put dst (.d u))with c:=sv.c}:=h.put dst hft (Nat.le_succ _) (fun h'=>by rw[hT]at h';simp at h') (fun a ha _=>ha) (fun _ hi=> .inl hi) _;cases x with
   |c q=>exact key
   |t n=>simp only[Bool.false_and,Bool.false_eq_true,if_false];exact key
  |true=>
   have none:(v.own u=[])->Rel A0 T F p (sv.c+i+1) (qbI T sx dst (.d v)) {(sv.put dst (.d u))with c:=sv.c}:=fun h0=>h.put0 dst hft (by simpa[AV.own]using h0) (Nat.le_succ _) _
   cases x with
   |c q=>
    refine none ?_;rw[qz8]at ox;rw[<-ox]at hsub;exact List.sublist_nil.1 hsub
   |t n=>
    cases hn:T.contains n with
    |false=>
     simp only[hn,Bool.and_false,Bool.false_eq_true,if_false];refine none ?_;rw[qmq,h.nl n hn]at ox;rw[<-ox]at hsub;exact List.sublist_nil.1 hsub
    |true=>
     simp only[hn,Bool.and_self,if_true];rw[qmq]at ox;have hset:us.set k u=us:=by
      apply List.ext_getElem?;intro j
      by_cases hj:k=j
      ·subst hj;rw[List.getElem?_set_self',h6];simp
      ·rw[List.getElem?_set_ne hj]
     have hfs:=qjK h5 (i:=k) (DV.qcg _ _ h7);have hos:=qe3 h5 hk v.clr u;have hov:=qe3 h5 hk v u;have hvset:vs.set k v=vs:=by
      apply List.ext_getElem?;intro j
      by_cases hj:k=j
      ·subst hj;rw[List.getElem?_set_self',h2];simp
      ·rw[List.getElem?_set_ne hj]
     rw[hset]at hfs hos;rw[hset,hvset]at hov;rw[DV.qbH,List.append_nil]at hos;have hrn:qcK ((n,AV.d (.tup (vs.set k v.clr)))::sx.r) sv.r n=DV.owns (vs.take k) (us.take k)++DV.owns (vs.drop (k+1)) (us.drop (k+1)):=by
      have h3':lk sv.r n=some (.d (.tup us)):=h3;unfold qcK;rw[h3'];simp only[lk,if_true,AV.own,DV.own];exact hos
     have hrt:∀t,t≠n->qcK ((n,AV.d (.tup (vs.set k v.clr)))::sx.r) sv.r t=qcK sx.r sv.r t:=fun t ht=>by
      unfold qcK;simp only[lk];rw[if_neg ht]
     have hsubn:(qcK ((n,AV.d (.tup (vs.set k v.clr)))::sx.r) sv.r n).Sublist (qcK sx.r sv.r n):=by
      rw[hrn,ox,hov,yh_];exact List.Sublist.append (List.Sublist.refl _) (List.sublist_append_right _ _)
     have hR:Rel A0 T F p (sv.c+i) ⟨(n,.d (.tup (vs.set k v.clr)))::sx.r,sx.B⟩ sv:=by
      refine⟨fun t y hy=> ?_,h.boxes,h.held.shrink (fun ℓ=> ?_) (fun a ha _=>ha) (fun _ hf=>hf),fun t ht=> ?_,fun t ht=> ?_,h.am⟩
      ·simp only[lk]at hy
       split at hy
       ·rename_i he;subst he
        simp at hy;subst hy
        exact⟨_,h3,by simp only[AV.fit,DV.fit];exact⟨_,rfl,_,rfl,hfs⟩⟩
       ·exact h.regs t y hy
      ·cases ℓ with
       |reg t=>
        simp only[qaj]
        by_cases ht:t=n
        ·subst ht;exact hsubn
        ·rw[hrt t ht];exact List.Sublist.refl _
       |box j=>exact List.Sublist.refl _
      ·have:t≠n:=by rintro rfl;rw[hn]at ht;simp at ht
       rw[hrt t this];exact h.nl t ht
      ·simp only[lk]at ht
       split at ht
       ·simp at ht
       ·exact h.no t ht
     have hnd:=h.held.nodup (.reg n);simp only[qaj]at hnd;rw[ox,hov,yh_]at hnd;refine hR.put dst hft (Nat.le_succ _) (fun _=>⟨?_,fun a ha=> ?_⟩) (fun a ha _=>ha) (fun _ hi=> .inl hi) _
     ·exact(List.nodup_append.1 (List.nodup_append.1 hnd).2.1).1
     ·simp only[AV.own]at ha
      have ha2:a∈qaj sx.r sx.B sv.r sv.B (.reg n):=by simp only[qaj];rw[ox];exact hsub.subset ha
      obtain⟨q1,q2,q3⟩:=h.held.opn _ a ha2;refine⟨q1,q2,fun hf=>q3 (hf.le (Nat.le_succ _)),fun ℓ _ hm=> ?_⟩;cases ℓ with
      |reg t=>
       simp only[qaj]at hm
       by_cases ht:t=n
       ·subst ht
        rw[hrn]at hm;rw[List.nodup_append]at hnd;obtain⟨_,n2,n3⟩:=hnd;rw[List.nodup_append]at n2;rcases List.mem_append.1 hm with hm|hm
        ·exact n3 a hm a (by simp[ha]) rfl
        ·exact n2.2.2 a ha a hm rfl
       ·rw[hrt t ht]at hm
        have:=h.held.apart (.reg n) (.reg t) a ha2 hm;simp at this;exact ht this.symm
      |box j=>
       have:=h.held.apart (.reg n) (.box j) a ha2 hm;simp at this
 ·simp at hx
theorem qQp{o:VOper}(hg:o.op.gen=true)(h:Rel A0 T F p (sv.c+i) sx sv)(hx:(evP sx.r o.op).map (fun v=>qbI T sx o.dst v.clr)=some sx')(hop:qbv V p draw L0 i o sv=(evP sv.r o.op).map fun v=>sv.put o.dst v):qcH A0 T F p V draw L0 i o sv sx':=by
 obtain⟨a,h1,rfl⟩:=ya_.1 hx;obtain⟨v,h2,h3⟩:=qUM h.er hg h1;refine qa9 (sv:=sv) (s:=sv) (v:=v) (by rw[hop,h2];rfl) rfl ?_;exact h.put0 o.dst h3 (AV.qbH _ _) (Nat.le_succ _) _
theorem qsh{dst:Option Nat}{sz:Nat}{arr:Option Nat}{x y:VX}{gd:Option (Nat×Bool)}{af:List Nat}(h:Rel A0 T F p (sv.c+i) sx sv)(hx:xOp X lin T draw L0 ⟨dst,.indexAddr sz arr x y,gd,af⟩ sx=some sx'):qcH A0 T F p V draw L0 i ⟨dst,.indexAddr sz arr x y,gd,af⟩ sv sx':=by
 have gen:(evP sx.r (.indexAddr sz arr x y)).map (fun v=>qbI T sx dst v.clr)=some sx'->qcH A0 T F p V draw L0 i ⟨dst,.indexAddr sz arr x y,gd,af⟩ sv sx':=fun hx=>qQp (o:=⟨dst,.indexAddr sz arr x y,gd,af⟩) (by rfl) h hx (by rfl)
 simp only[xOp]at hx;unfold qex at hx;split at hx
 ·rename_i n hT
  split at hx
  ·rename_i g xs kd k h1 h2
   split at hx
   ·rename_i hk0
    obtain⟨e,h4,h5⟩:=yb_.1 hx;split at h5
    ·rename_i hsz
     simp only[Option.some.injEq]at h5;subst h5;obtain⟨w,h3,hf⟩:=h.get h1;have hy:=h.getInt h2;have ox:=qca h1 h3;simp only[AV.fit,DV.fit]at hf;obtain⟨_,rfl,g',ys,rfl,hfs0,hg⟩:=hf;obtain⟨e',h6,h7⟩:=DV.qcS hfs0 h4;have hlen:e'.cells.length=sz:=by rw[DV.qbK h7];exact hsz.1
     have hfc:=DV.qbt h7;have hft:(AV.ep e.cells).fit (.ep e'.cells):=by simp only[AV.fit];exact⟨_,rfl,hfc⟩
     have hoc:DV.owns e.cells e'.cells=e.own e':=DV.qdB h7;refine qa9 (sv:=sv) (s:=sv) (v:= .ep e'.cells) (by simp only[qbv,evP,h3,hy,if_pos hk0,h6,Option.bind_some,if_pos (And.intro hlen hsz.2),Option.map_some]) rfl ?_;have hk:k.toNat<xs.length:=(List.getElem?_eq_some_iff.1 h4).1;have hsub:(e.own e').Sublist (DV.owns xs ys):=DV.qce h4 h6;simp only[AV.own,DV.own]at ox;cases hn:T.contains n with
     |false=>
      simp only[Bool.false_eq_true,if_false];refine h.put0 dst hft ?_ (Nat.le_succ _) _;rw[qmq,h.nl n hn]at ox;have:DV.owns xs ys=[]:=(List.append_eq_nil_iff.1 ox.symm).2;rw[this]at hsub;simp only[AV.own];rw[hoc];exact List.sublist_nil.1 hsub
     |true=>
      simp only[if_true];rw[qmq]at ox;have hset:ys.set k.toNat e'=ys:=by
       apply List.ext_getElem?;intro j
       by_cases hj:k.toNat=j
       ·subst hj;rw[List.getElem?_set_self',h6];simp
       ·rw[List.getElem?_set_ne hj]
      have hfs:=qjK hfs0 (i:=k.toNat) (DV.qcg _ _ h7);have hos:=qe3 hfs0 hk e.clr e';have hov:=qe3 hfs0 hk e e';have hvset:xs.set k.toNat e=xs:=by
       apply List.ext_getElem?;intro j
       by_cases hj:k.toNat=j
       ·subst hj;rw[List.getElem?_set_self',h4];simp
       ·rw[List.getElem?_set_ne hj]
      rw[hset]at hfs hos;rw[hset,hvset]at hov;rw[DV.qbH,List.append_nil]at hos;have hrn:qcK ((n,AV.d (.sl g (xs.set k.toNat e.clr)))::sx.r) sv.r n=(if g=U/\xs.length≠0 then g'.ids else [])++(DV.owns (xs.take k.toNat) (ys.take k.toNat)++DV.owns (xs.drop (k.toNat+1)) (ys.drop (k.toNat+1))):=by
       have h3':lk sv.r n=some (.d (.sl g' ys)):=h3;unfold qcK;rw[h3'];simp only[lk,if_true,AV.own,DV.own,List.length_set];rw[hos]
      have hrt:∀t,t≠n->qcK ((n,AV.d (.sl g (xs.set k.toNat e.clr)))::sx.r) sv.r t=qcK sx.r sv.r t:=fun t ht=>by
       unfold qcK;simp only[lk];rw[if_neg ht]
      have ox2:qcK sx.r sv.r n=(if g=U/\xs.length≠0 then g'.ids else [])++(DV.owns (xs.take k.toNat) (ys.take k.toNat)++(e.own e'++DV.owns (xs.drop (k.toNat+1)) (ys.drop (k.toNat+1)))):=by
       rw[ox,hov,yh_]
      have hsubn:(qcK ((n,AV.d (.sl g (xs.set k.toNat e.clr)))::sx.r) sv.r n).Sublist (qcK sx.r sv.r n):=by
       rw[hrn,ox2];exact List.Sublist.append (List.Sublist.refl _) (List.Sublist.append (List.Sublist.refl _) (List.sublist_append_right _ _))
      have hR:Rel A0 T F p (sv.c+i) ⟨(n,.d (.sl g (xs.set k.toNat e.clr)))::sx.r,sx.B⟩ sv:=by
       refine⟨fun t y hy=> ?_,h.boxes,h.held.shrink (fun ℓ=> ?_) (fun a ha _=>ha) (fun _ hf=>hf),fun t ht=> ?_,fun t ht=> ?_,h.am⟩
       ·simp only[lk]at hy
        split at hy
        ·rename_i he;subst he
         simp at hy;subst hy
         exact⟨_,h3,by simp only[AV.fit,DV.fit];exact⟨_,rfl,g',ys,rfl,hfs,by rw[List.length_set];exact hg⟩⟩
        ·exact h.regs t y hy
       ·cases ℓ with
        |reg t=>
         simp only[qaj]
         by_cases ht:t=n
         ·subst ht;exact hsubn
         ·rw[hrt t ht];exact List.Sublist.refl _
        |box j=>exact List.Sublist.refl _
       ·have:t≠n:=by rintro rfl;rw[hn]at ht;simp at ht
        rw[hrt t this];exact h.nl t ht
       ·simp only[lk]at ht
        split at ht
        ·simp at ht
        ·exact h.no t ht
      have hnd:=h.held.nodup (.reg n);simp only[qaj]at hnd;rw[ox2]at hnd;rw[List.nodup_append]at hnd;obtain⟨m1,m2,m3⟩:=hnd;rw[List.nodup_append]at m2;obtain⟨p1,p2,p3⟩:=m2;rw[List.nodup_append]at p2;refine hR.put dst hft (Nat.le_succ _) (fun _=>⟨?_,fun a ha=> ?_⟩) (fun a ha _=>ha) (fun _ hi=> .inl hi) _
      ·simp only[AV.own];rw[hoc];exact p2.1
      ·simp only[AV.own]at ha
       rw[hoc]at ha;have ha2:a∈qaj sx.r sx.B sv.r sv.B (.reg n):=by simp only[qaj];rw[ox2];simp[ha]
       obtain⟨q1,q2,q3⟩:=h.held.opn _ a ha2;refine⟨q1,q2,fun hf=>q3 (hf.le (Nat.le_succ _)),fun ℓ _ hm=> ?_⟩;cases ℓ with
       |reg t=>
        simp only[qaj]at hm
        by_cases ht:t=n
        ·subst ht
         rw[hrn]at hm;rcases List.mem_append.1 hm with hm|hm
         ·exact m3 a hm a (by simp[ha]) rfl
         ·rcases List.mem_append.1 hm with hm|hm
          ·exact p3 a hm a (by simp[ha]) rfl
          ·exact p2.2.2 a ha a hm rfl
        ·rw[hrt t ht]at hm
         have:=h.held.apart (.reg n) (.reg t) a ha2 hm;simp at this;exact ht this.symm
       |box j=>
        have:=h.held.apart (.reg n) (.box j) a ha2 hm;simp at this
    ·simp at h5
   ·simp at hx
  ·simp at hx
 ·exact gen hx
end
theorem qgy(agg:Bool)(sz:Nat):∀(n:Nat) (cs ds xs:List DV),DV.fits cs ds->chunks agg sz n cs=some xs->∃ys,chunks agg sz n ds=some ys/\DV.fits xs ys/\(∀e:DV,e∈ys->e.cells.length=sz)/\(DV.owns xs ys).Sublist (DV.owns cs ds)/\xs.length=n
 |0,cs,ds,xs,hf,h=>by simp[chunks]at h;subst h;exact⟨[],rfl,by simp[DV.fits],by simp,by simp[DV.owns],rfl⟩
 |n+1,cs,ds,xs,hf,h=>by
  simp only[chunks]at h;obtain⟨v,h1,h2⟩:=yb_.1 h;split at h2
  ·rename_i hc
   obtain⟨xs',h3,rfl⟩:=ya_.1 h2;obtain⟨u,h4,h5⟩:=qFp hf h1;obtain⟨ys,h6,h7,h8,h9,h10⟩:=qgy agg sz n _ _ xs' (DV.qbs hf sz) h3;refine⟨u::ys,?_,by simp only[DV.fits];exact⟨_,_,rfl,h5,h7⟩,?_,?_,by simp[h10]⟩
   ·simp only[chunks,h4,Option.bind_some]
    rw[if_pos ⟨by rw[DV.qbK h5];exact hc.1,by rw[DV.qcf (DV.qbt h5)];exact hc.2⟩,h6];rfl
   ·intro e he
    rcases List.mem_cons.1 he with rfl|he
    ·rw[DV.qbK h5];exact hc.1
    ·exact h8 e he
   ·simp only[DV.owns]
    rw[DV.qb7 (DV.qan hf) sz];refine List.Sublist.append ?_ h9;unfold cut at h1 h4;cases agg with
    |true=>
     simp only[if_true]at h1 h4;split at h1<;>simp at h1
     split at h4<;>simp at h4
     subst h1;subst h4
     simp only[DV.own];exact List.Sublist.refl _
    |false=>
     simp only[Bool.false_eq_true,if_false]at h1 h4;rcases Nat.eq_zero_or_pos sz with h0|hpos
     ·have:v.cells=[]:=List.length_eq_zero_iff.1 (by rw[hc.1,h0])
      rw[<-DV.qdB h5,this];simp[DV.owns]
     ·exact DV.qce (i:=0) (by rw[List.getElem?_take];simp[hpos,h1]) (by rw[List.getElem?_take];simp[hpos,h4])
  ·simp at h2
theorem qhP{f g:AV->Option DV}(hfg:∀(x v:AV) (d:DV),x.fit v->f x=some d->∃d',g v=some d'/\d.fit d'):∀(xs vs:List AV) (ds:List DV),AV.fits xs vs->qiK f xs=some ds->∃es,qiK g vs=some es/\DV.fits ds es
 | [],vs,ds,hf,h=>by
  simp only[AV.fits]at hf;subst hf
  simp only[qiK,Option.some.injEq]at h;subst h
  exact⟨[],rfl,by simp[DV.fits]⟩
 |x::xs,vs,ds,hf,h=>by
  simp only[AV.fits]at hf;obtain⟨v,vs,rfl,h1,h2⟩:=hf;simp only[qiK]at h;obtain⟨d,h3,h4⟩:=yb_.1 h;obtain⟨ds',h5,rfl⟩:=ya_.1 h4;obtain⟨d',h6,h7⟩:=hfg x v d h1 h3;obtain⟨es,h8,h9⟩:=qhP hfg xs vs ds' h2 h5;exact⟨d'::es,by simp only[qiK,h6,h8,Option.bind_some,Option.map_some],by simp only[DV.fits];exact⟨_,_,rfl,h7,h9⟩⟩
theorem qoV{B Bv:qal}(hb:qbS B Bv):∀(n:Nat) (x v:AV) (d:DV),x.fit v->x.frzC B n=some d->∃d',v.frzC Bv n=some d'/\d.fit d':=by
 have base:∀n (x:DV) (v:AV) (d:DV),(AV.d x).fit v->(AV.d x).frzC B n=some d->∃d',v.frzC Bv n=some d'/\d.fit d':=by
  intro n x v d hf h;simp only[AV.fit]at hf;obtain⟨y,rfl,h1⟩:=hf;cases n<;>(simp only[AV.frzC,Option.some.injEq]at h;subst h;exact⟨y,by simp only[AV.frzC],h1⟩)
 intro n
 induction n with
 |zero=>
  intro x v d hf h;cases x with
  |d x=>exact base 0 x v d hf h
  |_=>simp[AV.frzC]at h
 |succ n ih=>
  intro x v d hf h;cases x with
  |d x=>exact base _ x v d hf h
  |tsl ag i sz m=>
   simp only[AV.fit]at hf;subst hf
   simp only[AV.frzC]at h⊢
   obtain⟨cs,h1,h2⟩:=yb_.1 h;obtain⟨ds,h3,h4⟩:=yb_.1 h2;obtain⟨cs',h5,h6⟩:=hb.get h1;obtain⟨es,h7,h8⟩:=qhP ih cs cs' ds h6 h3;rw[h5,Option.bind_some,h7,Option.bind_some,<-DV.qan h8];split at h4
   ·rename_i hl
    rw[if_pos hl];obtain⟨xs,h9,rfl⟩:=ya_.1 h4;obtain⟨ys,q1,q2,_⟩:=qgy ag sz m ds es xs h8 h9;exact⟨_,by rw[q1];rfl,by simp only[DV.fit];exact⟨_,_,rfl,q2,.inl rfl⟩⟩
   ·simp at h4
  |_=>simp[AV.frzC]at h
theorem qOS{B Bv:qal}(hb:qbS B Bv)(x v:AV)(d:DV)(hf:x.fit v)(h:x.frz B=some d):∃d',v.frz Bv=some d'/\d.fit d':=by
 cases x with
 |ag t cs=>
  cases t with
  |true=>simp only[AV.frz]at h;cases hB:B.length<;>simp[hB,AV.frzC]at h
  |false=>
   simp only[AV.fit]at hf;obtain⟨cs',rfl,h1,_⟩:=hf;simp only[AV.frz]at h⊢
   obtain⟨ds,h2,h3⟩:=yb_.1 h;rw[hb.1]at h2;obtain⟨es,h4,h5⟩:=qhP (qoV hb _) cs cs' ds h1 h2;rw[h4,Option.bind_some,DV.qcf h5];split at h3
   ·rename_i hc
    rw[if_pos hc];simp only[Option.some.injEq]at h3;subst h3
    exact⟨_,rfl,by simp only[DV.fit];exact⟨_,rfl,h5⟩⟩
   ·simp at h3
 |d x=>
  have:=qoV hb B.length _ v d hf (by simpa only[AV.frz]using h);rw[hb.1]at this;simp only[AV.fit]at hf;obtain⟨y,rfl,_⟩:=hf;simpa only[AV.frz]using this
 |tsl ag i sz m=>
  have:=qoV hb B.length _ v d hf (by simpa only[AV.frz]using h);rw[hb.1]at this;simp only[AV.fit]at hf;subst hf
  simpa only[AV.frz]using this
 |_=>simp only[AV.frz]at h;cases hB:B.length<;>simp[hB,AV.frzC]at h
def BF:qal->qal->Prop
 | [],ys=>ys=[]
 |b::bs,ys=>∃cs ds vs,b=some cs/\ys=some ds::vs/\AV.fits cs ds/\AV.owns cs ds=[]/\BF bs vs
theorem BF.append:∀{a c b d:qal},BF a c->BF b d->BF (a++b) (c++d)
 | [],c,b,d,h,h'=>by simp only[BF]at h;subst h;exact h'
 |x::xs,c,b,d,h,h'=>by
  simp only[BF]at h;obtain⟨cs,ds,vs,rfl,rfl,h1,h2,h3⟩:=h;simp only[List.cons_append,BF];exact⟨_,_,_,rfl,rfl,h1,h2,BF.append h3 h'⟩
theorem BF.len:∀{a c:qal},BF a c->a.length=c.length
 | [],c,h=>by simp only[BF]at h;subst h;rfl
 |x::xs,c,h=>by
  simp only[BF]at h;obtain⟨cs,ds,vs,rfl,rfl,_,_,h3⟩:=h;simp[h3.len]
theorem BF.get:∀{a c:qal},BF a c->∀i:Nat,i<a.length->∃cs ds,a[i]?=some (some cs)/\c[i]?=some (some ds)/\AV.fits cs ds/\AV.owns cs ds=[]
 | [],c,h,i,hi=>by simp at hi
 |x::xs,c,h,i,hi=>by
  simp only[BF]at h;obtain⟨cs,ds,vs,rfl,rfl,h1,h2,h3⟩:=h;cases i with
  |zero=>exact⟨cs,ds,rfl,rfl,h1,h2⟩
  |succ i=>simpa using h3.get i (by simpa using hi)
theorem BF.one{cs ds:List AV}(h1:AV.fits cs ds)(h2:AV.owns cs ds=[]):BF [some cs] [some ds]:=by simp only[BF];exact⟨_,_,_,rfl,rfl,h1,h2,rfl⟩
theorem qEt{x v:DV}(h:x.fit v):qtH v=qtH x:=by
 cases x<;>simp only[DV.fit]at h
 case agg cs=>obtain⟨ds,rfl,h1⟩:=h;rfl
 case sl g xs=>obtain⟨g',ys,rfl,h1,h2⟩:=h;rfl
 case tup cs=>obtain⟨ds,rfl,h1⟩:=h;rfl
 all_goals subst h;rfl
mutual
theorem qBn:∀(x v:DV) (b:Nat),x.fit v->AV.fits (thw b x.clr).1 (thw b v).1/\AV.owns (thw b x.clr).1 (thw b v).1=[]/\BF (thw b x.clr).2 (thw b v).2
 | .int k n,v,b,h=>by simp only[DV.fit]at h;subst h;simp only[DV.clr,thw];exact⟨AV.qb8 (by simp only[AV.fit];exact⟨_,rfl,by simp only[DV.fit]⟩),by simp[AV.owns,AV.own,DV.own],by simp[BF]⟩
 | .bool k,v,b,h=>by simp only[DV.fit]at h;subst h;simp only[DV.clr,thw];exact⟨AV.qb8 (by simp only[AV.fit];exact⟨_,rfl,by simp only[DV.fit]⟩),by simp[AV.owns,AV.own,DV.own],by simp[BF]⟩
 | .str k,v,b,h=>by simp only[DV.fit]at h;subst h;simp only[DV.clr,thw];exact⟨AV.qb8 (by simp only[AV.fit];exact⟨_,rfl,by simp only[DV.fit]⟩),by simp[AV.owns,AV.own,DV.own],by simp[BF]⟩
 | .tup vs,v,b,h=>by
  have h0:=DV.qcg _ _ h;have h1:=DV.qbH (.tup vs) v;simp only[DV.fit]at h;obtain⟨ds,rfl,h2⟩:=h;simp only[DV.clr]at h0 h1⊢
  simp only[thw];exact⟨AV.qb8 (by simp only[AV.fit];exact⟨_,rfl,h0⟩),by simp only[AV.owns,AV.own,h1];rfl,by simp[BF]⟩
 | .agg cs,v,b,h=>by
  simp only[DV.fit]at h;obtain⟨ds,rfl,h1⟩:=h;simp only[DV.clr,thw];exact qjJ cs ds b h1
 | .sl g [],v,b,h=>by
  simp only[DV.fit,DV.fits]at h;obtain⟨g',ys,rfl,rfl,h2⟩:=h;simp only[DV.clr,DV.clrs,thw];exact⟨AV.qb8 (by simp only[AV.fit];exact⟨_,rfl,by simp only[DV.fit,DV.fits];exact⟨_,_,rfl,rfl,.inl rfl⟩⟩),by simp[AV.owns,AV.own,DV.own,DV.owns],by simp[BF]⟩
 | .sl g (x::xs),v,b,h=>by
  simp only[DV.fit]at h;obtain⟨g',ys,rfl,h1,h2⟩:=h;have h3:=qjJ (x::xs) ys b h1;simp only[DV.fits]at h1;obtain⟨y,ys',rfl,h4,h5⟩:=h1;simp only[DV.clr,DV.clrs]at h3⊢
  simp only[thw];have h6:=DV.qcg _ _ h4;rw[qEt h6,DV.qbK h6,<-h3.2.2.len,<-DV.qan h5,DV.qcy];exact⟨AV.qb8 (by simp only[AV.fit]),by simp[AV.owns,AV.own],BF.append h3.2.2 (BF.one h3.1 h3.2.1)⟩
theorem qjJ:∀(xs vs:List DV) (b:Nat),DV.fits xs vs->AV.fits (qeZ b (DV.clrs xs)).1 (qeZ b vs).1/\AV.owns (qeZ b (DV.clrs xs)).1 (qeZ b vs).1=[]/\BF (qeZ b (DV.clrs xs)).2 (qeZ b vs).2
 | [],vs,b,h=>by simp only[DV.fits]at h;subst h;simp only[DV.clrs,qeZ];exact⟨by simp[AV.fits],by simp[AV.owns],by simp[BF]⟩
 |x::xs,vs,b,h=>by
  simp only[DV.fits]at h;obtain⟨v,vs,rfl,h1,h2⟩:=h;obtain⟨q1,q2,q3⟩:=qBn x v b h1;obtain⟨q4,q5,q6⟩:=qjJ xs vs (b+(thw b x.clr).2.length) h2;simp only[DV.clrs,qeZ];rw[<-q3.len];exact⟨AV.qaZ q1 q4,by rw[AV.qaY (AV.qan q1),q2,q5];rfl,BF.append q3 q6⟩
end
theorem qcZ(x v:DV)(b:Nat)(h:x.fit v):(qaV b x.clr).1.fit (qaV b v).1/\(qaV b x.clr).1.own (qaV b v).1=[]/\BF (qaV b x.clr).2 (qaV b v).2:=by
 have one:∀y:DV,x=y->(∀cs,y≠.agg cs)->(qaV b x.clr).1.fit (qaV b v).1/\(qaV b x.clr).1.own (qaV b v).1=[]/\BF (qaV b x.clr).2 (qaV b v).2:=by
  intro y hy hn;subst hy;obtain⟨q1,q2,q3⟩:=qBn x v b h;have e1:qaV b x.clr=((thw b x.clr).1.headD .und,(thw b x.clr).2):=by
   cases x<;>first|(exact absurd rfl (hn _))|(simp only[DV.clr];rfl)
  have e2:qaV b v=((thw b v).1.headD .und,(thw b v).2):=by
   cases x<;>simp only[DV.fit]at h
   case agg cs=>exact absurd rfl (hn cs)
   case sl g xs=>obtain⟨g',ys,rfl,_⟩:=h;rfl
   case tup cs=>obtain⟨ds,rfl,_⟩:=h;rfl
   all_goals subst h;rfl
  rw[e1,e2];refine⟨?_,?_,q3⟩
  ·match ha:(thw b x.clr).1,hb:(thw b v).1,q1 with
   | [],ys,h=>simp only[AV.fits]at h;subst h;simp only[List.headD_nil,AV.fit]
   |a::r,ys,h=>simp only[AV.fits]at h;obtain⟨w,ws,rfl,h1,_⟩:=h;exact h1
  ·match ha:(thw b x.clr).1,hb:(thw b v).1,q1,q2 with
   | [],ys,h,_=>simp only[AV.fits]at h;subst h;simp[AV.own]
   |a::r,ys,h,h'=>
    simp only[AV.fits]at h;obtain⟨w,ws,rfl,h1,_⟩:=h
    simp only[AV.owns,List.append_eq_nil_iff]at h';exact h'.1
 cases x with
 |agg cs=>
  simp only[DV.fit]at h;obtain⟨ds,rfl,h1⟩:=h;obtain⟨q1,q2,q3⟩:=qjJ cs ds b h1;simp only[DV.clr,qaV];exact⟨by simp only[AV.fit];exact⟨_,rfl,q1,q2⟩,by simp[AV.own],q3⟩
 |_=>exact one _ rfl (by intro cs;simp)
theorem qj5:∀(xs vs:List DV) (b:Nat),DV.fits xs vs->AV.fits (qbG b (DV.clrs xs)).1 (qbG b vs).1/\AV.owns (qbG b (DV.clrs xs)).1 (qbG b vs).1=[]/\BF (qbG b (DV.clrs xs)).2 (qbG b vs).2
 | [],vs,b,h=>by simp only[DV.fits]at h;subst h;simp only[DV.clrs,qbG];exact⟨by simp[AV.fits],by simp[AV.owns],by simp[BF]⟩
 |x::xs,vs,b,h=>by
  simp only[DV.fits]at h;obtain⟨v,vs,rfl,h1,h2⟩:=h;obtain⟨q1,q2,q3⟩:=qcZ x v b h1;obtain⟨q4,q5,q6⟩:=qj5 xs vs (b+(qaV b x.clr).2.length) h2;simp only[DV.clrs,qbG];rw[<-q3.len];exact⟨by simp only[AV.fits];exact⟨_,_,rfl,q1,q4⟩,by simp only[AV.owns,q2,q5];rfl,BF.append q3 q6⟩
theorem qHm(x v:DV)(b:Nat)(h:x.fit v):(x.clr.thaw b).1.fit (v.thaw b).1/\(x.clr.thaw b).1.own (v.thaw b).1=[]/\BF (x.clr.thaw b).2 (v.thaw b).2:=by
 cases x with
 |tup xs=>
  simp only[DV.fit]at h;obtain⟨vs,rfl,h1⟩:=h;obtain⟨q1,q2,q3⟩:=qj5 xs vs b h1;simp only[DV.clr,DV.thaw];exact⟨by simp only[AV.fit];exact⟨_,rfl,q1,q2⟩,by simp[AV.own],q3⟩
 |agg xs=>
  have h0:=h;simp only[DV.fit]at h;obtain⟨ds,rfl,_⟩:=h;have:=qcZ (.agg xs) _ b h0;simp only[DV.clr]at this⊢
  exact this
 |sl g xs=>
  have h0:=h;simp only[DV.fit]at h;obtain⟨g',ds,rfl,_⟩:=h;have:=qcZ (.sl g xs) _ b h0;simp only[DV.clr]at this⊢
  exact this
 |int k n=>have h0:=h;simp only[DV.fit]at h;subst h;exact qcZ _ _ b h0
 |bool k=>have h0:=h;simp only[DV.fit]at h;subst h;exact qcZ _ _ b h0
 |str k=>have h0:=h;simp only[DV.fit]at h;subst h;exact qcZ _ _ b h0
mutual
theorem qd3:∀(x v:DV),x.fit v->x.allU=true->∃l,v.names=some l/\l.Perm (x.own v)
 | .int k n,v,h,_=>by simp only[DV.fit]at h;subst h;exact⟨[],rfl,by simp[DV.own]⟩
 | .bool k,v,h,_=>by simp only[DV.fit]at h;subst h;exact⟨[],rfl,by simp[DV.own]⟩
 | .str k,v,h,_=>by simp only[DV.fit]at h;subst h;exact⟨[],rfl,by simp[DV.own]⟩
 | .tup vs,v,h,hu=>by simp[DV.allU]at hu
 | .agg cs,v,h,hu=>by
  simp only[DV.fit]at h;obtain⟨ds,rfl,h1⟩:=h;simp only[DV.allU]at hu;simp only[DV.names,DV.own];exact qea cs ds h1 hu
 | .sl g [],v,h,_=>by
  simp only[DV.fit,DV.fits]at h;obtain⟨g',ys,rfl,rfl,_⟩:=h;exact⟨[],by cases g'<;>rfl,by simp[DV.own,DV.owns]⟩
 | .sl g (x::xs),v,h,hu=>by
  simp only[DV.fit]at h;obtain⟨g',ys,rfl,h1,h2⟩:=h;simp only[DV.allU,Bool.and_eq_true,decide_eq_true_eq]at hu;obtain⟨rfl,hu⟩:=hu;obtain⟨l,h3,h4⟩:=qea (x::xs) ys h1 hu;rcases h2 with h5|⟨_,h5⟩
  ·exact absurd h5 (by decide)
  rcases h5 with⟨h6,_⟩|⟨h6,a,sz,rfl,_⟩
  ·simp at h6
  ·simp only[DV.fits]at h1
   obtain⟨y,ys',rfl,_,_⟩:=h1;refine⟨l++[a],by simp only[DV.names,h3,Option.map_some],?_⟩;simp only[DV.own];rw[if_pos ⟨trivial,h6⟩];exact List.perm_append_comm.trans (List.Perm.append (List.Perm.refl _) h4)
theorem qea:∀(xs vs:List DV),DV.fits xs vs->DV.allUs xs=true->∃l,DV.namess vs=some l/\l.Perm (DV.owns xs vs)
 | [],vs,h,_=>by simp only[DV.fits]at h;subst h;exact⟨[],rfl,by simp[DV.owns]⟩
 |x::xs,vs,h,hu=>by
  simp only[DV.fits]at h;obtain⟨v,vs,rfl,h1,h2⟩:=h;simp only[DV.allUs,Bool.and_eq_true]at hu;obtain⟨l1,q1,q2⟩:=qd3 x v h1 hu.1;obtain⟨l2,q3,q4⟩:=qea xs vs h2 hu.2;exact⟨l1++l2,by simp only[DV.namess,q1,q3,Option.bind_some,Option.map_some],by simp only[DV.owns];exact List.Perm.append q2 q4⟩
end
theorem quu(x v:DV)(h:x.fit v)(hu:x.allUT=true):∃l,v.namesT=some l/\l.Perm (x.own v):=by
 cases x with
 |tup xs=>
  simp only[DV.fit]at h;obtain⟨vs,rfl,h1⟩:=h;exact qea xs vs h1 hu
 |agg xs=>
  have h0:=h;simp only[DV.fit]at h;obtain⟨ds,rfl,_⟩:=h;exact qd3 _ _ h0 hu
 |sl g xs=>
  have h0:=h;simp only[DV.fit]at h;obtain⟨g',ds,rfl,_⟩:=h;exact qd3 _ _ h0 hu
 |int k n=>have h0:=h;simp only[DV.fit]at h;subst h;exact qd3 _ _ h0 hu
 |bool k=>have h0:=h;simp only[DV.fit]at h;subst h;exact qd3 _ _ h0 hu
 |str k=>have h0:=h;simp only[DV.fit]at h;subst h;exact qd3 _ _ h0 hu
section
variable {A0:Ids} {T:List Nat} {F:Id->Prop} {p:Id} {sx sx':XS} {sv:St} {X:qaB} {V:qaz} {lin:Nat->List Nat} {draw:Bool} {L0 i:Nat}
theorem Rel.app{k:Nat}(h:Rel A0 T F p k sx sv){Bs Bvs:qal}(hb:BF Bs Bvs):Rel A0 T F p k ⟨sx.r,sx.B++Bs⟩ {sv with B:=sv.B++Bvs}:=by
 have hbl:=hb.len;have hl:=h.boxes.1;have hfit:qbS (sx.B++Bs) (sv.B++Bvs):=by
  refine⟨by simp[hl,hbl],fun i=> ?_⟩
  by_cases hi:i<sx.B.length
  ·rw[ye_ hi,ye_ (by rw[<-hl];exact hi)];exact h.boxes.2 i
  ·rw[yd_ (by omega),yd_ (by rw[<-hl];omega),hl]
   rw[hl]at hi
   by_cases hi2:i-sv.B.length<Bs.length
   ·obtain⟨cs,ds,h1,h2,h3,h4⟩:=hb.get _ hi2
    rw[h1,h2];exact⟨by simp,fun cs' hc=>⟨ds,rfl,by simp at hc;subst hc;exact h3⟩⟩
   ·rw[List.getElem?_eq_none (by omega)];simp
 refine⟨h.regs,hfit,h.held.shrink (fun ℓ=> ?_) (fun a ha _=>ha) (fun _ hf=>hf),h.nl,h.no,h.am⟩;cases ℓ with
 |reg t=>exact List.Sublist.refl _
 |box j=>
  simp only[qaj,qcX,qcu]
  by_cases hi:j<sx.B.length
  ·rw[ye_ hi,ye_ (by rw[<-hl];exact hi)];exact List.Sublist.refl _
  ·rw[yd_ (by omega),yd_ (by rw[<-hl];omega),hl]
   rw[hl]at hi
   by_cases hi2:j-sv.B.length<Bs.length
   ·obtain⟨cs,ds,h1,h2,h3,h4⟩:=hb.get _ hi2
    rw[h1,h2];simp only[h4];exact List.nil_sublist _
   ·rw[List.getElem?_eq_none (by omega:Bs.length<=j-sv.B.length)]
    exact List.nil_sublist _
theorem qbu(v u:AV)(t:Nat):qcK [(0,v)] [(0,u)] t=if t=0 then v.own u else []:=by
 unfold qcK;by_cases ht:t=0<;>simp[lk,ht]
theorem qG6{dst:Option Nat}{z:List DV}{gd:Option (Nat×Bool)}{af:List Nat}(h:Rel A0 T F p (sv.c+i) sx sv)(hx:xOp X lin T draw L0 ⟨dst,.allocE z,gd,af⟩ sx=some sx'):qcH A0 T F p V draw L0 i ⟨dst,.allocE z,gd,af⟩ sv sx':=by
 simp only[xOp]at hx;split at hx
 ·rename_i hc
  simp at hx;subst hx
  have hf:AV.fits (z.map fun z=>AV.d z.cn1) (z.map .d):=by
   have:=AV.qjA (DV.qgj z);rw[List.map_map]at this;exact this
  have ho:AV.owns (z.map fun z=>AV.d z.cn1) (z.map .d)=[]:=by
   have:z.map (fun z=>AV.d z.cn1)=(z.map DV.cn1).map .d:=by rw[List.map_map];rfl
   rw[this,AV.ql9,DV.qfD]
  refine qa9 (sv:=sv) (s:={sv with B:=sv.B++[some (z.map AV.d)]}) (v:= .ptr sv.B.length 0) (by simp only[qbv];rw[if_pos hc]) rfl ?_;rw[h.boxes.1];exact(h.app (BF.one hf ho)).put0 dst (by simp[AV.fit]) (by simp[AV.own]) (Nat.le_succ _) _
 ·simp at hx
theorem qMC(href:qde X V lin){dst:Option Nat}{th:Bool}{f:VX}{args:List VX}{gd:Option (Nat×Bool)}{af:List Nat}(h:Rel A0 T F p (sv.c+i) sx sv)(hx:xOp X lin T draw L0 ⟨dst,.callT th f args,gd,af⟩ sx=some sx'):qcH A0 T F p V draw L0 i ⟨dst,.callT th f args,gd,af⟩ sv sx':=by
 simp only[xOp]at hx;split at hx
 ·rename_i k vs h1 h2
  obtain⟨fv,h3,h4⟩:=h.get h1;simp only[AV.fit]at h4;obtain⟨caps',rfl,hcf,hco⟩:=h4;simp only[AV.fits]at hcf;subst hcf
  obtain⟨vs',h5,hvf,hvl,hvo⟩:=qoS h h2;split at hx
  ·rename_i hd
   obtain⟨ds,hds,hx⟩:=yb_.1 hx;obtain⟨es,hes,hdf⟩:=qhP (qOS h.boxes) vs vs' ds hvf hds;split at hx
   ·rename_i v B hcall
    unfold qeW at hx;split at hx
    ·rename_i hu
     simp only[Option.some.injEq]at hx;have hvf2:=AV.qjA hdf;have hargs:=qlk (LP:=[]) hvf2 0;have hre:∀j,qcK (qao 0 (qcr [] 0 (ds.map .d))) (qao 0 (es.map .d)) j=[]:=by
      intro j;rw[qeA,qhA];cases(ds.map AV.d)[j]? with
      |none=>rfl
      |some a=>cases(es.map AV.d)[j]? with
       |none=>rfl
       |some b=>simp[AV.qbH]
     have hloc:∀ℓ,qaj (qao 0 (qcr [] 0 (ds.map .d))) [] (qao 0 (es.map .d)) [] ℓ=[]:=by
      intro ℓ;cases ℓ with
      |reg t=>exact hre t
      |box j=>simp[qaj,qcX,qcu]
     obtain⟨u,Bv',A1,hV,hfu,_,hh,hnm⟩:=href k _ _ _ _ hcall ((sv.c+i)::p) (es.map .d) [] Ids.none (fun _=>False) hargs ⟨rfl,by simp⟩
      ⟨fun ℓ=>by rw[hloc];simp,fun ℓ ℓ' a ha=>by rw[hloc]at ha;simp at ha,fun ℓ a ha=>by rw[hloc]at ha;simp at ha,fun a ha=>by simp at ha⟩ (fun j _=>hre j) (fun a ha=>by simp[Ids.none]at ha)
     simp only[AV.fit]at hfu;obtain⟨y,rfl,hfy⟩:=hfu;have hown:∀a,a∈(AV.d v).own (.d y)->A1 a=true/\Fut ((sv.c+i)::p) 0 a:=by
      intro a ha;have ha':a∈qaj [(0,AV.d v)] B [(0,.d y)] Bv' (.reg 0):=by simp only[qaj,qbu];simpa using ha
      refine⟨(hh.opn _ a ha').1,?_⟩;rcases hnm a (hh.opn _ a ha').1 with h6|h6
      ·simp[Ids.none]at h6
      ·exact h6
     have hnd:((AV.d v).own (.d y)).Nodup:=by
      have:=hh.nodup (.reg 0);simp only[qaj,qbu]at this;simpa using this
     obtain⟨l,hl1,hl2⟩:=quu v y hfy hu;have hV2:qbv V p draw L0 i ⟨dst,.callT th f args,gd,af⟩ sv=some (if th then{sv with B:=sv.B++(y.thaw sv.B.length).2}.put dst (y.thaw sv.B.length).1 else{sv with A:=Ids.or A1 sv.A}.put dst (.d y)):=by
      simp only[qbv,h3,h5];rw[if_pos hd,hes,Option.bind_some,hV];simp only[qGa,hl1,Option.bind_some];rw[if_pos ⟨hl2.nodup_iff.2 (by simpa[AV.own]using hnd),List.all_eq_true.2 fun a ha=>(hown a (by simpa[AV.own]using hl2.mem_iff.1 ha)).1⟩]
     cases th with
     |false=>
      simp only[if_false,Bool.false_eq_true]at hx hV2;subst hx;refine qa9 (sv:=sv) (s:={sv with A:=Ids.or A1 sv.A}) (v:= .d y) hV2 rfl ?_;refine h.put dst (by simp only[AV.fit];exact⟨_,rfl,hfy⟩) (Nat.le_succ _) (fun _=>⟨hnd,fun a ha=> ?_⟩) (fun a ha _=>by simp[Ids.or,ha]) (fun a ha=>by
       simp only[Ids.or,Bool.or_eq_true]at ha;rcases ha with ha|ha
       ·rcases hnm a ha with h6|h6
        ·simp[Ids.none]at h6
        ·exact .inr ⟨h6.sub.le (Nat.zero_le _),h6.qii (Nat.lt_succ_self _)⟩
       ·exact .inl ha) _
      obtain⟨q1,q2⟩:=hown a ha;exact⟨by simp[Ids.or,q1],fun hF=>(h.held.fr a hF).2 q2.sub,q2.qii (Nat.lt_succ_self _),fun ℓ _ hm=>(h.held.opn ℓ a hm).2.2 q2.sub⟩
     |true=>
      simp only[if_true]at hx hV2;subst hx;obtain⟨t1,t2,t3⟩:=qHm v y sv.B.length hfy;rw[<-h.boxes.1]at t1 t2 t3 hV2;refine qa9 (sv:=sv) (s:={sv with B:=sv.B++(y.thaw sx.B.length).2}) (v:=(y.thaw sx.B.length).1) hV2 rfl ?_;exact(h.app t3).put0 dst t1 t2 (Nat.le_succ _) _
    ·simp at hx
   ·simp at hx
  ·simp at hx
 ·simp at hx
end
section
variable {A0:Ids} {T:List Nat} {F:Id->Prop} {p:Id} {sx sx':XS} {sv:St} {X:qaB} {V:qaz} {lin:Nat->List Nat} {draw:Bool} {L0 i:Nat}
theorem qQq(href:qde X V lin){dst:Option Nat}{iso:Bool}{f:VX}{args:List VX}{gd:Option (Nat×Bool)}{af:List Nat}(h:Rel A0 T F p (sv.c+i) sx sv)(hx:xOp X lin T draw L0 ⟨dst,.call iso f args,gd,af⟩ sx=some sx'):qcH A0 T F p V draw L0 i ⟨dst,.call iso f args,gd,af⟩ sv sx':=by
 simp only[xOp]at hx;split at hx
 ·rename_i k caps vs h1 h2
  obtain⟨fv,h3,h4⟩:=h.get h1;simp only[AV.fit]at h4;obtain⟨caps',rfl,hcf,hco⟩:=h4;obtain⟨vs',h5,hvf,hvl,hvo⟩:=qoS h h2;cases iso with
  |true=>
   simp only[if_true]at hx;split at hx
   ·rename_i ds hds
    split at hx
    ·rename_i v B hcall
     simp at hx;subst hx
     simp only[AV.fits]at hcf;subst hcf
     have hargs:=qlk (LP:=[]) hvf 0;have hre:∀j,qcK (qao 0 (qcr [] 0 vs)) (qao 0 vs') j=[]:=by
      intro j;rw[qeA,qhA];cases vs[j]? with
      |none=>rfl
      |some a=>cases vs'[j]? with
       |none=>rfl
       |some b=>simp[AV.qbH]
     have hloc:∀ℓ,qaj (qao 0 (qcr [] 0 vs)) [] (qao 0 vs') [] ℓ=[]:=by
      intro ℓ;cases ℓ with
      |reg t=>exact hre t
      |box j=>simp[qaj,qcX,qcu]
     obtain⟨u,Bv',A1,hV,hfu,_,hh,hnm⟩:=href k _ _ _ _ hcall ((sv.c+i)::p) vs' [] Ids.none (fun _=>False) hargs ⟨rfl,by simp⟩
      ⟨fun ℓ=>by rw[hloc];simp,fun ℓ ℓ' a ha=>by rw[hloc]at ha;simp at ha,fun ℓ a ha=>by rw[hloc]at ha;simp at ha,fun a ha=>by simp at ha⟩ (fun j _=>hre j) (fun a ha=>by simp[Ids.none]at ha)
     simp only[AV.fit]at hfu;obtain⟨y,rfl,hfy⟩:=hfu;obtain⟨es,hes,_,_⟩:=qdb hds hvf;have hown:∀a,a∈(AV.d v).own (.d y)->A1 a=true/\Fut ((sv.c+i)::p) 0 a:=by
      intro a ha;have ha':a∈qaj [(0,AV.d v)] B [(0,.d y)] Bv' (.reg 0):=by simp only[qaj,qbu];simpa using ha
      refine⟨(hh.opn _ a ha').1,?_⟩;rcases hnm a (hh.opn _ a ha').1 with h6|h6
      ·simp[Ids.none]at h6
      ·exact h6
     refine qa9 (sv:=sv) (s:={sv with A:=Ids.or A1 sv.A}) (v:= .d y) (by simp only[qbv,h3,h5,if_true,hes,hV]) rfl ?_;refine h.put dst (by simp only[AV.fit];exact⟨_,rfl,hfy⟩) (Nat.le_succ _) (fun _=>⟨?_,fun a ha=> ?_⟩) (fun a ha _=>by simp[Ids.or,ha]) (fun a ha=>by
      simp only[Ids.or,Bool.or_eq_true]at ha;rcases ha with ha|ha
      ·rcases hnm a ha with h6|h6
       ·simp[Ids.none]at h6
       ·exact .inr ⟨h6.sub.le (Nat.zero_le _),h6.qii (Nat.lt_succ_self _)⟩
      ·exact .inl ha) _
     ·have:=hh.nodup (.reg 0)
      simp only[qaj,qbu]at this;simpa using this
     ·obtain⟨q1,q2⟩:=hown a ha
      exact⟨by simp[Ids.or,q1],fun hF=>(h.held.fr a hF).2 q2.sub,q2.qii (Nat.lt_succ_self _),fun ℓ _ hm=>(h.held.opn ℓ a hm).2.2 q2.sub⟩
    ·simp at hx
   ·simp at hx
  |false=>
   simp only[Bool.false_eq_true,if_false]at hx;split at hx
   ·rename_i hdis
    split at hx
    ·rename_i v B hcall
     simp at hx;subst hx
     have hargs:=AV.qaZ (qlk (LP:=lin k) hvf 0) hcf;have hdr:=h.drops (qbh (lin k) 0 args);have hlen:(qcr (lin k) 0 vs).length=vs'.length:=by rw[qou];exact AV.qan hvf
     have harg:∀j,qcK (qao 0 (qcr (lin k) 0 vs++caps)) (qao 0 (vs'++caps')) j=[]\/∃x,args[j]?=some x/\(lin k).contains j=true/\qcK (qao 0 (qcr (lin k) 0 vs++caps)) (qao 0 (vs'++caps')) j=qfQ sx.r sv.r x:=by
      intro j;rw[qeA]
      by_cases hj:j<vs'.length
      ·rw[ye_ (by rw[hlen];exact hj),ye_ hj,qhA]
       have hj2:j<vs.length:=by rw[AV.qan hvf];exact hj
       have hj3:j<args.length:=by rw[<-hvl];exact hj2
       simp only[Nat.zero_add];rw[List.getElem?_eq_getElem hj2,List.getElem?_eq_getElem hj];simp only[Option.map_some];cases hc:(lin k).contains j with
       |false=>left;simp only[Bool.false_eq_true,if_false];exact AV.qbH _ _
       |true=>
        right;refine⟨args[j],by simp[hj3],rfl,?_⟩;simp only[if_true];exact hvo j _ _ _ (by simp[hj2]) (by simp[hj]) (by simp[hj3])
      ·left
       rw[yd_ (by rw[hlen];omega),yd_ (by omega),hlen];split
       ·rename_i a b ha hb
        have:=AV.qce ha hb;rw[hco]at this;exact List.sublist_nil.1 this
       ·rfl
     have hmem:∀j a,a∈qcK (qao 0 (qcr (lin k) 0 vs++caps)) (qao 0 (vs'++caps')) j->∃x,args[j]?=some x/\(lin k).contains j=true/\x∈qbh (lin k) 0 args/\a∈qfQ sx.r sv.r x:=by
      intro j a ha;rcases harg j with h0|⟨x,h6,h7,h8⟩
      ·rw[h0]at ha;simp at ha
      ·exact⟨x,h6,h7,qiC _ args 0 j x h6 (by simpa using h7),by rw[<-h8];exact ha⟩
     have hdrop_sub:∀t a,a∈qcK (qb2 T sx.r (qbh (lin k) 0 args)) sv.r t->a∈qcK sx.r sv.r t:=by
      intro t a ha;rw[qb4]at ha;split at ha
      ·simp at ha
      ·exact ha
     have hheld:Held (fun a=>F a\/∃t,a∈qcK (qb2 T sx.r (qbh (lin k) 0 args)) sv.r t) (Fut ((sv.c+i)::p) 0) sv.A (qaj (qao 0 (qcr (lin k) 0 vs++caps)) sx.B (qao 0 (vs'++caps')) sv.B):=by
      refine⟨fun ℓ=> ?_,fun ℓ ℓ' a ha ha'=> ?_,fun ℓ a ha=> ?_,fun a ha=> ?_⟩
      ·cases ℓ with
       |reg j=>
        simp only[qaj];rcases harg j with h0|⟨x,_,_,h8⟩
        ·rw[h0];simp
        ·rw[h8];exact h.qbp x
       |box j=>exact h.held.nodup (.box j)
      ·cases ℓ with
       |reg j=>
        obtain⟨x,g1,g2,g3,g4⟩:=hmem j a ha;cases ℓ' with
        |reg j'=>
         obtain⟨x',g1',g2',g3',g4'⟩:=hmem j' a ha';rcases Nat.lt_trichotomy j j' with hlt|heq|hgt
         ·exact absurd g4' (h.qeO (qf3 args 0 j j' x x' hdis g1 g1' (by simpa using g2) (by simpa using g2') hlt) g4)
         ·rw[heq]
         ·exact absurd g4 (h.qeO (qf3 args 0 j' j x' x hdis g1' g1 (by simpa using g2') (by simpa using g2) hgt) g4')
        |box j'=>
         obtain⟨n,rfl,_,g5⟩:=h.qdY g4;have:=h.held.apart (.reg n) (.box j') a g5 ha';simp at this
       |box j=>
        cases ℓ' with
        |reg j'=>
         obtain⟨x',g1',g2',g3',g4'⟩:=hmem j' a ha';obtain⟨n,rfl,_,g5⟩:=h.qdY g4';have:=h.held.apart (.reg n) (.box j) a g5 ha;simp at this
        |box j'=>exact h.held.apart (.box j) (.box j') a ha ha'
      ·cases ℓ with
       |reg j=>
        obtain⟨x,g1,g2,g3,g4⟩:=hmem j a ha;obtain⟨q1,q2,q3⟩:=h.qcR g4;refine⟨q1,?_,fun hf=>q3 hf.sub⟩
        rintro(hF|⟨t,ht⟩)
        ·exact q2 hF
        ·exact h.qdA g3 g4 (.reg t) ht
       |box j=>
        obtain⟨q1,q2,q3⟩:=h.held.opn (.box j) a ha;refine⟨q1,?_,fun hf=>q3 hf.sub⟩
        rintro(hF|⟨t,ht⟩)
        ·exact q2 hF
        ·have:=h.held.apart (.box j) (.reg t) a ha (hdrop_sub t a ht)
         simp at this
      ·rcases ha with hF|⟨t,ht⟩
       ·exact⟨(h.held.fr a hF).1,fun hf=>(h.held.fr a hF).2 hf.sub⟩
       ·obtain⟨q1,q2,q3⟩:=h.held.opn (.reg t) a (hdrop_sub t a ht)
        exact⟨q1,fun hf=>q3 hf.sub⟩
     obtain⟨u,Bv',A1,hV,hfu,hbf,hh,hnm⟩:=href k _ _ _ _ hcall ((sv.c+i)::p) (vs'++caps') sv.B sv.A _ hargs h.boxes hheld (fun j hj=>by
      rcases harg j with h0|⟨x,_,h7,_⟩
      ·exact h0
      ·rw[hj]at h7;simp at h7) (fun a ha hf=>(h.am a ha).1 hf.sub)
     have hA1:∀a,A1 a=true->¬Fut p (sv.c+i+1) a/\(A0 a=true\/Fut p 0 a):=by
      intro a ha;rcases hnm a ha with h6|h6
      ·exact⟨fun hf=>(h.am a h6).1 (hf.le (Nat.le_succ _)),(h.am a h6).2⟩
      ·exact⟨h6.qii (Nat.lt_succ_self _),.inr (h6.sub.le (Nat.zero_le _))⟩
     have hbase:Rel A0 T F p (sv.c+i+1) ⟨qb2 T sx.r (qbh (lin k) 0 args),B⟩ {sv with A:=A1,B:=Bv'}:=by
      refine⟨hdr.regs,hbf,⟨fun ℓ=> ?_,fun ℓ ℓ' a ha ha'=> ?_,fun ℓ a ha=> ?_,fun a ha=>⟨(hh.fr a (.inl ha)).1,fun hf=>(h.held.fr a ha).2 (hf.le (Nat.le_succ _))⟩⟩,hdr.nl,hdr.no,hA1⟩
      ·cases ℓ with
       |reg t=>exact hdr.held.nodup (.reg t)
       |box j=>exact hh.nodup (.box j)
      ·cases ℓ with
       |reg t=>cases ℓ' with
        |reg t'=>exact hdr.held.apart (.reg t) (.reg t') a ha ha'
        |box j=>exact absurd (.inr ⟨t,ha⟩) (hh.opn (.box j) a ha').2.1
       |box j=>cases ℓ' with
        |reg t=>exact absurd (.inr ⟨t,ha'⟩) (hh.opn (.box j) a ha).2.1
        |box j'=>exact hh.apart (.box j) (.box j') a ha ha'
      ·cases ℓ with
       |reg t=>
        obtain⟨q1,q2,q3⟩:=hdr.held.opn (.reg t) a ha;exact⟨(hh.fr a (.inr ⟨t,ha⟩)).1,q2,fun hf=>q3 (hf.le (Nat.le_succ _))⟩
       |box j=>
        obtain⟨q1,q2,q3⟩:=hh.opn (.box j) a ha;exact⟨q1,fun hF=>q2 (.inl hF),(hA1 a q1).1⟩
     refine qa9 (sv:=sv) (s:={sv with A:=A1,B:=Bv'}) (v:=u) (by simp only[qbv,h3,h5,Bool.false_eq_true,if_false,hV]) rfl ?_;refine hbase.put dst hfu (Nat.le_refl _) (fun _=>⟨?_,fun a ha=> ?_⟩) (fun a ha _=>ha) (fun _ hi=> .inl hi) _
     ·have:=hh.nodup (.reg 0)
      simp only[qaj,qbu]at this;simpa using this
     ·have ha':a∈qaj [(0,v)] B [(0,u)] Bv' (.reg 0):=by simp only[qaj,qbu];simpa using ha
      obtain⟨q1,q2,q3⟩:=hh.opn (.reg 0) a ha';refine⟨q1,fun hF=>q2 (.inl hF),(hA1 a q1).1,fun ℓ _ hm=> ?_⟩;cases ℓ with
      |reg t=>exact q2 (.inr ⟨t,hm⟩)
      |box j=>
       have:=hh.apart (.reg 0) (.box j) a ha' hm;simp at this
    ·simp at hx
   ·simp at hx
 ·simp at hx
theorem qQs(href:qde X V lin){o:VOper}(hl:o.linOK T=true)(h:Rel A0 T F p (sv.c+i) sx sv)(hx:xOp X lin T draw L0 o sx=some sx'):qcH A0 T F p V draw L0 i o sv sx':=by
 obtain⟨dst,op,gd,af⟩:=o;cases op with
 |move x=>exact qQn h hx
 |pick c a b=>exact qQm h hx
 |alloc k z=>exact qME h hx
 |box k x=>exact qVX h hx
 |build z ps=>exact qMD h hl hx
 |buildSlice sz z n ps=>exact qpv h hl hx
 |makeSlice k sz b z x=>exact qsg h hx
 |load ag sz x=>exact qQo h hx
 |store ini sz a x=>exact qA9 h hx
 |storeN sz a x av=>exact qG4 h hx
 |append sz b x y=>exact qG5 h hl hx
 |call iso f args=>exact qQq href h hx
 |callT th f args=>exact qMC href h hx
 |allocE z=>exact qG6 h hx
 |extract x k=>exact qBa h hx
 |indexAddr sz arr x y=>exact qsh h hx
 |_=>exact qQp (by rfl) h hx (by rfl)
theorem qpr{k:Nat}(h:Rel A0 T F p k sx sv){g:Option (Nat×Bool)}{b:Bool}(hw:qcI sx.r g=some b):qcI sv.r g=some b:=by
 cases g with
 |none=>exact hw
 |some q=>
  obtain⟨t,want⟩:=q;simp only[qcI]at hw⊢
  split at hw
  ·rename_i b' h1
   obtain⟨v,h2,h3⟩:=h.regs t _ h1;simp only[AV.fit,DV.fit]at h3;obtain⟨_,rfl,rfl⟩:=h3;rw[h2];exact hw
  ·rename_i h1
   obtain⟨v,h2,h3⟩:=h.regs t _ h1;simp only[AV.fit]at h3;subst h3;rw[h2];exact hw
  ·simp at hw
theorem qim(href:qde X V lin):∀{os:List VOper} {i:Nat} {sx:XS} {sv:St},os.all (VOper.linOK T)=true->Rel A0 T F p (sv.c+i) sx sv->qb9 X lin T draw L0 os sx=some sx'->
 ∃sv',qcQ V p draw L0 i os sv=some sv'/\Rel A0 T F p (sv.c+i+os.length) sx' sv'/\sv'.c=sv.c
 | [],i,sx,sv,_,h,hx=>by simp[qb9]at hx;subst hx;exact⟨sv,rfl,h,rfl⟩
 |o::os,i,sx,sv,hl,h,hx=>by
  simp only[List.all_cons,Bool.and_eq_true]at hl;simp only[qb9]at hx;split at hx
  ·rename_i hw
   obtain⟨s1,h1,h2⟩:=yb_.1 hx;obtain⟨v1,h3,h4,h5⟩:=qQs href hl.1 h h1;obtain⟨v2,h6,h7,h8⟩:=qim href (i:=i+1) hl.2 (by rw[h5];exact h4) h2;refine⟨v2,by simp only[qcQ,qpr h hw,h3,Option.bind_some];exact h6,?_,by rw[h8,h5]⟩;rw[h5]at h7;rw[List.length_cons,show sv.c+i+(os.length+1)=sv.c+(i+1)+os.length by omega];exact h7
  ·rename_i hw
   have h4:Rel A0 T F p (sv.c+i+1) (qbI T sx o.dst .und) (sv.put o.dst .und):=by
    have:=h.put0 o.dst (a:= .und) (v:= .und) (by simp[AV.fit]) (by simp[AV.own]) (Nat.le_succ _) sv.c;rw[qjM]at this;exact this
   have h5:(sv.put o.dst .und).c=sv.c:=qwN _ _;obtain⟨v2,h6,h7,h8⟩:=qim href (i:=i+1) hl.2 (by rw[h5];exact h4) hx;refine⟨v2,by simp only[qcQ,qpr h hw];exact h6,?_,by rw[h8,h5]⟩;rw[h5]at h7;rw[List.length_cons,show sv.c+i+(os.length+1)=sv.c+(i+1)+os.length by omega];exact h7
  ·simp at hx
theorem qgk(r:List (Nat×AV)):∀(live:List Nat) (t:Nat),lk (keep r live) t=if t∈live then lk r t else none
 | [],t=>by simp[keep,lk]
 |a::l,t=>by
  simp only[keep];cases ha:lk r a with
  |none=>
   simp only;rw[qgk r l]
   by_cases ht:t=a
   ·subst ht;simp[ha]
   ·simp[ht]
  |some v=>
   simp only[lk]
   by_cases ht:t=a
   ·subst ht;simp[ha]
   ·simp only[if_neg ht];rw[qgk r l];simp[ht]
theorem qpR(rx rv:List (Nat×AV))(live:List Nat)(t:Nat):qcK (keep rx live) (keep rv live) t=if t∈live then qcK rx rv t else []:=by
 unfold qcK;rw[qgk,qgk]
 by_cases ht:t∈live
 ·simp only[if_pos ht]
 ·simp only[if_neg ht]
theorem Rel.keep{k:Nat}(h:Rel A0 T F p k sx sv)(live:List Nat):Rel A0 T F p k ⟨keep sx.r live,sx.B⟩ {sv with r:=Go.Proofs.YtbcbkiaineacpaaGreat.VS.keep sv.r live}:=by
 refine⟨fun t x hx=> ?_,h.boxes,h.held.shrink (fun ℓ=> ?_) (fun a ha _=>ha) (fun _ hf=>hf),fun t ht=> ?_,fun t ht=> ?_,h.am⟩
 ·simp only[qgk]at hx⊢
  split at hx
  ·rename_i hm;rw[if_pos hm];exact h.regs t x hx
  ·simp at hx
 ·cases ℓ with
  |reg t=>simp only[qaj,qpR];split<;>simp
  |box j=>exact List.Sublist.refl _
 ·simp only[qpR];split
  ·exact h.nl t ht
  ·rfl
 ·simp only[qgk]at ht⊢
  split at ht
  ·rename_i hm;rw[if_pos hm];exact h.no t ht
  ·rename_i hm;rw[if_neg hm]
theorem Rel.more{k:Nat}(h:Rel A0 T F p k sx sv)(n:Nat):Rel A0 T F p k ⟨sx.r,sx.B++List.replicate n none⟩ {sv with B:=sv.B++List.replicate n none}:=by
 refine⟨h.regs,h.boxes.more n,h.held.shrink (fun ℓ=> ?_) (fun a ha _=>ha) (fun _ hf=>hf),h.nl,h.no,h.am⟩;cases ℓ with
 |reg t=>exact List.Sublist.refl _
 |box j=>simp only[qaj,qcX,qFS];exact List.Sublist.refl _
theorem Rel.cut{k:Nat}(h:Rel A0 T F p k sx sv)(n:Nat):Rel A0 T F p k ⟨sx.r,sx.B.take n⟩ {sv with B:=sv.B.take n}:=by
 refine⟨h.regs,h.boxes.take n,h.held.shrink (fun ℓ=> ?_) (fun a ha _=>ha) (fun _ hf=>hf),h.nl,h.no,h.am⟩;cases ℓ with
 |reg t=>exact List.Sublist.refl _
 |box j=>
  simp only[qaj,qcX,qgg]
  by_cases hj:j<n
  ·simp[hj]
  ·simp[hj]
theorem Rel.at{k k' c':Nat}(h:Rel A0 T F p k sx sv)(hk:k<=k'):Rel A0 T F p k' sx {sv with c:=c'}:=by
 have:=h.next hk;exact⟨this.regs,this.boxes,this.held,this.nl,this.no,this.am⟩
theorem qx3(href:qde X V lin){draw:Bool}{na:Nat}{live:List Nat}{ops:List VOper}(hl:ops.all (VOper.linOK T)=true)(h:Rel A0 T F p sv.c sx sv)(hx:qd5 X lin T draw na live ops sx=some sx'):
 ∃sv',qcx V p draw na live ops sv=some sv'/\Rel A0 T F p sv'.c sx' sv':=by
 unfold qd5 at hx;split at hx
 ·simp at hx
 ·rename_i hd
  obtain⟨s1,h1,rfl⟩:=ya_.1 hx;have hm:=h.more na;obtain⟨v1,h2,h3,h4⟩:=qim href (i:=0) (sv:={sv with B:=sv.B++List.replicate na none}) hl (by simpa using hm) h1;rw[h.boxes.1]at h2;simp only at h3 h4;refine⟨{v1 with r:=keep v1.r live,c:=sv.c+ops.length},by unfold qcx;rw[if_neg hd,h2];rfl,?_⟩;have:=(h3.keep live).at (k':=sv.c+ops.length) (c':=sv.c+ops.length) (by omega);exact this
theorem qgM{k:Nat}(h:Rel A0 T F p k sx sv)(m:Nat):∀live:List Nat,qab m (keep sx.r live)=true->qab m (keep sv.r live)=true
 | [],_=>rfl
 |t::ts,hs=>by
  simp only[Go.Proofs.YtbcbkiaineacpaaGreat.VS.keep]at hs⊢
  cases ht:lk sx.r t with
  |none=>
   rw[ht]at hs;rw[h.no t ht];exact qgM h m ts hs
  |some x=>
   rw[ht]at hs;obtain⟨v,h1,h2⟩:=h.regs t x ht;rw[h1];simp only[qab,Bool.and_eq_true]at hs⊢
   exact⟨by rw[AV.qjX _ _ _ h2];exact hs.1,qgM h m ts hs.2⟩
theorem qxZ{L1:Nat}{live:List Nat}(h:Rel A0 T F p sv.c sx sv)(hx:qad L1 live sx=some sx'):∃sv',qqY L1 live sv=some sv'/\Rel A0 T F p sv'.c sx' sv':=by
 unfold qad at hx;split at hx
 ·rename_i hc
  simp at hx;subst hx
  refine⟨{sv with r:=keep sv.r live,B:=sv.B.take L1},?_,(h.keep live).cut L1⟩;unfold qqY;simp only;rw[if_pos ⟨qgM h L1 live hc.1,by rw[<-h.boxes.1];exact hc.2⟩]
 ·simp at hx
theorem qAa{f:XS->Option (Ex×XS)}{g:St->Option (Ex×St)}(hfg:∀sx sv e sx',Rel A0 T F p sv.c sx sv->f sx=some (e,sx')->∃sv',g sv=some (e,sv')/\Rel A0 T F p sv'.c sx' sv')(L1:Nat)(live:List Nat):
 ∀n sx sv e sx',Rel A0 T F p sv.c sx sv->qdP f L1 live n sx=some (e,sx')->∃sv',qls g L1 live n sv=some (e,sv')/\Rel A0 T F p sv'.c sx' sv':=by
 intro n
 induction n with
 |zero=>intro sx sv e sx' h hx;simp[qdP]at hx
 |succ n ih=>
  intro sx sv e sx' h hx;simp only[qdP]at hx;obtain⟨s0,h1,h2⟩:=yb_.1 hx;obtain⟨⟨e1,s1⟩,h3,h4⟩:=yb_.1 h2;obtain⟨v0,h5,h6⟩:=qxZ h h1;obtain⟨v1,h7,h8⟩:=hfg _ _ _ _ h6 h3;simp only[qls,h5,h7,Option.bind_some];cases e1 with
  |normal=>exact ih _ _ _ _ h8 h4
  |exit id=>simp at h4;obtain⟨rfl,rfl⟩:=h4;exact⟨v1,rfl,h8⟩
  |ret=>simp at h4;obtain⟨rfl,rfl⟩:=h4;exact⟨v1,rfl,h8⟩
theorem Rel.getB{k:Nat}(h:Rel A0 T F p k sx sv){x:VX}{b:Bool}(hx:qco sx.r x=some (.d (.bool b))):x.get sv.r=some (.d (.bool b)):=by
 obtain⟨v,h1,h2⟩:=h.get hx;simp only[AV.fit,DV.fit]at h2;obtain⟨y,rfl,rfl⟩:=h2;exact h1
end
section
variable {A0:Ids} {T:List Nat} {F:Id->Prop} {p:Id} {sx sx':XS} {sv:St} {X:qaB} {V:qaz} {lin:Nat->List Nat} {draw:Bool} {L0 i:Nat}
theorem Rel.over{k:Nat}(h:Rel A0 T F p k sx sv)(d:Nat){sx1:XS}(ℓ0:Loc)
 (hregs:∀t x,lk sx1.r t=some x->∃v,lk sv.r t=some v/\x.fit v) (hbox:qbS sx1.B sv.B)
 (hsub:∀ℓ,(qaj sx1.r sx1.B sv.r sv.B ℓ).Sublist (qaj sx.r sx.B sv.r sv.B ℓ)) (hno:∀t,lk sx1.r t=none->lk sx.r t=none)
 {a v:AV} (hf:a.fit v) (hnd:(a.own v).Nodup) (hin:∀j,j∈a.own v->j∈qaj sx.r sx.B sv.r sv.B ℓ0/\j∉qaj sx1.r sx1.B sv.r sv.B ℓ0) {k':Nat} (hk:k<=k') (c':Nat):
 Rel A0 T F p k' (qbI T sx1 (some d) a) {(sv.put (some d) v)with c:=c'}:=by
 have hR:Rel A0 T F p k sx1 sv:=by
  refine⟨hregs,hbox,h.held.shrink hsub (fun a ha _=>ha) (fun _ hf=>hf),fun t ht=> ?_,fun t ht=>h.no t (hno t ht),h.am⟩;have:=hsub (.reg t);simp only[qaj]at this;rw[h.nl t ht]at this;exact List.sublist_nil.1 this
 refine hR.put (some d) hf hk (fun _=>⟨hnd,fun j hj=> ?_⟩) (fun i hi _=>hi) (fun _ hi=> .inl hi) c';obtain⟨q1,q2⟩:=hin j hj;obtain⟨r1,r2,r3⟩:=h.held.opn ℓ0 j q1;refine⟨r1,r2,fun hf=>r3 (hf.le hk),fun ℓ _ hm=> ?_⟩;have:=h.held.apart ℓ0 ℓ j q1 ((hsub ℓ).subset hm);subst this;exact q2 hm
theorem qgc(call:qaz)(p:Id)(draw:Bool)(L0:Nat):∀(a b:List VOper) (i:Nat) (s:St),qcQ call p draw L0 i (a++b) s=(qcQ call p draw L0 i a s).bind (qcQ call p draw L0 (i+a.length) b)
 | [],b,i,s=>by simp[qcQ]
 |o::a,b,i,s=>by
  simp only[List.cons_append,qcQ];split
  ·cases qbv call p draw L0 i o s with
   |none=>rfl
   |some s1=>simp only[Option.bind_some];rw[qgc call p draw L0 a b];rw[List.length_cons,Nat.add_assoc,Nat.add_comm 1]
  ·rw[qgc call p draw L0 a b];rw[List.length_cons,Nat.add_assoc,Nat.add_comm 1]
  ·rfl
theorem qBP{xs ys:List DV}(h:DV.fits xs ys)(l b:Nat):DV.fits (qcp xs l b) ys:=by
 have e:ys=((ys.take b).take l++(ys.take b).drop l)++ys.drop b:=by rw[List.take_append_drop,List.take_append_drop]
 rw[e];unfold qcp;exact DV.qaZ (DV.qaZ (DV.qbl (DV.qbl h b) l) (DV.qcm _ _ (DV.qbs (DV.qbl h b) l))) (DV.qbs h b)
theorem quQ{xs:List DV}(l b:Nat):(qcp xs l b).length=xs.length:=by
 unfold qcp;simp only[yg_,DV.qcy];rw[<-yg_,List.take_append_drop,<-yg_,List.take_append_drop]
theorem qpS{xs ys:List DV}(h:DV.fits xs ys)(l b:Nat):DV.owns (qcp xs l b) ys=DV.owns ((xs.take b).take l) ((ys.take b).take l)++DV.owns (xs.drop b) (ys.drop b):=by
 have e:ys=((ys.take b).take l++(ys.take b).drop l)++ys.drop b:=by rw[List.take_append_drop,List.take_append_drop]
 conv=>lhs;rw[e]
 unfold qcp;have h1:=DV.qbl (DV.qbl h b) l;have h2:=DV.qbs (DV.qbl h b) l;rw[DV.qaY (by simp[DV.qan h1,DV.qan h2,DV.qcy];omega),DV.qaY (DV.qan h1),DV.qer,List.append_nil]
theorem qlK{xs ys:List DV}(h:DV.fits xs ys)(l b:Nat):DV.owns xs ys=DV.owns ((xs.take b).take l) ((ys.take b).take l)++(DV.owns ((xs.take b).drop l) ((ys.take b).drop l)++DV.owns (xs.drop b) (ys.drop b)):=by
 have hl:=DV.qan h;rw[DV.qb7 hl b,DV.qb7 (a:=xs.take b) (c:=ys.take b) (by simp[hl]) l,yh_]
def qGb(A0:Ids)(T:List Nat)(F:Id->Prop)(p:Id)(V:qaz)(draw:Bool)(L0 i:Nat)(f:FOper)(sv:St)(sx':XS):Prop:=
 ∃sv',qcQ V p draw L0 i (f.pre++f.post) sv=some sv'/\Rel A0 T F p (sv.c+i+(f.pre++f.post).length) sx' sv'/\sv'.c=sv.c
theorem qPH{sz:Nat}{xs ys:List DV}(h:DV.fits xs ys)(hx:xs.all (fun e=>decide (e.cells.length=sz))=true):ys.all (fun e=>decide (e.cells.length=sz))=true:=qnG (DV.qcm _ _ h) hx
theorem qZo(href:qde X V lin){d1 a d2:Nat}{b:VX}{d3 sz:Nat}{lo hi:Option VX}{f1 f2 f3:List Nat}(hl:(FOper.sl d1 a d2 b d3 sz lo hi f1 f2 f3).pre.all (VOper.linOK T)=true)(h:Rel A0 T F p (sv.c+i) sx sv){s1:XS}
 (h1:qb9 X lin T draw L0 (FOper.sl d1 a d2 b d3 sz lo hi f1 f2 f3).pre sx=some s1) (hx:qx4 T (.sl d1 a d2 b d3 sz lo hi f1 f2 f3) s1=some sx'):qGb A0 T F p V draw L0 i (.sl d1 a d2 b d3 sz lo hi f1 f2 f3) sv sx':=by
 obtain⟨sv1,e1,R1,c1⟩:=qim href hl h h1;simp only[qx4]at hx;split at hx
 ·rename_i g xs lo' hi' k1 k2 k3
  split at hx
  ·rename_i hc
   obtain⟨⟨ha,hd3,n1,n2,n3⟩,hall⟩:=hc;obtain⟨hh,q1,hx⟩:=yb_.1 hx;obtain⟨ll,q2,hx⟩:=ya_.1 hx;subst hx;have hsame:lk sv1.r d1=lk sv1.r a:=by
    simp only[FOper.pre,qcQ,qcI,qbv,evP]at e1;obtain⟨t1,e2,e3⟩:=yb_.1 e1;obtain⟨va,e4,rfl⟩:=ya_.1 e2;obtain⟨t2,e5,e6⟩:=yb_.1 e3;obtain⟨vb,e7,rfl⟩:=ya_.1 e5;simp only[Option.some.injEq]at e6;subst e6
    simp only[VX.get]at e4;simp only[St.put,lk,if_neg n3,if_neg (Ne.symm n1),if_neg (Ne.symm n2),if_true];exact e4.symm
   obtain⟨w,k4,kf⟩:=R1.regs a _ k1;have kf':=kf;simp only[AV.fit,DV.fit]at kf';obtain⟨_,rfl,g',ys,rfl,hfs,hg⟩:=kf';have hlen:=DV.qan hfs;obtain⟨lv,m1,m2,m3⟩:=qiJ R1.er k2;obtain⟨hv,m4,m5,m6⟩:=qiJ R1.er k3;have z1:qbV ys.length hv=some hh:=by rw[<-hlen,qiv m5 m6];exact q1
   have z2:qbU hh lv=some ll:=by rw[qiu m2 m3];exact q2
   have ev:qcQ V p draw L0 (i+2) [⟨some d3,.slice false sz (.t d1) lo hi,none,f3⟩] sv1=some (sv1.put (some d3) (.d (.sl (if g'= .nil then .nil else .sub) ((ys.take hh).drop ll)))):=by
    simp only[qcQ,qcI,qbv,evP,VX.get,hsame,k4,m1,m4];rw[if_pos (qPH hfs hall),z1];simp only[Option.bind_some,z2,Option.map_some]
   refine⟨_,by rw[qgc,e1];exact ev,?_,by rw[qwN,c1]⟩;have hown0:qcK s1.r sv1.r a=(if g=U/\xs.length≠0 then g'.ids else [])++DV.owns xs ys:=by
    unfold qcK;rw[k1,k4];simp only[AV.own,DV.own]
   have hown1:qcK ((a,AV.d (.sl g (qcp xs ll hh)))::s1.r) sv1.r a=(if g=U/\xs.length≠0 then g'.ids else [])++DV.owns (qcp xs ll hh) ys:=by
    unfold qcK;rw[k4];simp only[lk,if_true,AV.own,DV.own,quQ]
   have hrt:∀t,t≠a->qcK ((a,AV.d (.sl g (qcp xs ll hh)))::s1.r) sv1.r t=qcK s1.r sv1.r t:=fun t ht=>by
    unfold qcK;simp only[lk];rw[if_neg ht]
   have hnd:=R1.held.nodup (.reg a);simp only[qaj]at hnd;rw[hown0,qlK hfs ll hh]at hnd;obtain⟨u1,u2,u3⟩:=List.nodup_append.1 hnd;obtain⟨v1,v2,v3⟩:=List.nodup_append.1 u2;obtain⟨w1,w2,w3⟩:=List.nodup_append.1 v2;have hmo:(AV.d (.sl .sub ((xs.take hh).drop ll))).own (.d (.sl (if g'= .nil then .nil else .sub) ((ys.take hh).drop ll)))=DV.owns ((xs.take hh).drop ll) ((ys.take hh).drop ll):=by
    simp[AV.own,DV.own,U]
   have hres:=R1.over d3 (sx1:=⟨(a,AV.d (.sl g (qcp xs ll hh)))::s1.r,s1.B⟩) (.reg a) (a:= .d (.sl .sub ((xs.take hh).drop ll))) (v:= .d (.sl (if g'= .nil then .nil else .sub) ((ys.take hh).drop ll)))
    (fun t x hxt=>by
     simp only[lk]at hxt;split at hxt
     ·rename_i ht;subst ht
      simp only[Option.some.injEq]at hxt;subst hxt
      refine⟨_,k4,?_⟩;simp only[AV.fit,DV.fit];exact⟨_,rfl,_,_,rfl,qBP hfs ll hh,by rw[quQ];exact hg⟩
     ·exact R1.regs t x hxt)
    R1.boxes
    (fun ℓ=>by
     cases ℓ with
     |box j=>exact List.Sublist.refl _
     |reg t=>
      simp only[qaj]
      by_cases ht:t=a
      ·subst ht
       rw[hown0,hown1,qpS hfs,qlK hfs ll hh];exact List.Sublist.append (List.Sublist.refl _) (List.Sublist.append (List.Sublist.refl _) (List.sublist_append_right _ _))
      ·rw[hrt t ht];exact List.Sublist.refl _)
    (fun t ht=>by
     simp only[lk]at ht;split at ht
     ·simp at ht
     ·exact ht)
    (by simp only[AV.fit,DV.fit];exact⟨_,rfl,_,_,rfl,DV.qbs (DV.qbl hfs hh) ll,Tag.qPL _ _ _⟩)
    (by rw[hmo];exact w1)
    (fun j hj=>by
     rw[hmo]at hj;simp only[qaj];rw[hown0,hown1,qpS hfs,qlK hfs ll hh];refine⟨by simp[hj],fun hm=> ?_⟩;rcases List.mem_append.1 hm with hm|hm
     ·exact u3 j hm j (by simp[hj]) rfl
     ·rcases List.mem_append.1 hm with hm|hm
      ·exact v3 j hm j (by simp[hj]) rfl
      ·exact w3 j hj j hm rfl)
    (k':=sv.c+i+3) (by simp[FOper.pre]) sv.c
   have hput:({(sv1.put (some d3) (.d (.sl (if g'= .nil then .nil else .sub) ((ys.take hh).drop ll))))with c:=sv.c}:St)=sv1.put (some d3) (.d (.sl (if g'= .nil then .nil else .sub) ((ys.take hh).drop ll))):=by rw[<-c1,qjM]
   rw[hput]at hres;simpa[FOper.pre,FOper.post]using hres
  ·simp at hx
 ·simp at hx
theorem qrU{cs ds:List AV}(h:AV.fits cs ds){k:Nat}{v:AV}(hv:ds[k]?=some v)(x:AV):AV.owns (cs.set k x) ds=AV.owns (cs.take k) (ds.take k)++(x.own v++AV.owns (cs.drop (k+1)) (ds.drop (k+1))):=by
 have hl:=AV.qan h;have hk:k<ds.length:=(List.getElem?_eq_some_iff.1 hv).1;have e1:cs.set k x=cs.take k++(x::cs.drop (k+1)):=by rw[List.set_eq_take_append_cons_drop,if_pos (by omega)]
 have e2:ds=ds.take k++(v::ds.drop (k+1)):=by
  have h3:ds[k]=v:=(List.getElem?_eq_some_iff.1 hv).2
  conv=>lhs;rw[<-List.take_append_drop k ds,List.drop_eq_getElem_cons hk,h3]
 rw[e1]
 conv=>lhs;rw[e2]
 rw[AV.qaY (by simp[hl])];rfl
theorem qF5{l:List AV}{k:Nat}{v:AV}(h:l[k]?=some v):l.set k v=l:=by
 apply List.ext_getElem?;intro j
 by_cases hj:k=j
 ·subst hj;rw[List.getElem?_set_self',h];simp
 ·rw[List.getElem?_set_ne hj]
theorem qh0{l:List DV}{k:Nat}{v:DV}(h:l[k]?=some v):l.set k v=l:=by
 apply List.ext_getElem?;intro j
 by_cases hj:k=j
 ·subst hj;rw[List.getElem?_set_self',h];simp
 ·rw[List.getElem?_set_ne hj]
theorem qF6{cs ds:List AV}(h:AV.fits cs ds){k:Nat}{x v:AV}(hv:ds[k]?=some v)(hx:x.fit v):AV.fits (cs.set k x) ds:=by
 refine(AV.qbE _ _).2 ⟨by simp[AV.qan h],fun i q q' h4 h5=> ?_⟩;have hk:k<cs.length:=by rw[AV.qan h];exact(List.getElem?_eq_some_iff.1 hv).1
 by_cases hi:i=k
 ·subst hi
  rw[List.getElem?_set_self hk]at h4;rw[hv]at h5;simp only[Option.some.injEq]at h4 h5;subst h4;subst h5;exact hx
 ·rw[List.getElem?_set_ne (Ne.symm hi)]at h4
  exact((AV.qbE _ _).1 h).2 i q q' h4 h5
theorem qZp(href:qde X V lin){d1 q d2:Nat}{b:VX}{d3 sz d4:Nat}{f1 f2 f3 f4:List Nat}(hl:(FOper.el d1 q d2 b d3 sz d4 f1 f2 f3 f4).pre.all (VOper.linOK T)=true)(h:Rel A0 T F p (sv.c+i) sx sv){s1:XS}
 (h1:qb9 X lin T draw L0 (FOper.el d1 q d2 b d3 sz d4 f1 f2 f3 f4).pre sx=some s1) (hx:qx4 T (.el d1 q d2 b d3 sz d4 f1 f2 f3 f4) s1=some sx'):qGb A0 T F p V draw L0 i (.el d1 q d2 b d3 sz d4 f1 f2 f3 f4) sv sx':=by
 obtain⟨sv1,e1,R1,c1⟩:=qim href hl h h1;simp only[qx4]at hx;split at hx
 ·rename_i bx off ik k k1 k2
  split at hx
  ·rename_i hc
   obtain⟨⟨hd4,n1,n2,n3,n4,n5⟩,hk0,hz⟩:=hc;obtain⟨cs,q1,hx⟩:=yb_.1 hx;split at hx
   ·rename_i g xs q2
    split at hx
    ·rename_i es q3
     split at hx
     ·rename_i hes
      simp only[Option.some.injEq]at hx;subst hx
      obtain⟨w,k4,kf⟩:=R1.regs q _ k1;simp only[AV.fit]at kf;subst kf
      obtain⟨w,k5,kf⟩:=R1.regs d2 _ k2;simp only[AV.fit,DV.fit]at kf;obtain⟨_,rfl,rfl⟩:=kf;obtain⟨ds,q4,hfs⟩:=R1.boxes.get q1;obtain⟨w,q5,qf⟩:=AV.qcS hfs q2;have qf':=qf;simp only[AV.fit,DV.fit]at qf';obtain⟨_,rfl,g',ys,rfl,hys,hg⟩:=qf';obtain⟨e',q6,ef⟩:=DV.qcS hys q3;have ef':=ef;simp only[DV.fit]at ef';obtain⟨es',rfl,hes'⟩:=ef';have hlen:es'.length=sz:=by rw[<-DV.qan hes'];exact hes
      have hrow:lk sv1.r d3=some (.ep es'):=by
       simp only[FOper.pre,qcQ,qcI,qbv,evP]at e1;obtain⟨t1,e2,e3⟩:=yb_.1 e1;obtain⟨t2,e5,e6⟩:=yb_.1 e3;obtain⟨vb,e7,rfl⟩:=ya_.1 e5;obtain⟨t3,e8,e9⟩:=yb_.1 e6;obtain⟨vc,e10,rfl⟩:=ya_.1 e8;simp only[Option.some.injEq]at e9;subst e9
       simp only[St.put]at e2 e3 e5 e7 e10 k4 k5 q4 q5⊢
       simp only[VX.get]at e2;have hput:∀(c:AV),t1={sv with r:=(d1,c)::sv.r}->lk sv.r q=some (.ptr bx off)/\t1.B=sv.B:=fun c hc=>by
        subst hc;simp only[lk,if_neg (Ne.symm n3),if_neg (Ne.symm n2),if_neg (Ne.symm n1)]at k4;exact⟨k4,rfl⟩
       have h2:lk sv.r q=some (.ptr bx off):=by
        split at e2
        ·obtain⟨v,_,e4⟩:=ya_.1 e2;exact(hput _ e4.symm).1
        ·split at e2
         ·simp at e2
         ·obtain⟨v,_,e4⟩:=ya_.1 e2;exact(hput _ e4.symm).1
        ·simp at e2
       rw[h2]at e2;simp only at e2;split at e2
       ·simp at e2
       ·obtain⟨v,e4,rfl⟩:=ya_.1 e2
        simp only[qak]at e4;simp only at q4;rw[q4]at e4;simp only[Option.bind_some,Bool.false_eq_true,if_false]at e4;rw[q5]at e4;simp only[Option.some.injEq]at e4;subst e4
        simp only[lk,if_true,VX.get,if_neg n4,if_neg (Ne.symm n5)]at e10 k5⊢
        simp only[Option.some.injEq]at k5;subst k5
        simp only at e10;rw[if_pos hk0,q6]at e10;simp only[Option.bind_some,DV.cells,hlen]at e10;rw[if_pos ⟨trivial,hz⟩]at e10;exact e10.symm
      have ev:qcQ V p draw L0 (i+3) [⟨some d4,.load true sz (.t d3),none,f4⟩] sv1=some (sv1.put (some d4) (.d (.agg es'))):=by
       simp only[qcQ,qcI,qbv,VX.get,hrow,cut,if_true];rw[if_pos (by omega),List.take_of_length_le (by omega)];simp only[Option.map_some,Option.bind_some]
      refine⟨_,by rw[qgc,e1];exact ev,?_,by rw[qwN,c1]⟩;have hk:k.toNat<xs.length:=(List.getElem?_eq_some_iff.1 q3).1;have hb:bx<s1.B.length:=(List.getElem?_eq_some_iff.1 (qcD.1 q1)).1;have hfx:=qjK hys (i:=k.toNat) (x:=(DV.agg es).clr) (DV.qcg _ _ ef);rw[qh0 q6]at hfx;have hox:=qe3 hys hk (DV.agg es).clr (.agg es');rw[qh0 q6,DV.qbH,List.append_nil]at hox;have hoa:=qe3 hys hk (DV.agg es) (.agg es');rw[qh0 q6,qh0 q3]at hoa;have hbset:sv1.B.set bx (some ds)=sv1.B:=by
       apply List.ext_getElem?;intro j
       by_cases hj:bx=j
       ·subst hj;rw[List.getElem?_set_self',qcD.1 q4];simp
       ·rw[List.getElem?_set_ne hj]
      have hnf:(AV.d (.sl g (xs.set k.toNat (DV.agg es).clr))).fit (.d (.sl g' ys)):=by
       simp only[AV.fit,DV.fit];exact⟨_,rfl,_,_,rfl,hfx,by rw[List.length_set];exact hg⟩
      have hcf:=qF6 hfs q5 hnf;have hbf:=R1.boxes.set bx hcf;rw[hbset]at hbf;have ho1:=qrU hfs q5 (.d (.sl g (xs.set k.toNat (DV.agg es).clr)));have ho0:=qrU hfs q5 (.d (.sl g xs));rw[qF5 q2]at ho0;simp only[AV.own,DV.own,List.length_set]at ho1 ho0;rw[hox]at ho1;rw[hoa]at ho0;have hbo0:qcX s1.B sv1.B bx=AV.owns cs ds:=by unfold qcX;rw[q1,q4]
      have hbo1:qcX (s1.B.set bx (some (cs.set off (.d (.sl g (xs.set k.toNat (DV.agg es).clr)))))) sv1.B bx=AV.owns (cs.set off (.d (.sl g (xs.set k.toNat (DV.agg es).clr)))) ds:=by
       unfold qcX;rw[qdX hb,q4]
      have hmo:(AV.d (.agg es)).own (.d (.agg es'))=DV.owns es es':=by simp[AV.own,DV.own]
      simp only[DV.own]at ho0;have hnd:=R1.held.nodup (.box bx);simp only[qaj,hbo0]at hnd;rw[ho0]at hnd;have hperm:∀j,j∈DV.owns es es'->j∉AV.owns (cs.set off (.d (.sl g (xs.set k.toNat (DV.agg es).clr)))) ds:=fun j hj hm=>by
       rw[ho1]at hm;obtain⟨u1,u2,u3⟩:=List.nodup_append.1 hnd;obtain⟨v1,v2,v3⟩:=List.nodup_append.1 u2;obtain⟨w1,w2,w3⟩:=List.nodup_append.1 v1;obtain⟨x1,x2,x3⟩:=List.nodup_append.1 w2;obtain⟨y1,y2,y3⟩:=List.nodup_append.1 x1;rcases List.mem_append.1 hm with hm|hm
       ·exact u3 j hm j (by simp[hj]) rfl
       ·rcases List.mem_append.1 hm with hm|hm
        ·rcases List.mem_append.1 hm with hm|hm
         ·exact w3 j hm j (by simp[hj]) rfl
         ·rcases List.mem_append.1 hm with hm|hm
          ·exact y3 j hm j hj rfl
          ·exact x3 j (by simp[hj]) j hm rfl
        ·exact v3 j (by simp[hj]) j hm rfl
      have hres:=R1.over d4 (sx1:=⟨s1.r,s1.B.set bx (some (cs.set off (.d (.sl g (xs.set k.toNat (DV.agg es).clr)))))⟩) (.box bx) (a:= .d (.agg es)) (v:= .d (.agg es'))
       R1.regs hbf
       (fun ℓ=>by
        cases ℓ with
        |reg t=>exact List.Sublist.refl _
        |box j=>
         simp only[qaj]
         by_cases hj:j=bx
         ·subst hj
          rw[hbo0,hbo1,ho0,ho1];exact List.Sublist.append (List.Sublist.refl _) (List.Sublist.append (List.Sublist.append (List.Sublist.refl _) (List.Sublist.append (List.sublist_append_left _ _) (List.Sublist.refl _))) (List.Sublist.refl _))
         ·rw[qia (fun he=>hj he.symm)];exact List.Sublist.refl _)
       (fun t ht=>ht)
       (by simp only[AV.fit,DV.fit];exact⟨_,rfl,_,rfl,hes'⟩)
       (by
        rw[hmo];obtain⟨u1,u2,u3⟩:=List.nodup_append.1 hnd;obtain⟨v1,v2,v3⟩:=List.nodup_append.1 u2;obtain⟨w1,w2,w3⟩:=List.nodup_append.1 v1;obtain⟨x1,x2,x3⟩:=List.nodup_append.1 w2;exact(List.nodup_append.1 x1).2.1)
       (fun j hj=>by
        rw[hmo]at hj;simp only[qaj];rw[hbo0,hbo1];exact⟨by rw[ho0];simp[hj],hperm j hj⟩)
       (k':=sv.c+i+4) (by simp[FOper.pre]) sv.c
      have hput:({(sv1.put (some d4) (.d (.agg es')))with c:=sv.c}:St)=sv1.put (some d4) (.d (.agg es')):=by rw[<-c1,qjM]
      rw[hput]at hres;simpa[FOper.pre,FOper.post]using hres
     ·simp at hx
    ·simp at hx
   ·simp at hx
  ·simp at hx
 ·simp at hx
theorem qJB(href:qde X V lin):∀{fs:List FOper} {i:Nat} {sx:XS} {sv:St},fs.all (fun f=>f.pre.all (VOper.linOK T))=true->Rel A0 T F p (sv.c+i) sx sv->xFs X lin T draw L0 fs sx=some sx'->
 ∃sv',qcQ V p draw L0 i (qhR fs) sv=some sv'/\Rel A0 T F p (sv.c+i+(qhR fs).length) sx' sv'/\sv'.c=sv.c
 | [],i,sx,sv,_,h,hx=>by simp[xFs]at hx;subst hx;exact⟨sv,rfl,h,rfl⟩
 |f::fs,i,sx,sv,hl,h,hx=>by
  simp only[List.all_cons,Bool.and_eq_true]at hl;simp only[xFs]at hx;obtain⟨s1,h1,hx⟩:=yb_.1 hx;obtain⟨s2,h2,hx⟩:=yb_.1 hx;have hup:qGb A0 T F p V draw L0 i f sv s2:=by
   cases f with
   |one o=>
    simp only[qx4,Option.some.injEq]at h2;subst h2
    obtain⟨v1,e1,e2,e3⟩:=qim href hl.1 h h1;exact⟨v1,by simpa[FOper.post]using e1,by simpa[FOper.post]using e2,e3⟩
   |sl d1 a d2 b d3 sz lo hi f1 f2 f3=>exact qZo href hl.1 h h1 h2
   |el d1 q d2 b d3 sz d4 f1 f2 f3 f4=>exact qZp href hl.1 h h1 h2
  obtain⟨v1,e1,e2,e3⟩:=hup;obtain⟨v2,e4,e5,e6⟩:=qJB href (i:=i+(f.pre++f.post).length) hl.2 (by rw[e3,<-Nat.add_assoc];exact e2) hx;refine⟨v2,?_,?_,by rw[e6,e3]⟩
  ·simp only[qhR]
   rw[<-yh_,qgc,e1];exact e4
  ·simp only[qhR]
   rw[<-yh_,yg_ (as:=f.pre++f.post),<-Nat.add_assoc];rw[e3,<-Nat.add_assoc]at e5;exact e5
theorem qsi(href:qde X V lin){na:Nat}{live:List Nat}{fs:List FOper}(hl:fs.all (fun f=>f.pre.all (VOper.linOK T))=true)(h:Rel A0 T F p sv.c sx sv)(hx:qcM X lin T draw na live fs sx=some sx'):
 ∃sv',qcx V p draw na live (qhR fs) sv=some sv'/\Rel A0 T F p sv'.c sx' sv':=by
 unfold qcM at hx;split at hx
 ·simp at hx
 ·rename_i hd
  obtain⟨s1,h1,rfl⟩:=ya_.1 hx;have hm:=h.more na;obtain⟨v1,h2,h3,h4⟩:=qJB href (i:=0) (sv:={sv with B:=sv.B++List.replicate na none}) hl (by simpa using hm) h1;rw[h.boxes.1]at h2;simp only at h3 h4;refine⟨{v1 with r:=keep v1.r live,c:=sv.c+(qhR fs).length},by unfold qcx;rw[if_neg hd,h2];rfl,?_⟩;have:=(h3.keep live).at (k':=sv.c+(qhR fs).length) (c':=sv.c+(qhR fs).length) (by omega);exact this
end
section
variable {A0:Ids} {T:List Nat} {F:Id->Prop} {p:Id} {sx sx':XS} {sv:St} {X:qaB} {V:qaz} {lin:Nat->List Nat} {draw:Bool} {L0 i:Nat}
theorem qnN(href:qde X V lin)(n:Nat):∀(vc:VCode),vc.linOK T=true->∀sx sv e sx',Rel A0 T F p sv.c sx sv->qbq X lin T n vc sx=some (e,sx')->∃sv',qaP V p n vc sv=some (e,sv')/\Rel A0 T F p sv'.c sx' sv':=by
 intro vc
 induction vc with
 |regionF draw na live fs=>
  intro hl sx sv e sx' h hx;simp only[VCode.linOK]at hl;simp only[qbq]at hx;obtain⟨s1,h1,h2⟩:=ya_.1 hx;simp at h2;obtain⟨rfl,rfl⟩:=h2
  obtain⟨v1,h3,h4⟩:=qsi href hl h h1;exact⟨v1,by simp only[qaP,h3,Option.map_some],h4⟩
 |skip=>intro _ sx sv e sx' h hx;simp[qbq]at hx;obtain⟨rfl,rfl⟩:=hx;exact⟨sv,rfl,h⟩
 |ret=>intro _ sx sv e sx' h hx;simp[qbq]at hx;obtain⟨rfl,rfl⟩:=hx;exact⟨sv,rfl,h⟩
 |exit id=>intro _ sx sv e sx' h hx;simp[qbq]at hx;obtain⟨rfl,rfl⟩:=hx;exact⟨sv,rfl,h⟩
 |seq a b iha ihb=>
  intro hl sx sv e sx' h hx;simp only[VCode.linOK,Bool.and_eq_true]at hl;simp only[qbq]at hx;obtain⟨⟨e1,s1⟩,h1,h2⟩:=yb_.1 hx;obtain⟨v1,h3,h4⟩:=iha hl.1 _ _ _ _ h h1;simp only[qaP,h3,Option.bind_some];cases e1 with
  |normal=>exact ihb hl.2 _ _ _ _ h4 h2
  |exit id=>simp at h2;obtain⟨rfl,rfl⟩:=h2;exact⟨v1,rfl,h4⟩
  |ret=>simp at h2;obtain⟨rfl,rfl⟩:=h2;exact⟨v1,rfl,h4⟩
 |region draw na live ops=>
  intro hl sx sv e sx' h hx;simp only[VCode.linOK]at hl;simp only[qbq]at hx;obtain⟨s1,h1,h2⟩:=ya_.1 hx;simp at h2;obtain⟨rfl,rfl⟩:=h2
  obtain⟨v1,h3,h4⟩:=qx3 href hl h h1;exact⟨v1,by simp only[qaP,h3,Option.map_some],h4⟩
 |cond x a b iha ihb=>
  intro hl sx sv e sx' h hx;simp only[VCode.linOK,Bool.and_eq_true]at hl;simp only[qbq]at hx;split at hx
  ·rename_i hc
   obtain⟨v1,h3,h4⟩:=iha hl.1 _ _ _ _ h hx;exact⟨v1,by simp only[qaP,h.getB hc,h3],h4⟩
  ·rename_i hc
   obtain⟨v1,h3,h4⟩:=ihb hl.2 _ _ _ _ h hx;exact⟨v1,by simp only[qaP,h.getB hc,h3],h4⟩
  ·simp at hx
 |block id c ih=>
  intro hl sx sv e sx' h hx;simp only[VCode.linOK]at hl;simp only[qbq]at hx;obtain⟨⟨e1,s1⟩,h1,h2⟩:=ya_.1 hx;obtain⟨v1,h3,h4⟩:=ih hl _ _ _ _ h h1;simp only[qaP,h3,Option.map_some];split at h2
  ·rename_i he
   simp only at he;simp at h2;obtain⟨rfl,rfl⟩:=h2
   rw[if_pos he];exact⟨v1,rfl,h4⟩
  ·rename_i he
   simp only at he;simp at h2;obtain⟨rfl,rfl⟩:=h2
   rw[if_neg he];exact⟨v1,rfl,h4⟩
 |loop live c ih=>
  intro hl sx sv e sx' h hx;simp only[VCode.linOK]at hl;simp only[qbq]at hx;simp only[qaP];rw[h.boxes.1]at hx;exact qAa (fun sx sv e sx' h hx=>ih hl sx sv e sx' h hx) _ live n sx sv e sx' h hx
end
end Go.Proofs.YtbcbkiaineacpaaGreat.VS
